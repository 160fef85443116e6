/- Proved here: for all bytes that are handed in, laws.FnRiseLog returns true (rising adds undo and end records alone). Conditions: none beyond those that the given statement itself bears. -/
import Derived.Test.YtjeodgfkilhkhaaGreatZS1
import Derived.Test.YtjeodgfkilhkhaaGreatZV2
import Derived.Test.YtjeodgfkilhkhaaGreatZI1
import Derived.Test.YtjeodgfkilhkhaaGreatZF1
import Derived.Test.YtjeodgfkilhkhaaGreatZU1
import Derived.Test.YtjeodgfkilhkhaaGreatZA1
import Derived.WalkKit
import Derived.ProofKit
import Derived.OpenShut
import Derived.ShutString
import Derived.ChangeOld
import Derived.Below
import Derived.SizedLaws
set_option linter.unusedVariables false
set_option linter.unusedSimpArgs false
namespace Go.Proofs.YtjeodgfkilhkhaaGreat
open Go.RowKit Go.Proofs.YtjeodgfkilhkhaaGreatW.PrintWords Go.Proofs.YtjeodgfkilhkhaaGreatW.PrintLast Go.Proofs.YtjeodgfkilhkhaaGreatW.PrintMore
set_option maxRecDepth 100000 in
set_option maxHeartbeats 16000000 in
theorem FnRiseLog_calls {w : World} {A : Option Addr} {c : Nat} {xs : List Int} (hcap : xs.length ≤ c) (hx : Bytes xs) (hr : Kd.C (Kd.int .u8) w A xs.length xs) : Calls Tryz.prog 7 #[.slice A xs.length c] w (OJ w):=by
 have HR:=As hr
 have HCAP:=As hcap
 have HBY:=As hx
 have hmx:=(CY hr).2
 clear hcap hx hr
 rcases lts 1048576 (xs.length : Int) with ⟨e1,b1,c1⟩ | ⟨e1,b1,c1⟩
 ·go_enter Tryz.func7,Tryz.ntmps7
  go_wp2
  go_ret
  exact ⟨rfl,Below.refl _ _⟩
 go_enter Tryz.func7,Tryz.ntmps7
 have D0 : True:=trivial
 go_wp2_with (first | (clear D0;go_at_call 21;refine (DrawRiseUp_calls HCAP.out HBY.out (Below.refl w.heap.size w) HR.out).mono ?_;rintro x w1 ⟨E,B1,B2,B3,d1,d2,d3,num,rfl,hcap,hfw,hC,hb1⟩;have HE:=As hC;have HD:=As (And.intro hcap hfw);have HB:=As hb1;clear hcap hfw hC hb1;have D1 : True:=trivial) | (clear D1;with_reducible refine Ca (vd:=.slice B1 E.disk.length d1) (vm:=.slice B2 E.mem.length d2) (vl:=.slice B3 E.log.length d3) E ?_;intro w2 hb hz hq;have HQ:=As hq;have HE:=As (HE.out.up hb);have HB:=As (bj HB.out hb);clear hb hz hq;obtain ⟨x0,x1,x2,x3,x4⟩:=HQ.out.all;have D2 : True:=trivial))
 obtain ⟨X,bb,hX⟩ : ∃ X bb,upR E num = (X,bb):=⟨_,_,rfl⟩
 have HX:=As hX
 clear hX
 cases hv : eOk E
 all_goals have HV:=As hv
 all_goals clear hv
 ·cases bb
  all_goals
   have K0 : True:=trivial
   go_wp2_with (first | (clear K0;go_at_call 22;refine (TK (cd:=d1) (cm:=d2) (cl:=d3) num HD.out.1 (Below.refl _ _) HE.out).mono ?_;rw [HX.out];rintro x w3 ⟨vd,vm,vl,rfl,ho,hb⟩;obtain ⟨J1,j1_,J2,j2_,J3,j3_,rfl,rfl,rfl,hclHJ,hc⟩:=ho.reads;have HJ:=As hc;have HJL:=As hclHJ;have HE:=As (HE.out.up hb);have HQ:=As (HQ.out.up hb);have HB:=As (bj HB.out hb);clear x0 x1 x2 x3 x4;obtain ⟨x0,x1,x2,x3,x4⟩:=HQ.out.all;clear ho hb hc hclHJ;have K1 : True:=trivial) | (clear K1;with_reducible refine Ca (vd:=.slice J1 X.disk.length j1_) (vm:=.slice J2 X.mem.length j2_) (vl:=.slice J3 X.log.length j3_) X ?_;intro w4 hb hz hq;have HQS:=As hq;have HE:=As (HE.out.up hb);have HJ:=As (HJ.out.up hb);have HQ:=As (HQ.out.up hb);have HB:=As (bj HB.out hb);clear x0 x1 x2 x3 x4;obtain ⟨x0,x1,x2,x3,x4⟩:=HQ.out.all;clear hb hz hq;obtain ⟨s0,s1,s2,s3,s4⟩:=HQS.out.all;have K2 : True:=trivial) | (clear K2;go_at_call 23;refine (Wz (cd:=d1) (cm:=d2) (cl:=d3) num HD.out.1 (Below.refl _ _) HE.out).mono ?_;rw [HX.out];rintro x w5 ⟨vd,vm,vl,rfl,ho,hb⟩;obtain ⟨G1,g1_,G2,g2_,G3,g3_,rfl,rfl,rfl,hclHG,hc⟩:=ho.reads;have HG:=As hc;have HGL:=As hclHG;have HE:=As (HE.out.up hb);have HJ:=As (HJ.out.up hb);have HQ:=As (HQ.out.up hb);have HQS:=As (HQS.out.up hb);have HB:=As (bj HB.out hb);clear x0 x1 x2 x3 x4;obtain ⟨x0,x1,x2,x3,x4⟩:=HQ.out.all;clear s0 s1 s2 s3 s4;obtain ⟨s0,s1,s2,s3,s4⟩:=HQS.out.all;clear ho hb hc hclHG;have K3 : True:=trivial) | (clear K3;with_reducible refine Ca (vd:=.slice G1 X.disk.length g1_) (vm:=.slice G2 X.mem.length g2_) (vl:=.slice G3 X.log.length g3_) X ?_;intro w6 hb hz hq;have HQG:=As hq;have HE:=As (HE.out.up hb);have HJ:=As (HJ.out.up hb);have HG:=As (HG.out.up hb);have HQ:=As (HQ.out.up hb);have HQS:=As (HQS.out.up hb);have HB:=As (bj HB.out hb);clear x0 x1 x2 x3 x4;obtain ⟨x0,x1,x2,x3,x4⟩:=HQ.out.all;clear s0 s1 s2 s3 s4;obtain ⟨s0,s1,s2,s3,s4⟩:=HQS.out.all;clear hb hz hq;obtain ⟨g0,g1,g2,g3,g4⟩:=HQG.out.all;have K4 : True:=trivial) | (clear K4;go_at_call 13;refine (UU (e:=X) (cd:=g1_) (cm:=g2_) (cl:=g3_) (dd:=j1_) (dm:=j2_) (dl:=j3_) (Below.refl _ _) HG.out (Below.refl _ _) HJ.out).mono ?_;rintro x w7 ⟨rfl,hb⟩;have HE:=As (HE.out.up hb);have HJ:=As (HJ.out.up hb);have HG:=As (HG.out.up hb);have HQ:=As (HQ.out.up hb);have HQS:=As (HQS.out.up hb);have HQG:=As (HQG.out.up hb);have HB:=As (bj HB.out hb);clear x0 x1 x2 x3 x4;obtain ⟨x0,x1,x2,x3,x4⟩:=HQ.out.all;clear s0 s1 s2 s3 s4;obtain ⟨s0,s1,s2,s3,s4⟩:=HQS.out.all;clear g0 g1 g2 g3 g4;obtain ⟨g0,g1,g2,g3,g4⟩:=HQG.out.all;clear hb;have K5 : True:=trivial) | (clear K5;go_at_call 24;refine (Cw (cd:=d1) (cm:=d2) HV.out HD.out.1 (Below.refl _ _) HE.out).mono ?_;rintro x w9 ⟨rfl,hb⟩;have HE:=As (HE.out.up hb);have HJ:=As (HJ.out.up hb);have HG:=As (HG.out.up hb);have HQ:=As (HQ.out.up hb);have HQS:=As (HQS.out.up hb);have HQG:=As (HQG.out.up hb);have HB:=As (bj HB.out hb);clear x0 x1 x2 x3 x4;obtain ⟨x0,x1,x2,x3,x4⟩:=HQ.out.all;clear s0 s1 s2 s3 s4;obtain ⟨s0,s1,s2,s3,s4⟩:=HQS.out.all;clear g0 g1 g2 g3 g4;obtain ⟨g0,g1,g2,g3,g4⟩:=HQG.out.all;clear hb;have K6 : True:=trivial) | (clear K6;go_at_call 13;refine (UU (e:=X) (cd:=g1_) (cm:=g2_) (cl:=g3_) (dd:=j1_) (dm:=j2_) (dl:=j3_) (Below.refl _ _) HG.out (Below.refl _ _) HJ.out).mono ?_;rintro x w8 ⟨rfl,hb⟩;have HE:=As (HE.out.up hb);have HJ:=As (HJ.out.up hb);have HG:=As (HG.out.up hb);have HQ:=As (HQ.out.up hb);have HQS:=As (HQS.out.up hb);have HQG:=As (HQG.out.up hb);have HB:=As (bj HB.out hb);clear x0 x1 x2 x3 x4;obtain ⟨x0,x1,x2,x3,x4⟩:=HQ.out.all;clear s0 s1 s2 s3 s4;obtain ⟨s0,s1,s2,s3,s4⟩:=HQS.out.all;clear g0 g1 g2 g3 g4;obtain ⟨g0,g1,g2,g3,g4⟩:=HQG.out.all;clear hb;have K7 : True:=trivial))
   go_ret
   exact ⟨rfl,HB.out⟩
 rcases lts num 0 with ⟨e3,b3,c3⟩ | ⟨e3,b3,c3⟩
 ·cases bb
  all_goals
   have K0 : True:=trivial
   go_wp2_with (first | (clear K0;go_at_call 22;refine (TK (cd:=d1) (cm:=d2) (cl:=d3) num HD.out.1 (Below.refl _ _) HE.out).mono ?_;rw [HX.out];rintro x w3 ⟨vd,vm,vl,rfl,ho,hb⟩;obtain ⟨J1,j1_,J2,j2_,J3,j3_,rfl,rfl,rfl,hclHJ,hc⟩:=ho.reads;have HJ:=As hc;have HJL:=As hclHJ;have HE:=As (HE.out.up hb);have HQ:=As (HQ.out.up hb);have HB:=As (bj HB.out hb);clear x0 x1 x2 x3 x4;obtain ⟨x0,x1,x2,x3,x4⟩:=HQ.out.all;clear ho hb hc hclHJ;have K1 : True:=trivial) | (clear K1;with_reducible refine Ca (vd:=.slice J1 X.disk.length j1_) (vm:=.slice J2 X.mem.length j2_) (vl:=.slice J3 X.log.length j3_) X ?_;intro w4 hb hz hq;have HQS:=As hq;have HE:=As (HE.out.up hb);have HJ:=As (HJ.out.up hb);have HQ:=As (HQ.out.up hb);have HB:=As (bj HB.out hb);clear x0 x1 x2 x3 x4;obtain ⟨x0,x1,x2,x3,x4⟩:=HQ.out.all;clear hb hz hq;obtain ⟨s0,s1,s2,s3,s4⟩:=HQS.out.all;have K2 : True:=trivial) | (clear K2;go_at_call 23;refine (Wz (cd:=d1) (cm:=d2) (cl:=d3) num HD.out.1 (Below.refl _ _) HE.out).mono ?_;rw [HX.out];rintro x w5 ⟨vd,vm,vl,rfl,ho,hb⟩;obtain ⟨G1,g1_,G2,g2_,G3,g3_,rfl,rfl,rfl,hclHG,hc⟩:=ho.reads;have HG:=As hc;have HGL:=As hclHG;have HE:=As (HE.out.up hb);have HJ:=As (HJ.out.up hb);have HQ:=As (HQ.out.up hb);have HQS:=As (HQS.out.up hb);have HB:=As (bj HB.out hb);clear x0 x1 x2 x3 x4;obtain ⟨x0,x1,x2,x3,x4⟩:=HQ.out.all;clear s0 s1 s2 s3 s4;obtain ⟨s0,s1,s2,s3,s4⟩:=HQS.out.all;clear ho hb hc hclHG;have K3 : True:=trivial) | (clear K3;with_reducible refine Ca (vd:=.slice G1 X.disk.length g1_) (vm:=.slice G2 X.mem.length g2_) (vl:=.slice G3 X.log.length g3_) X ?_;intro w6 hb hz hq;have HQG:=As hq;have HE:=As (HE.out.up hb);have HJ:=As (HJ.out.up hb);have HG:=As (HG.out.up hb);have HQ:=As (HQ.out.up hb);have HQS:=As (HQS.out.up hb);have HB:=As (bj HB.out hb);clear x0 x1 x2 x3 x4;obtain ⟨x0,x1,x2,x3,x4⟩:=HQ.out.all;clear s0 s1 s2 s3 s4;obtain ⟨s0,s1,s2,s3,s4⟩:=HQS.out.all;clear hb hz hq;obtain ⟨g0,g1,g2,g3,g4⟩:=HQG.out.all;have K4 : True:=trivial) | (clear K4;go_at_call 13;refine (UU (e:=X) (cd:=g1_) (cm:=g2_) (cl:=g3_) (dd:=j1_) (dm:=j2_) (dl:=j3_) (Below.refl _ _) HG.out (Below.refl _ _) HJ.out).mono ?_;rintro x w7 ⟨rfl,hb⟩;have HE:=As (HE.out.up hb);have HJ:=As (HJ.out.up hb);have HG:=As (HG.out.up hb);have HQ:=As (HQ.out.up hb);have HQS:=As (HQS.out.up hb);have HQG:=As (HQG.out.up hb);have HB:=As (bj HB.out hb);clear x0 x1 x2 x3 x4;obtain ⟨x0,x1,x2,x3,x4⟩:=HQ.out.all;clear s0 s1 s2 s3 s4;obtain ⟨s0,s1,s2,s3,s4⟩:=HQS.out.all;clear g0 g1 g2 g3 g4;obtain ⟨g0,g1,g2,g3,g4⟩:=HQG.out.all;clear hb;have K5 : True:=trivial) | (clear K5;go_at_call 24;refine (Cw (cd:=d1) (cm:=d2) HV.out HD.out.1 (Below.refl _ _) HE.out).mono ?_;rintro x w9 ⟨rfl,hb⟩;have HE:=As (HE.out.up hb);have HJ:=As (HJ.out.up hb);have HG:=As (HG.out.up hb);have HQ:=As (HQ.out.up hb);have HQS:=As (HQS.out.up hb);have HQG:=As (HQG.out.up hb);have HB:=As (bj HB.out hb);clear x0 x1 x2 x3 x4;obtain ⟨x0,x1,x2,x3,x4⟩:=HQ.out.all;clear s0 s1 s2 s3 s4;obtain ⟨s0,s1,s2,s3,s4⟩:=HQS.out.all;clear g0 g1 g2 g3 g4;obtain ⟨g0,g1,g2,g3,g4⟩:=HQG.out.all;clear hb;have K6 : True:=trivial) | (clear K6;go_at_call 13;refine (UU (e:=X) (cd:=g1_) (cm:=g2_) (cl:=g3_) (dd:=j1_) (dm:=j2_) (dl:=j3_) (Below.refl _ _) HG.out (Below.refl _ _) HJ.out).mono ?_;rintro x w8 ⟨rfl,hb⟩;have HE:=As (HE.out.up hb);have HJ:=As (HJ.out.up hb);have HG:=As (HG.out.up hb);have HQ:=As (HQ.out.up hb);have HQS:=As (HQS.out.up hb);have HQG:=As (HQG.out.up hb);have HB:=As (bj HB.out hb);clear x0 x1 x2 x3 x4;obtain ⟨x0,x1,x2,x3,x4⟩:=HQ.out.all;clear s0 s1 s2 s3 s4;obtain ⟨s0,s1,s2,s3,s4⟩:=HQS.out.all;clear g0 g1 g2 g3 g4;obtain ⟨g0,g1,g2,g3,g4⟩:=HQG.out.all;clear hb;have K7 : True:=trivial))
   go_ret
   exact ⟨rfl,HB.out⟩
 rcases (show E.down = false ∨ E.down = true by cases E.down <;> simp) with hdn | hdn
 ·have HDN:=As hdn
  clear hdn
  cases bb
  all_goals
   have K0 : True:=trivial
   go_wp2_with (first | (clear K0;go_at_call 22;refine (TK (cd:=d1) (cm:=d2) (cl:=d3) num HD.out.1 (Below.refl _ _) HE.out).mono ?_;rw [HX.out];rintro x w3 ⟨vd,vm,vl,rfl,ho,hb⟩;obtain ⟨J1,j1_,J2,j2_,J3,j3_,rfl,rfl,rfl,hclHJ,hc⟩:=ho.reads;have HJ:=As hc;have HJL:=As hclHJ;have HE:=As (HE.out.up hb);have HQ:=As (HQ.out.up hb);have HB:=As (bj HB.out hb);clear x0 x1 x2 x3 x4;obtain ⟨x0,x1,x2,x3,x4⟩:=HQ.out.all;clear ho hb hc hclHJ;have K1 : True:=trivial) | (clear K1;with_reducible refine Ca (vd:=.slice J1 X.disk.length j1_) (vm:=.slice J2 X.mem.length j2_) (vl:=.slice J3 X.log.length j3_) X ?_;intro w4 hb hz hq;have HQS:=As hq;have HE:=As (HE.out.up hb);have HJ:=As (HJ.out.up hb);have HQ:=As (HQ.out.up hb);have HB:=As (bj HB.out hb);clear x0 x1 x2 x3 x4;obtain ⟨x0,x1,x2,x3,x4⟩:=HQ.out.all;clear hb hz hq;obtain ⟨s0,s1,s2,s3,s4⟩:=HQS.out.all;have K2 : True:=trivial) | (clear K2;go_at_call 23;refine (Wz (cd:=d1) (cm:=d2) (cl:=d3) num HD.out.1 (Below.refl _ _) HE.out).mono ?_;rw [HX.out];rintro x w5 ⟨vd,vm,vl,rfl,ho,hb⟩;obtain ⟨G1,g1_,G2,g2_,G3,g3_,rfl,rfl,rfl,hclHG,hc⟩:=ho.reads;have HG:=As hc;have HGL:=As hclHG;have HE:=As (HE.out.up hb);have HJ:=As (HJ.out.up hb);have HQ:=As (HQ.out.up hb);have HQS:=As (HQS.out.up hb);have HB:=As (bj HB.out hb);clear x0 x1 x2 x3 x4;obtain ⟨x0,x1,x2,x3,x4⟩:=HQ.out.all;clear s0 s1 s2 s3 s4;obtain ⟨s0,s1,s2,s3,s4⟩:=HQS.out.all;clear ho hb hc hclHG;have K3 : True:=trivial) | (clear K3;with_reducible refine Ca (vd:=.slice G1 X.disk.length g1_) (vm:=.slice G2 X.mem.length g2_) (vl:=.slice G3 X.log.length g3_) X ?_;intro w6 hb hz hq;have HQG:=As hq;have HE:=As (HE.out.up hb);have HJ:=As (HJ.out.up hb);have HG:=As (HG.out.up hb);have HQ:=As (HQ.out.up hb);have HQS:=As (HQS.out.up hb);have HB:=As (bj HB.out hb);clear x0 x1 x2 x3 x4;obtain ⟨x0,x1,x2,x3,x4⟩:=HQ.out.all;clear s0 s1 s2 s3 s4;obtain ⟨s0,s1,s2,s3,s4⟩:=HQS.out.all;clear hb hz hq;obtain ⟨g0,g1,g2,g3,g4⟩:=HQG.out.all;have K4 : True:=trivial) | (clear K4;go_at_call 13;refine (UU (e:=X) (cd:=g1_) (cm:=g2_) (cl:=g3_) (dd:=j1_) (dm:=j2_) (dl:=j3_) (Below.refl _ _) HG.out (Below.refl _ _) HJ.out).mono ?_;rintro x w7 ⟨rfl,hb⟩;have HE:=As (HE.out.up hb);have HJ:=As (HJ.out.up hb);have HG:=As (HG.out.up hb);have HQ:=As (HQ.out.up hb);have HQS:=As (HQS.out.up hb);have HQG:=As (HQG.out.up hb);have HB:=As (bj HB.out hb);clear x0 x1 x2 x3 x4;obtain ⟨x0,x1,x2,x3,x4⟩:=HQ.out.all;clear s0 s1 s2 s3 s4;obtain ⟨s0,s1,s2,s3,s4⟩:=HQS.out.all;clear g0 g1 g2 g3 g4;obtain ⟨g0,g1,g2,g3,g4⟩:=HQG.out.all;clear hb;have K5 : True:=trivial) | (clear K5;go_at_call 24;refine (Cw (cd:=d1) (cm:=d2) HV.out HD.out.1 (Below.refl _ _) HE.out).mono ?_;rintro x w9 ⟨rfl,hb⟩;have HE:=As (HE.out.up hb);have HJ:=As (HJ.out.up hb);have HG:=As (HG.out.up hb);have HQ:=As (HQ.out.up hb);have HQS:=As (HQS.out.up hb);have HQG:=As (HQG.out.up hb);have HB:=As (bj HB.out hb);clear x0 x1 x2 x3 x4;obtain ⟨x0,x1,x2,x3,x4⟩:=HQ.out.all;clear s0 s1 s2 s3 s4;obtain ⟨s0,s1,s2,s3,s4⟩:=HQS.out.all;clear g0 g1 g2 g3 g4;obtain ⟨g0,g1,g2,g3,g4⟩:=HQG.out.all;clear hb;rw [HDN.out] at x4;have K6 : True:=trivial) | (clear K6;go_at_call 13;refine (UU (e:=X) (cd:=g1_) (cm:=g2_) (cl:=g3_) (dd:=j1_) (dm:=j2_) (dl:=j3_) (Below.refl _ _) HG.out (Below.refl _ _) HJ.out).mono ?_;rintro x w8 ⟨rfl,hb⟩;have HE:=As (HE.out.up hb);have HJ:=As (HJ.out.up hb);have HG:=As (HG.out.up hb);have HQ:=As (HQ.out.up hb);have HQS:=As (HQS.out.up hb);have HQG:=As (HQG.out.up hb);have HB:=As (bj HB.out hb);clear x0 x1 x2 x3 x4;obtain ⟨x0,x1,x2,x3,x4⟩:=HQ.out.all;clear s0 s1 s2 s3 s4;obtain ⟨s0,s1,s2,s3,s4⟩:=HQS.out.all;clear g0 g1 g2 g3 g4;obtain ⟨g0,g1,g2,g3,g4⟩:=HQG.out.all;clear hb;have K7 : True:=trivial))
   go_ret
   exact ⟨rfl,HB.out⟩
 have HDN:=As hdn
 clear hdn
 obtain ⟨ls,hx1,hx2,hx3,hx4,hx5⟩:=YD HV.out HDN.out e3.out
 rw [HX.out] at hx1 hx4 hx5
 obtain ⟨xd,xm,lx,xs_,xb⟩:=X
 simp only at hx1 hx4 hx5
 subst hx4 hx5
 have hll:=BA (Ct.1 HV.out).log
 have hnd:=Jk hll
 have hlen : lx.length = E.log.length + ls.length:=by rw [hx1,List.length_append]
 have HWR:=As (show IntKind.i64.wrap ((E.log.length : Int) + min num (need E.log : Int)) = (lx.length : Int) by rw [IntWalk.i64_in _ (by have:=e3.out;omega)];have:=e3.out;omega)
 have HTK:=As (show lx.take E.log.length = E.log by rw [hx1,List.take_left])
 have HKD:=As (show ∀ k,E.log.length ≤ k → k < lx.length → (rc lx k).kind = 5 ∨ (rc lx k).kind = 6 from fun k h1 h2 => by have h3 : rc lx k = ls[k - E.log.length]'(by omega):=(by simp [rc,List.getD_eq_getElem?_getD,hx1,List.getElem?_append_right h1];rw [List.getElem?_eq_getElem (by omega)];rfl);rw [h3];exact hx3 _ (List.getElem_mem _))
 have HLE:=As (show E.log.length ≤ lx.length by omega)
 clear hx1 hx2 hx3 hll hnd hlen
 cases bb
 all_goals
  have K0 : True:=trivial
  go_wp2_with (first | (clear K0;go_at_call 22;refine (TK (cd:=d1) (cm:=d2) (cl:=d3) num HD.out.1 (Below.refl _ _) HE.out).mono ?_;rw [HX.out];rintro x w3 ⟨vd,vm,vl,rfl,ho,hb⟩;obtain ⟨J1,j1_,J2,j2_,J3,j3_,rfl,rfl,rfl,hclHJ,hc⟩:=ho.reads;have HJ:=As hc;have HJL:=As hclHJ;have HE:=As (HE.out.up hb);have HQ:=As (HQ.out.up hb);have HB:=As (bj HB.out hb);clear x0 x1 x2 x3 x4;obtain ⟨x0,x1,x2,x3,x4⟩:=HQ.out.all;clear ho hb hc hclHJ;have K1 : True:=trivial) | (clear K1;with_reducible refine Ca (vd:=.slice J1 E.disk.length j1_) (vm:=.slice J2 xm.length j2_) (vl:=.slice J3 lx.length j3_) ⟨E.disk,xm,lx,E.safe,xb⟩ ?_;intro w4 hb hz hq;have HQS:=As hq;have HE:=As (HE.out.up hb);have HJ:=As (HJ.out.up hb);have HQ:=As (HQ.out.up hb);have HB:=As (bj HB.out hb);clear x0 x1 x2 x3 x4;obtain ⟨x0,x1,x2,x3,x4⟩:=HQ.out.all;clear hb hz hq;obtain ⟨s0,s1,s2,s3,s4⟩:=HQS.out.all;have K2 : True:=trivial) | (clear K2;go_at_call 23;refine (Wz (cd:=d1) (cm:=d2) (cl:=d3) num HD.out.1 (Below.refl _ _) HE.out).mono ?_;rw [HX.out];rintro x w5 ⟨vd,vm,vl,rfl,ho,hb⟩;obtain ⟨G1,g1_,G2,g2_,G3,g3_,rfl,rfl,rfl,hclHG,hc⟩:=ho.reads;have HG:=As hc;have HGL:=As hclHG;have HE:=As (HE.out.up hb);have HJ:=As (HJ.out.up hb);have HQ:=As (HQ.out.up hb);have HQS:=As (HQS.out.up hb);have HB:=As (bj HB.out hb);clear x0 x1 x2 x3 x4;obtain ⟨x0,x1,x2,x3,x4⟩:=HQ.out.all;clear s0 s1 s2 s3 s4;obtain ⟨s0,s1,s2,s3,s4⟩:=HQS.out.all;clear ho hb hc hclHG;have K3 : True:=trivial) | (clear K3;with_reducible refine Ca (vd:=.slice G1 E.disk.length g1_) (vm:=.slice G2 xm.length g2_) (vl:=.slice G3 lx.length g3_) ⟨E.disk,xm,lx,E.safe,xb⟩ ?_;intro w6 hb hz hq;have HQG:=As hq;have HE:=As (HE.out.up hb);have HJ:=As (HJ.out.up hb);have HG:=As (HG.out.up hb);have HQ:=As (HQ.out.up hb);have HQS:=As (HQS.out.up hb);have HB:=As (bj HB.out hb);clear x0 x1 x2 x3 x4;obtain ⟨x0,x1,x2,x3,x4⟩:=HQ.out.all;clear s0 s1 s2 s3 s4;obtain ⟨s0,s1,s2,s3,s4⟩:=HQS.out.all;clear hb hz hq;obtain ⟨g0,g1,g2,g3,g4⟩:=HQG.out.all;have K4 : True:=trivial) | (clear K4;go_at_call 13;refine (UU (e:=⟨E.disk,xm,lx,E.safe,xb⟩) (cd:=g1_) (cm:=g2_) (cl:=g3_) (dd:=j1_) (dm:=j2_) (dl:=j3_) (Below.refl _ _) HG.out (Below.refl _ _) HJ.out).mono ?_;rintro x w7 ⟨rfl,hb⟩;have HE:=As (HE.out.up hb);have HJ:=As (HJ.out.up hb);have HG:=As (HG.out.up hb);have HQ:=As (HQ.out.up hb);have HQS:=As (HQS.out.up hb);have HQG:=As (HQG.out.up hb);have HB:=As (bj HB.out hb);clear x0 x1 x2 x3 x4;obtain ⟨x0,x1,x2,x3,x4⟩:=HQ.out.all;clear s0 s1 s2 s3 s4;obtain ⟨s0,s1,s2,s3,s4⟩:=HQS.out.all;clear g0 g1 g2 g3 g4;obtain ⟨g0,g1,g2,g3,g4⟩:=HQG.out.all;clear hb;have K5 : True:=trivial) | (clear K5;go_at_call 24;refine (Cw (cd:=d1) (cm:=d2) HV.out HD.out.1 (Below.refl _ _) HE.out).mono ?_;rintro x w9 ⟨rfl,hb⟩;have HE:=As (HE.out.up hb);have HJ:=As (HJ.out.up hb);have HG:=As (HG.out.up hb);have HQ:=As (HQ.out.up hb);have HQS:=As (HQS.out.up hb);have HQG:=As (HQG.out.up hb);have HB:=As (bj HB.out hb);clear x0 x1 x2 x3 x4;obtain ⟨x0,x1,x2,x3,x4⟩:=HQ.out.all;clear s0 s1 s2 s3 s4;obtain ⟨s0,s1,s2,s3,s4⟩:=HQS.out.all;clear g0 g1 g2 g3 g4;obtain ⟨g0,g1,g2,g3,g4⟩:=HQG.out.all;clear hb;rw [HDN.out] at x4;have K6 : True:=trivial))
  rw [← HDN.out] at x4
  have hle:=HLE.out
  have hg1 : (E.log.length : Int) ≤ (g3_ : Int):=by have:=HGL.out;have : lx.length ≤ g3_:=this;omega
  have hg2 : (E.log.length : Int) ≤ (lx.length : Int):=by omega
  have HTC : A7 (Kd.C kRec w9 G3 E.log.length E.log):=⟨by have h:=Kd.Sw HG.out.l hle;rw [HTK.out] at h;exact h⟩
  refine Bo (fun lx_ a wx => Below w9.heap.size w9 wx) 35 rfl (by kernel_rfl) (Ac (Below.refl _ _)) (fun HT => ?_)
  refine Bw [0,1,2,3,4,5] ?_
  iterate 6 (refine Bq (v:=?_) HT rfl (by kernel_rfl) rfl (Ah) (by rfl) (fun _ _ _ h => h) (fun lx ax wx hS => ?_) ?_;rotate_left;(have hbx:=hS;replace x0:=bc hbx x0;replace x1:=bc hbx x1;replace x2:=bc hbx x2;replace x3:=bc hbx x3;replace x4:=bc hbx x4;replace g0:=bc hbx g0;replace g1:=bc hbx g1;replace g2:=bc hbx g2;replace g3:=bc hbx g3;replace g4:=bc hbx g4;go_simp;with_reducible rfl);rotate_left;simp only [sc0,sc1])
  refine Bv ?_
  refine Cr (i:=6) (f:=25) (args:=#[E.val B1 B2 B3 d1 d2 d3]) (fun v => v = .int .i64 (need E.log : Int)) rfl (by kernel_rfl) rfl Tryz.func25 (by kernel_rfl) rfl rfl (by rfl) (by simp only [List.map_toArray,List.map_cons,List.map_nil];rfl) (fun wx hS => (Vo (cd:=d1) (cm:=d2) (cl:=d3) HD.out.1 hS HE.out).mono (by rw [if_pos HV.out];rintro x wz ⟨rfl,hb⟩;exact ⟨_,rfl,rfl,bj hS hb⟩)) (fun vx hg => ?_);simp only [sc0,sc1]
  subst hg
  refine CZ (i:=7) (v:=?_) HT rfl (by kernel_rfl) rfl (Ah) (by rfl) (fun _ _ _ h => h) (fun lx ax wx hS => ?_) ?_;rotate_left;(have hbx:=hS;replace x0:=bc hbx x0;replace x1:=bc hbx x1;replace x2:=bc hbx x2;replace x3:=bc hbx x3;replace x4:=bc hbx x4;replace g0:=bc hbx g0;replace g1:=bc hbx g1;replace g2:=bc hbx g2;replace g3:=bc hbx g3;replace g4:=bc hbx g4;go_simp;with_reducible rfl);rotate_left;simp only [sc0,sc1]
  refine CZ (i:=8) (v:=?_) HT rfl (by kernel_rfl) rfl (Ah) (by rfl) (fun _ _ _ h => h) (fun lx ax wx hS => ?_) ?_;rotate_left;(have hwr:=HWR.out;have hbx:=hS;replace x0:=bc hbx x0;replace x1:=bc hbx x1;replace x2:=bc hbx x2;replace x3:=bc hbx x3;replace x4:=bc hbx x4;replace g0:=bc hbx g0;replace g1:=bc hbx g1;replace g2:=bc hbx g2;replace g3:=bc hbx g3;replace g4:=bc hbx g4;go_simp;with_reducible rfl);rotate_left;simp only [sc0,sc1]
  refine Bw [9,10,11,12,13,14,15,16] ?_
  iterate 8 (refine Bq (v:=?_) HT rfl (by kernel_rfl) rfl (Ah) (by rfl) (fun _ _ _ h => h) (fun lx ax wx hS => ?_) ?_;rotate_left;(have hbx:=hS;replace x0:=bc hbx x0;replace x1:=bc hbx x1;replace x2:=bc hbx x2;replace x3:=bc hbx x3;replace x4:=bc hbx x4;replace g0:=bc hbx g0;replace g1:=bc hbx g1;replace g2:=bc hbx g2;replace g3:=bc hbx g3;replace g4:=bc hbx g4;go_simp;with_reducible rfl);rotate_left;simp only [sc0,sc1])
  refine Bv ?_
  refine Cr (i:=17) (f:=15) (args:=#[.slice G3 E.log.length g3_, .slice B3 E.log.length d3]) (fun v => v = .bool true) rfl (by kernel_rfl) rfl Tryz.func15 (by kernel_rfl) rfl rfl (by rfl) (by simp only [List.map_toArray,List.map_cons,List.map_nil];rfl) (fun wx hS => (P7 hS HTC.out hS HE.out.l).mono (by rintro x wz ⟨rfl,hb⟩;exact ⟨_,rfl,rfl,bj hS hb⟩)) (fun vx hg => ?_);simp only [sc0,sc1]
  subst hg
  refine Bw [18,19,20,21,22,23,24] ?_
  iterate 7 (refine Bq (v:=?_) HT rfl (by kernel_rfl) rfl (Ah) (by rfl) (fun _ _ _ h => h) (fun lx ax wx hS => ?_) ?_;rotate_left;(have hbx:=hS;replace x0:=bc hbx x0;replace x1:=bc hbx x1;replace x2:=bc hbx x2;replace x3:=bc hbx x3;replace x4:=bc hbx x4;replace g0:=bc hbx g0;replace g1:=bc hbx g1;replace g2:=bc hbx g2;replace g3:=bc hbx g3;replace g4:=bc hbx g4;go_simp;with_reducible rfl);rotate_left;simp only [sc0,sc1])
  refine Bv ?_
  refine Cr (i:=25) (f:=14) (args:=#[.slice G1 E.disk.length g1_, .slice B1 E.disk.length d1]) (fun v => v = .bool true) rfl (by kernel_rfl) rfl Tryz.func14 (by kernel_rfl) rfl rfl (by rfl) (by simp only [List.map_toArray,List.map_cons,List.map_nil];rfl) (fun wx hS => (Kt hS HG.out.d hS HE.out.d).mono (by rintro x wz ⟨rfl,hb⟩;exact ⟨_,rfl,rfl,bj hS hb⟩)) (fun vx hg => ?_);simp only [sc0,sc1]
  subst hg
  refine Bw [26,27,28,29,30,31,32,33,34] ?_
  iterate 9 (refine Bq (v:=?_) HT rfl (by kernel_rfl) rfl (Ah) (by rfl) (fun _ _ _ h => h) (fun lx ax wx hS => ?_) ?_;rotate_left;(have hbx:=hS;replace x0:=bc hbx x0;replace x1:=bc hbx x1;replace x2:=bc hbx x2;replace x3:=bc hbx x3;replace x4:=bc hbx x4;replace g0:=bc hbx g0;replace g1:=bc hbx g1;replace g2:=bc hbx g2;replace g3:=bc hbx g3;replace g4:=bc hbx g4;go_simp;with_reducible rfl);rotate_left;simp only [sc0,sc1])
  refine Bv ?_
  refine GU (by kernel_rfl) (fun wx hS => ?_)
  have HZ:=As hS
  clear hS
  replace x0:=bc HZ.out x0
  replace x1:=bc HZ.out x1
  replace x2:=bc HZ.out x2
  replace x3:=bc HZ.out x3
  replace x4:=bc HZ.out x4
  replace g0:=bc HZ.out g0
  replace g1:=bc HZ.out g1
  replace g2:=bc HZ.out g2
  replace g3:=bc HZ.out g3
  replace g4:=bc HZ.out g4
  go_wp2
  go_loopw [10] (fun i wr => ∃ k : Nat,E.log.length ≤ k ∧ k ≤ lx.length ∧ i = .int .i64 (k : Int) ∧ A7 (Below wx.heap.size wx wr)) (fun i _ => (lx.length - intOf i).toNat)
  case atStart => exact ⟨E.log.length,Nat.le_refl _,hle,rfl,⟨Below.refl _ _⟩⟩
  case round =>
   obtain ⟨k,hk0,hk,rfl,HW⟩:=hrel
   replace x0:=bc HW.out x0
   replace x1:=bc HW.out x1
   replace x2:=bc HW.out x2
   replace x3:=bc HW.out x3
   replace x4:=bc HW.out x4
   replace g0:=bc HW.out g0
   replace g1:=bc HW.out g1
   replace g2:=bc HW.out g2
   replace g3:=bc HW.out g3
   replace g4:=bc HW.out g4
   by_cases hlt : k < lx.length
   ·have hki : (k : Int) < (lx.length : Int):=by omega
    have hmx2 : lx.length ≤ 9223372036854775807:=(CY HG.out.l).2
    have hwr : IntKind.i64.wrap ((k : Int) + 1) = (k : Int) + 1:=by simp (disch:=omega) only [IntWalk.i64_in]
    obtain ⟨ad,hG3,hA⟩:=Cs HG.out.l k hlt
    subst hG3
    have r0:=bc (bj HZ.out HW.out) hA.c0
    clear hA
    rcases HKD.out k hk0 hlt with h5 | h5
    all_goals
     rw [h5] at r0
     go_wp2
     go_roundw
     case rel => exact ⟨k + 1,by omega,by omega,by go_num,HW⟩
     case measure => simp [intOf];omega
   ·have hki : ¬ (k : Int) < (lx.length : Int):=by omega
    go_wp2
    go_ret
    exact ⟨rfl,bj HB.out (bj HZ.out HW.out)⟩
open Go.RowKit Go.Proofs.YtjeodgfkilhkhaaGreatW.PrintWords Go.Proofs.YtjeodgfkilhkhaaGreatW.PrintLast Go.Proofs.YtjeodgfkilhkhaaGreatW.PrintMore Go.ChangeShapes Go.WideShapes Go.Deep
theorem Qk {H : Type} {enc : TypeId × Value → H} {w : World} {held : Bool} {fuel : Nat} {cs : List Value} {y : DataW H × List MemPlace} (h : DataW.trod enc Tryz.prog w 0 (fun _ => true) held fuel 22 cs = some y) : ∃ xs A c,cs = [.slice A (List.length xs) c] ∧ xs.length ≤ c ∧ (Kd.int .u8).C w A xs.length xs ∧ Bytes xs:=by
 obtain ⟨xs,A,c,he,hcl,hr⟩:=Qj (d:=Kd.int .u8) Tryz.underlying22 (by kernel_rfl) (U3 Tryz.underlying5) _ _ _ h
 refine ⟨xs,A,c,he,hcl,hr,fun b hb => ?_⟩
 obtain ⟨i,hi,rfl⟩:=List.getElem_of_mem hb
 obtain ⟨ad,ha,hc⟩:=Ti hr i hi
 rcases open_ints Tryz.underlying22 Tryz.underlying5 (by kernel_rfl) h with ⟨hcs,_⟩ | ⟨x,l,c',zs,hcs,_,hl,hm,hz,_,hcell,hwz⟩
 ·rw [he,ha] at hcs
  simp at hcs
 ·rw [he,ha] at hcs
  simp only [List.cons.injEq,Value.slice.injEq,Option.some.injEq,and_true] at hcs
  obtain ⟨rfl,h2,rfl⟩:=hcs
  rw [if_pos rfl] at hz
  have h3:=hcell i (by omega)
  rw [hc] at h3
  have h4 : iv xs i = zs.getD i 0:=by simpa using h3
  have h5:=range_u8 hwz i
  have e : iv xs i = xs[i]:=by simp [iv,List.getD_eq_getElem?_getD,hi]
  rw [← e,h4,List.getD_eq_getElem?_getD]
  exact h5
end Go.Proofs.YtjeodgfkilhkhaaGreat
namespace Go.Proofs.YtjeodgfkilhkhaaGreat.fnRiseLog
open Go.ChangeShapes Go.WideShapes Go.ChangeAt Go.RowKit Go.Proofs.YtjeodgfkilhkhaaGreat
theorem own : ownKnob Tryz.prog.godebug = none:=by kernel_rfl
theorem laidOut : laidOutB Tryz.prog = true:=by kernel_rfl
set_option maxRecDepth 100000 in
theorem lifted (os : Os) (started : os.Started) (H : Type) (enc : TypeId × Value → H) :
  ReturnsInHanded {} Tryz.checked os 7 .any (Rows.fnRiseLogSpec.pre6 enc Tryz.prog Tryz.f7 Rows.fnRiseLogRow.domain false) (Rows.fnRiseLogSpec.post enc Tryz.prog Tryz.f7 false true false false):=by
 refine returnsInHanded_of_change_sized (C:=Tryz.checked) own started (by kernel_rfl) Tryz.func7
  (ChangeSpec.witness6 (enc:=enc) (C:=Tryz.checked) false ⟨#[],#[.slice none 0 0], []⟩ 8 (by kernel_rfl) (by kernel_rfl) (by kernel_rfl) (by kernel_rfl)) ?_
 intro W base args ds gs before hval0 hW hcnd hsz0 _
 have hval : ∀ (j : Nat) t v,Tryz.f7.params[j]? = some t → args[j]? = some v → Value.okWide Tryz.prog W .any base t v:=hval0
 have hW':=hW
 obtain ⟨p,q,hA0,hV,rfl,hfz,hnd⟩:=hW
 have hA : DataW.TrodAll enc Tryz.prog W 0 (fun _ => true) true Tryz.f7.params.toList args.toList ds p:=hA0
 rw [Tryz.params7] at hA hval
 obtain ⟨v0,vs0,d0,ds0,p0,q0,hargs,rfl,rfl,h0,r0⟩:=trodAll_cons hA
 obtain ⟨rfl,rfl,rfl⟩:=trodAll_nil r0
 obtain rfl : args = #[v0]:=by cases args;simp_all
 obtain ⟨rfl,rfl⟩:=trodVars_none hV
 have k0:=h0
 have lt0 : ∀ x ∈ p0,x.block < W.heap.size:=by obtain ⟨m,hm⟩:=k0;exact DataW.trod_lt m _ _ _ hm
 obtain ⟨a0,lnn0,cap0,rfl⟩:=okWide_slice Tryz.underlying22 (hval 0 22 v0 rfl rfl)
 obtain ⟨fuel0,hf0⟩:=h0
 obtain ⟨xs0,A0,c0,he0,hcl0,hr0,hby0⟩:=Qk hf0
 obtain ⟨rfl,rfl,rfl⟩ : a0 = A0 ∧ lnn0 = xs0.length ∧ cap0 = c0:=by simpa [Value.cells] using he0
 clear hA0 hval0 hsz0 hval hA
 refine (FnRiseLog_calls hcl0 hby0 hr0).mono fun e1 W' ⟨he1,bel⟩ => ?_
 subst he1
 exact ⟨_,rfl,_,_,_, [],_, [],hW',trodAll_mk1 (shut_bool Tryz.underlying4 _),(trodAll_cons_mk (Below.trod laidOut (by kernel_rfl) (of_decide_eq_true (by kernel_rfl)) k0 bel lt0) trodAll_mk0),rfl,bel.frame _,fun h => by cases h⟩
theorem k24b : (Rows.fnRiseLogRow.lifted == Tryz.pinned.checked.prog.liftsFinal) = true:=by
 rw [show Tryz.pinned.checked.prog.liftsFinal = false from Qy]
 rfl
theorem k24c : (Tryz.pinned.checked.prog.make == some Rows.fnRiseLogRow.make) = true:=by
 rw [show Tryz.pinned.checked.prog.make = some Make.cut from UR]
 rfl
set_option maxRecDepth 100000 in
set_option maxHeartbeats 8000000 in
theorem closed : joinedFacts Tryz.pinned.checked.prog 7 Tryz.f7 Rows.fnRiseLogSpec Rows.fnRiseLogRow = true:=by
 simp only [joinedFacts,Bool.and_eq_true]
 exact ⟨⟨⟨⟨⟨⟨⟨⟨⟨⟨⟨⟨⟨⟨⟨⟨⟨⟨⟨⟨⟨⟨⟨⟨⟨⟨⟨⟨⟨⟨⟨(by as_aux_lemma => kernel_rfl),(by as_aux_lemma => kernel_rfl)⟩,(by as_aux_lemma => kernel_rfl)⟩,(by as_aux_lemma => kernel_rfl)⟩,(by as_aux_lemma => kernel_rfl)⟩,(by as_aux_lemma => kernel_rfl)⟩,(by as_aux_lemma => kernel_rfl)⟩,(by as_aux_lemma => kernel_rfl)⟩,(by as_aux_lemma => kernel_rfl)⟩,(by as_aux_lemma => kernel_rfl)⟩,(by as_aux_lemma => kernel_rfl)⟩,(by as_aux_lemma => kernel_rfl)⟩,(by as_aux_lemma => kernel_rfl)⟩,(by as_aux_lemma => kernel_rfl)⟩,(by as_aux_lemma => kernel_rfl)⟩,(by as_aux_lemma => kernel_rfl)⟩,(by as_aux_lemma => kernel_rfl)⟩,(by as_aux_lemma => kernel_rfl)⟩,(by as_aux_lemma => kernel_rfl)⟩,(by as_aux_lemma => kernel_rfl)⟩,(by as_aux_lemma => kernel_rfl)⟩,(by as_aux_lemma => kernel_rfl)⟩,(by as_aux_lemma => kernel_rfl)⟩,(by as_aux_lemma => kernel_rfl)⟩,(by as_aux_lemma => kernel_rfl)⟩,U8⟩,k24b⟩,k24c⟩,(by as_aux_lemma => kernel_rfl)⟩,(by as_aux_lemma => kernel_rfl)⟩,(by as_aux_lemma => kernel_rfl)⟩,(by as_aux_lemma => kernel_rfl)⟩
theorem over : Rows.fnRiseLogRow.holds Tryz.pinned (OpenSpec.ofChange Rows.fnRiseLogSpec):=
 OpenClaim.holds_of_wide 7 Tryz.f7 rfl rfl rfl rfl rfl rfl rfl ⟨rfl,rfl,rfl,rfl,rfl⟩ rfl rfl rfl rfl rfl (by kernel_rfl) Tryz.func7 closed
  (of_decide_eq_true (by kernel_rfl)) (by unfold Func.isWrapper;first | (rw [if_pos (by decide +kernel)];kernel_rfl) | (rw [if_neg (by decide +kernel)];exact ⟨rfl,rfl⟩))
  (fun os started H enc _ => lifted os started H enc)
theorem proved : Rows.FnRiseLogSaid:=over
end Go.Proofs.YtjeodgfkilhkhaaGreat.fnRiseLog
namespace Go.Proofs.YtjeodgfkilhkhaaGreat
theorem fnRiseLog_holds : Rows.FnRiseLogSaid:=fnRiseLog.proved
end Go.Proofs.YtjeodgfkilhkhaaGreat
