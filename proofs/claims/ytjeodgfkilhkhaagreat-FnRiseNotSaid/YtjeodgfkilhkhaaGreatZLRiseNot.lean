/- Proved here: for all bytes that are handed in, laws.FnRiseNot returns true (what is up does not rise). Conditions: none beyond those that the given statement itself bears. -/
import Derived.Test.YtjeodgfkilhkhaaGreatZS1
import Derived.Test.YtjeodgfkilhkhaaGreatZV2
import Derived.Test.YtjeodgfkilhkhaaGreatZI1
import Derived.Test.YtjeodgfkilhkhaaGreatZF1
import Derived.Test.YtjeodgfkilhkhaaGreatZU1
import Derived.Test.YtjeodgfkilhkhaaGreatZA1
import Derived.WalkKit
import Derived.ProofKit
import Derived.OpenShut
import Derived.ShutString
import Derived.ChangeOld
import Derived.Below
import Derived.SizedLaws
set_option linter.unusedVariables false
set_option linter.unusedSimpArgs false
namespace Go.Proofs.YtjeodgfkilhkhaaGreat
open Go.RowKit Go.Proofs.YtjeodgfkilhkhaaGreatW.PrintWords Go.Proofs.YtjeodgfkilhkhaaGreatW.PrintLast Go.Proofs.YtjeodgfkilhkhaaGreatW.PrintMore
set_option maxRecDepth 100000 in
set_option maxHeartbeats 16000000 in
theorem FnRiseNot_calls {w : World} {A : Option Addr} {c : Nat} {xs : List Int} (hcap : xs.length ≤ c) (hx : Bytes xs) (hr : Kd.C (Kd.int .u8) w A xs.length xs) : Calls Tryz.prog 6 #[.slice A xs.length c] w (OJ w):=by
 have HR:=As hr
 have HCAP:=As hcap
 have HBY:=As hx
 have hmx:=(CY hr).2
 clear hcap hx hr
 rcases lts 1048576 (xs.length : Int) with ⟨e1,b1,c1⟩ | ⟨e1,b1,c1⟩
 ·go_enter Tryz.func6,Tryz.ntmps6
  go_wp2
  go_ret
  exact ⟨rfl,Below.refl _ _⟩
 go_enter Tryz.func6,Tryz.ntmps6
 have D0 : True:=trivial
 go_wp2_with (first | (clear D0;go_at_call 21;refine (DrawRiseUp_calls HCAP.out HBY.out (Below.refl w.heap.size w) HR.out).mono ?_;rintro x w1 ⟨E,B1,B2,B3,d1,d2,d3,num,rfl,hcap,hfw,hC,hb1⟩;have HE:=As hC;have HD:=As (And.intro hcap hfw);have HB:=As hb1;clear hcap hfw hC hb1;have D1 : True:=trivial) | (clear D1;with_reducible refine Ca (vd:=.slice B1 E.disk.length d1) (vm:=.slice B2 E.mem.length d2) (vl:=.slice B3 E.log.length d3) E ?_;intro w2 hb hz hq;have HQ:=As hq;have HE:=As (HE.out.up hb);have HB:=As (bj HB.out hb);clear hb hz hq;obtain ⟨x0,x1,x2,x3,x4⟩:=HQ.out.all;have D2 : True:=trivial))
 obtain ⟨X,bb,hX⟩ : ∃ X bb,upR E num = (X,bb):=⟨_,_,rfl⟩
 have HX:=As hX
 clear hX
 cases hv : eOk E
 all_goals have HV:=As hv
 all_goals clear hv
 ·cases bb
  all_goals
   have K0 : True:=trivial
   go_wp2_with (first | (clear K0;go_at_call 22;refine (TK (cd:=d1) (cm:=d2) (cl:=d3) num HD.out.1 (Below.refl _ _) HE.out).mono ?_;rw [HX.out];rintro x w3 ⟨vd,vm,vl,rfl,ho,hb⟩;obtain ⟨J1,j1_,J2,j2_,J3,j3_,rfl,rfl,rfl,hclHJ,hc⟩:=ho.reads;have HJ:=As hc;have HJL:=As hclHJ;have HE:=As (HE.out.up hb);have HQ:=As (HQ.out.up hb);have HB:=As (bj HB.out hb);clear x0 x1 x2 x3 x4;obtain ⟨x0,x1,x2,x3,x4⟩:=HQ.out.all;clear ho hb hc hclHJ;have K1 : True:=trivial) | (clear K1;with_reducible refine Ca (vd:=.slice J1 X.disk.length j1_) (vm:=.slice J2 X.mem.length j2_) (vl:=.slice J3 X.log.length j3_) X ?_;intro w4 hb hz hq;have HQS:=As hq;have HE:=As (HE.out.up hb);have HJ:=As (HJ.out.up hb);have HQ:=As (HQ.out.up hb);have HB:=As (bj HB.out hb);clear x0 x1 x2 x3 x4;obtain ⟨x0,x1,x2,x3,x4⟩:=HQ.out.all;clear hb hz hq;obtain ⟨s0,s1,s2,s3,s4⟩:=HQS.out.all;have K2 : True:=trivial) | (clear K2;go_at_call 23;refine (Wz (cd:=d1) (cm:=d2) (cl:=d3) num HD.out.1 (Below.refl _ _) HE.out).mono ?_;rw [HX.out];rintro x w5 ⟨vd,vm,vl,rfl,ho,hb⟩;obtain ⟨G1,g1_,G2,g2_,G3,g3_,rfl,rfl,rfl,hclHG,hc⟩:=ho.reads;have HG:=As hc;have HGL:=As hclHG;have HE:=As (HE.out.up hb);have HJ:=As (HJ.out.up hb);have HQ:=As (HQ.out.up hb);have HQS:=As (HQS.out.up hb);have HB:=As (bj HB.out hb);clear x0 x1 x2 x3 x4;obtain ⟨x0,x1,x2,x3,x4⟩:=HQ.out.all;clear s0 s1 s2 s3 s4;obtain ⟨s0,s1,s2,s3,s4⟩:=HQS.out.all;clear ho hb hc hclHG;have K3 : True:=trivial) | (clear K3;with_reducible refine Ca (vd:=.slice G1 X.disk.length g1_) (vm:=.slice G2 X.mem.length g2_) (vl:=.slice G3 X.log.length g3_) X ?_;intro w6 hb hz hq;have HQG:=As hq;have HE:=As (HE.out.up hb);have HJ:=As (HJ.out.up hb);have HG:=As (HG.out.up hb);have HQ:=As (HQ.out.up hb);have HQS:=As (HQS.out.up hb);have HB:=As (bj HB.out hb);clear x0 x1 x2 x3 x4;obtain ⟨x0,x1,x2,x3,x4⟩:=HQ.out.all;clear s0 s1 s2 s3 s4;obtain ⟨s0,s1,s2,s3,s4⟩:=HQS.out.all;clear hb hz hq;obtain ⟨g0,g1,g2,g3,g4⟩:=HQG.out.all;have K4 : True:=trivial) | (clear K4;go_at_call 13;refine (UU (e:=X) (cd:=g1_) (cm:=g2_) (cl:=g3_) (dd:=j1_) (dm:=j2_) (dl:=j3_) (Below.refl _ _) HG.out (Below.refl _ _) HJ.out).mono ?_;rintro x w7 ⟨rfl,hb⟩;have HE:=As (HE.out.up hb);have HJ:=As (HJ.out.up hb);have HG:=As (HG.out.up hb);have HQ:=As (HQ.out.up hb);have HQS:=As (HQS.out.up hb);have HQG:=As (HQG.out.up hb);have HB:=As (bj HB.out hb);clear x0 x1 x2 x3 x4;obtain ⟨x0,x1,x2,x3,x4⟩:=HQ.out.all;clear s0 s1 s2 s3 s4;obtain ⟨s0,s1,s2,s3,s4⟩:=HQS.out.all;clear g0 g1 g2 g3 g4;obtain ⟨g0,g1,g2,g3,g4⟩:=HQG.out.all;clear hb;have K5 : True:=trivial) | (clear K5;go_at_call 24;refine (Cw (cd:=d1) (cm:=d2) HV.out HD.out.1 (Below.refl _ _) HE.out).mono ?_;rintro x w9 ⟨rfl,hb⟩;have HE:=As (HE.out.up hb);have HJ:=As (HJ.out.up hb);have HG:=As (HG.out.up hb);have HQ:=As (HQ.out.up hb);have HQS:=As (HQS.out.up hb);have HQG:=As (HQG.out.up hb);have HB:=As (bj HB.out hb);clear x0 x1 x2 x3 x4;obtain ⟨x0,x1,x2,x3,x4⟩:=HQ.out.all;clear s0 s1 s2 s3 s4;obtain ⟨s0,s1,s2,s3,s4⟩:=HQS.out.all;clear g0 g1 g2 g3 g4;obtain ⟨g0,g1,g2,g3,g4⟩:=HQG.out.all;clear hb;have K6 : True:=trivial) | (clear K6;go_at_call 13;refine (UU (e:=X) (cd:=g1_) (cm:=g2_) (cl:=g3_) (dd:=j1_) (dm:=j2_) (dl:=j3_) (Below.refl _ _) HG.out (Below.refl _ _) HJ.out).mono ?_;rintro x w8 ⟨rfl,hb⟩;have HE:=As (HE.out.up hb);have HJ:=As (HJ.out.up hb);have HG:=As (HG.out.up hb);have HQ:=As (HQ.out.up hb);have HQS:=As (HQS.out.up hb);have HQG:=As (HQG.out.up hb);have HB:=As (bj HB.out hb);clear x0 x1 x2 x3 x4;obtain ⟨x0,x1,x2,x3,x4⟩:=HQ.out.all;clear s0 s1 s2 s3 s4;obtain ⟨s0,s1,s2,s3,s4⟩:=HQS.out.all;clear g0 g1 g2 g3 g4;obtain ⟨g0,g1,g2,g3,g4⟩:=HQG.out.all;clear hb;have K7 : True:=trivial))
   go_ret
   exact ⟨rfl,HB.out⟩
 rcases lts num 0 with ⟨e3,b3,c3⟩ | ⟨e3,b3,c3⟩
 ·cases bb
  all_goals
   have K0 : True:=trivial
   go_wp2_with (first | (clear K0;go_at_call 22;refine (TK (cd:=d1) (cm:=d2) (cl:=d3) num HD.out.1 (Below.refl _ _) HE.out).mono ?_;rw [HX.out];rintro x w3 ⟨vd,vm,vl,rfl,ho,hb⟩;obtain ⟨J1,j1_,J2,j2_,J3,j3_,rfl,rfl,rfl,hclHJ,hc⟩:=ho.reads;have HJ:=As hc;have HJL:=As hclHJ;have HE:=As (HE.out.up hb);have HQ:=As (HQ.out.up hb);have HB:=As (bj HB.out hb);clear x0 x1 x2 x3 x4;obtain ⟨x0,x1,x2,x3,x4⟩:=HQ.out.all;clear ho hb hc hclHJ;have K1 : True:=trivial) | (clear K1;with_reducible refine Ca (vd:=.slice J1 X.disk.length j1_) (vm:=.slice J2 X.mem.length j2_) (vl:=.slice J3 X.log.length j3_) X ?_;intro w4 hb hz hq;have HQS:=As hq;have HE:=As (HE.out.up hb);have HJ:=As (HJ.out.up hb);have HQ:=As (HQ.out.up hb);have HB:=As (bj HB.out hb);clear x0 x1 x2 x3 x4;obtain ⟨x0,x1,x2,x3,x4⟩:=HQ.out.all;clear hb hz hq;obtain ⟨s0,s1,s2,s3,s4⟩:=HQS.out.all;have K2 : True:=trivial) | (clear K2;go_at_call 23;refine (Wz (cd:=d1) (cm:=d2) (cl:=d3) num HD.out.1 (Below.refl _ _) HE.out).mono ?_;rw [HX.out];rintro x w5 ⟨vd,vm,vl,rfl,ho,hb⟩;obtain ⟨G1,g1_,G2,g2_,G3,g3_,rfl,rfl,rfl,hclHG,hc⟩:=ho.reads;have HG:=As hc;have HGL:=As hclHG;have HE:=As (HE.out.up hb);have HJ:=As (HJ.out.up hb);have HQ:=As (HQ.out.up hb);have HQS:=As (HQS.out.up hb);have HB:=As (bj HB.out hb);clear x0 x1 x2 x3 x4;obtain ⟨x0,x1,x2,x3,x4⟩:=HQ.out.all;clear s0 s1 s2 s3 s4;obtain ⟨s0,s1,s2,s3,s4⟩:=HQS.out.all;clear ho hb hc hclHG;have K3 : True:=trivial) | (clear K3;with_reducible refine Ca (vd:=.slice G1 X.disk.length g1_) (vm:=.slice G2 X.mem.length g2_) (vl:=.slice G3 X.log.length g3_) X ?_;intro w6 hb hz hq;have HQG:=As hq;have HE:=As (HE.out.up hb);have HJ:=As (HJ.out.up hb);have HG:=As (HG.out.up hb);have HQ:=As (HQ.out.up hb);have HQS:=As (HQS.out.up hb);have HB:=As (bj HB.out hb);clear x0 x1 x2 x3 x4;obtain ⟨x0,x1,x2,x3,x4⟩:=HQ.out.all;clear s0 s1 s2 s3 s4;obtain ⟨s0,s1,s2,s3,s4⟩:=HQS.out.all;clear hb hz hq;obtain ⟨g0,g1,g2,g3,g4⟩:=HQG.out.all;have K4 : True:=trivial) | (clear K4;go_at_call 13;refine (UU (e:=X) (cd:=g1_) (cm:=g2_) (cl:=g3_) (dd:=j1_) (dm:=j2_) (dl:=j3_) (Below.refl _ _) HG.out (Below.refl _ _) HJ.out).mono ?_;rintro x w7 ⟨rfl,hb⟩;have HE:=As (HE.out.up hb);have HJ:=As (HJ.out.up hb);have HG:=As (HG.out.up hb);have HQ:=As (HQ.out.up hb);have HQS:=As (HQS.out.up hb);have HQG:=As (HQG.out.up hb);have HB:=As (bj HB.out hb);clear x0 x1 x2 x3 x4;obtain ⟨x0,x1,x2,x3,x4⟩:=HQ.out.all;clear s0 s1 s2 s3 s4;obtain ⟨s0,s1,s2,s3,s4⟩:=HQS.out.all;clear g0 g1 g2 g3 g4;obtain ⟨g0,g1,g2,g3,g4⟩:=HQG.out.all;clear hb;have K5 : True:=trivial) | (clear K5;go_at_call 24;refine (Cw (cd:=d1) (cm:=d2) HV.out HD.out.1 (Below.refl _ _) HE.out).mono ?_;rintro x w9 ⟨rfl,hb⟩;have HE:=As (HE.out.up hb);have HJ:=As (HJ.out.up hb);have HG:=As (HG.out.up hb);have HQ:=As (HQ.out.up hb);have HQS:=As (HQS.out.up hb);have HQG:=As (HQG.out.up hb);have HB:=As (bj HB.out hb);clear x0 x1 x2 x3 x4;obtain ⟨x0,x1,x2,x3,x4⟩:=HQ.out.all;clear s0 s1 s2 s3 s4;obtain ⟨s0,s1,s2,s3,s4⟩:=HQS.out.all;clear g0 g1 g2 g3 g4;obtain ⟨g0,g1,g2,g3,g4⟩:=HQG.out.all;clear hb;have K6 : True:=trivial) | (clear K6;go_at_call 13;refine (UU (e:=X) (cd:=g1_) (cm:=g2_) (cl:=g3_) (dd:=j1_) (dm:=j2_) (dl:=j3_) (Below.refl _ _) HG.out (Below.refl _ _) HJ.out).mono ?_;rintro x w8 ⟨rfl,hb⟩;have HE:=As (HE.out.up hb);have HJ:=As (HJ.out.up hb);have HG:=As (HG.out.up hb);have HQ:=As (HQ.out.up hb);have HQS:=As (HQS.out.up hb);have HQG:=As (HQG.out.up hb);have HB:=As (bj HB.out hb);clear x0 x1 x2 x3 x4;obtain ⟨x0,x1,x2,x3,x4⟩:=HQ.out.all;clear s0 s1 s2 s3 s4;obtain ⟨s0,s1,s2,s3,s4⟩:=HQS.out.all;clear g0 g1 g2 g3 g4;obtain ⟨g0,g1,g2,g3,g4⟩:=HQG.out.all;clear hb;have K7 : True:=trivial))
   go_ret
   exact ⟨rfl,HB.out⟩
 rcases (show E.down = false ∨ E.down = true by cases E.down <;> simp) with hdn | hdn
 ·have HX0:=As (show upR E num = (E,false) by rw [upR,if_pos ⟨HV.out,e3.out⟩,if_neg (by rw [hdn];simp)])
  clear HX
  have HX:=HX0
  clear HX0
  have HDN:=As hdn
  clear hdn
  have K0 : True:=trivial
  go_wp2_with (first | (clear K0;go_at_call 22;refine (TK (cd:=d1) (cm:=d2) (cl:=d3) num HD.out.1 (Below.refl _ _) HE.out).mono ?_;rw [HX.out];rintro x w3 ⟨vd,vm,vl,rfl,ho,hb⟩;obtain ⟨J1,j1_,J2,j2_,J3,j3_,rfl,rfl,rfl,hclHJ,hc⟩:=ho.reads;have HJ:=As hc;have HJL:=As hclHJ;have HE:=As (HE.out.up hb);have HQ:=As (HQ.out.up hb);have HB:=As (bj HB.out hb);clear x0 x1 x2 x3 x4;obtain ⟨x0,x1,x2,x3,x4⟩:=HQ.out.all;clear ho hb hc hclHJ;have K1 : True:=trivial) | (clear K1;with_reducible refine Ca (vd:=.slice J1 E.disk.length j1_) (vm:=.slice J2 E.mem.length j2_) (vl:=.slice J3 E.log.length j3_) E ?_;intro w4 hb hz hq;have HQS:=As hq;have HE:=As (HE.out.up hb);have HJ:=As (HJ.out.up hb);have HQ:=As (HQ.out.up hb);have HB:=As (bj HB.out hb);clear x0 x1 x2 x3 x4;obtain ⟨x0,x1,x2,x3,x4⟩:=HQ.out.all;clear hb hz hq;obtain ⟨s0,s1,s2,s3,s4⟩:=HQS.out.all;have K2 : True:=trivial) | (clear K2;go_at_call 23;refine (Wz (cd:=d1) (cm:=d2) (cl:=d3) num HD.out.1 (Below.refl _ _) HE.out).mono ?_;rw [HX.out];rintro x w5 ⟨vd,vm,vl,rfl,ho,hb⟩;obtain ⟨G1,g1_,G2,g2_,G3,g3_,rfl,rfl,rfl,hclHG,hc⟩:=ho.reads;have HG:=As hc;have HGL:=As hclHG;have HE:=As (HE.out.up hb);have HJ:=As (HJ.out.up hb);have HQ:=As (HQ.out.up hb);have HQS:=As (HQS.out.up hb);have HB:=As (bj HB.out hb);clear x0 x1 x2 x3 x4;obtain ⟨x0,x1,x2,x3,x4⟩:=HQ.out.all;clear s0 s1 s2 s3 s4;obtain ⟨s0,s1,s2,s3,s4⟩:=HQS.out.all;clear ho hb hc hclHG;have K3 : True:=trivial) | (clear K3;with_reducible refine Ca (vd:=.slice G1 E.disk.length g1_) (vm:=.slice G2 E.mem.length g2_) (vl:=.slice G3 E.log.length g3_) E ?_;intro w6 hb hz hq;have HQG:=As hq;have HE:=As (HE.out.up hb);have HJ:=As (HJ.out.up hb);have HG:=As (HG.out.up hb);have HQ:=As (HQ.out.up hb);have HQS:=As (HQS.out.up hb);have HB:=As (bj HB.out hb);clear x0 x1 x2 x3 x4;obtain ⟨x0,x1,x2,x3,x4⟩:=HQ.out.all;clear s0 s1 s2 s3 s4;obtain ⟨s0,s1,s2,s3,s4⟩:=HQS.out.all;clear hb hz hq;obtain ⟨g0,g1,g2,g3,g4⟩:=HQG.out.all;have K4 : True:=trivial) | (clear K4;go_at_call 13;refine (UU (e:=E) (cd:=g1_) (cm:=g2_) (cl:=g3_) (dd:=j1_) (dm:=j2_) (dl:=j3_) (Below.refl _ _) HG.out (Below.refl _ _) HJ.out).mono ?_;rintro x w7 ⟨rfl,hb⟩;have HE:=As (HE.out.up hb);have HJ:=As (HJ.out.up hb);have HG:=As (HG.out.up hb);have HQ:=As (HQ.out.up hb);have HQS:=As (HQS.out.up hb);have HQG:=As (HQG.out.up hb);have HB:=As (bj HB.out hb);clear x0 x1 x2 x3 x4;obtain ⟨x0,x1,x2,x3,x4⟩:=HQ.out.all;clear s0 s1 s2 s3 s4;obtain ⟨s0,s1,s2,s3,s4⟩:=HQS.out.all;clear g0 g1 g2 g3 g4;obtain ⟨g0,g1,g2,g3,g4⟩:=HQG.out.all;clear hb;have K5 : True:=trivial) | (clear K5;go_at_call 24;refine (Cw (cd:=d1) (cm:=d2) HV.out HD.out.1 (Below.refl _ _) HE.out).mono ?_;rintro x w9 ⟨rfl,hb⟩;have HE:=As (HE.out.up hb);have HJ:=As (HJ.out.up hb);have HG:=As (HG.out.up hb);have HQ:=As (HQ.out.up hb);have HQS:=As (HQS.out.up hb);have HQG:=As (HQG.out.up hb);have HB:=As (bj HB.out hb);clear x0 x1 x2 x3 x4;obtain ⟨x0,x1,x2,x3,x4⟩:=HQ.out.all;clear s0 s1 s2 s3 s4;obtain ⟨s0,s1,s2,s3,s4⟩:=HQS.out.all;clear g0 g1 g2 g3 g4;obtain ⟨g0,g1,g2,g3,g4⟩:=HQG.out.all;clear hb;rw [HDN.out] at x4;have K6 : True:=trivial) | (clear K6;go_at_call 13;refine (XO (UU (e:=E) (cd:=g1_) (cm:=g2_) (cl:=g3_) (dd:=d1) (dm:=d2) (dl:=d3) (Below.refl _ _) HG.out (Below.refl _ _) HE.out) (by simp only [Eng.val,Eng.ag,HDN.out])).mono ?_;rintro x w10 ⟨rfl,hb⟩;have HE:=As (HE.out.up hb);have HJ:=As (HJ.out.up hb);have HG:=As (HG.out.up hb);have HQ:=As (HQ.out.up hb);have HQS:=As (HQS.out.up hb);have HQG:=As (HQG.out.up hb);have HB:=As (bj HB.out hb);clear x0 x1 x2 x3 x4;obtain ⟨x0,x1,x2,x3,x4⟩:=HQ.out.all;clear s0 s1 s2 s3 s4;obtain ⟨s0,s1,s2,s3,s4⟩:=HQS.out.all;clear g0 g1 g2 g3 g4;obtain ⟨g0,g1,g2,g3,g4⟩:=HQG.out.all;clear hb;have K7 : True:=trivial))
  go_ret
  exact ⟨rfl,HB.out⟩
 have HDN:=As hdn
 clear hdn
 cases bb
 ·obtain ⟨Y,b2,hY⟩ : ∃ Y b2,upR X 150 = (Y,b2):=⟨_,_,rfl⟩
  have HY0:=As hY
  clear hY
  have K0 : True:=trivial
  go_wp2_with (first | (clear K0;go_at_call 22;refine (TK (cd:=d1) (cm:=d2) (cl:=d3) num HD.out.1 (Below.refl _ _) HE.out).mono ?_;rw [HX.out];rintro x w3 ⟨vd,vm,vl,rfl,ho,hb⟩;obtain ⟨J1,j1_,J2,j2_,J3,j3_,rfl,rfl,rfl,hclHJ,hc⟩:=ho.reads;have HJ:=As hc;have HJL:=As hclHJ;have HE:=As (HE.out.up hb);have HQ:=As (HQ.out.up hb);have HB:=As (bj HB.out hb);clear x0 x1 x2 x3 x4;obtain ⟨x0,x1,x2,x3,x4⟩:=HQ.out.all;clear ho hb hc hclHJ;have K1 : True:=trivial) | (clear K1;with_reducible refine Ca (vd:=.slice J1 X.disk.length j1_) (vm:=.slice J2 X.mem.length j2_) (vl:=.slice J3 X.log.length j3_) X ?_;intro w4 hb hz hq;have HQS:=As hq;have HE:=As (HE.out.up hb);have HJ:=As (HJ.out.up hb);have HQ:=As (HQ.out.up hb);have HB:=As (bj HB.out hb);clear x0 x1 x2 x3 x4;obtain ⟨x0,x1,x2,x3,x4⟩:=HQ.out.all;clear hb hz hq;obtain ⟨s0,s1,s2,s3,s4⟩:=HQS.out.all;have K2 : True:=trivial) | (clear K2;go_at_call 23;refine (Wz (cd:=d1) (cm:=d2) (cl:=d3) num HD.out.1 (Below.refl _ _) HE.out).mono ?_;rw [HX.out];rintro x w5 ⟨vd,vm,vl,rfl,ho,hb⟩;obtain ⟨G1,g1_,G2,g2_,G3,g3_,rfl,rfl,rfl,hclHG,hc⟩:=ho.reads;have HG:=As hc;have HGL:=As hclHG;have HE:=As (HE.out.up hb);have HJ:=As (HJ.out.up hb);have HQ:=As (HQ.out.up hb);have HQS:=As (HQS.out.up hb);have HB:=As (bj HB.out hb);clear x0 x1 x2 x3 x4;obtain ⟨x0,x1,x2,x3,x4⟩:=HQ.out.all;clear s0 s1 s2 s3 s4;obtain ⟨s0,s1,s2,s3,s4⟩:=HQS.out.all;clear ho hb hc hclHG;have K3 : True:=trivial) | (clear K3;with_reducible refine Ca (vd:=.slice G1 X.disk.length g1_) (vm:=.slice G2 X.mem.length g2_) (vl:=.slice G3 X.log.length g3_) X ?_;intro w6 hb hz hq;have HQG:=As hq;have HE:=As (HE.out.up hb);have HJ:=As (HJ.out.up hb);have HG:=As (HG.out.up hb);have HQ:=As (HQ.out.up hb);have HQS:=As (HQS.out.up hb);have HB:=As (bj HB.out hb);clear x0 x1 x2 x3 x4;obtain ⟨x0,x1,x2,x3,x4⟩:=HQ.out.all;clear s0 s1 s2 s3 s4;obtain ⟨s0,s1,s2,s3,s4⟩:=HQS.out.all;clear hb hz hq;obtain ⟨g0,g1,g2,g3,g4⟩:=HQG.out.all;have K4 : True:=trivial) | (clear K4;go_at_call 13;refine (UU (e:=X) (cd:=g1_) (cm:=g2_) (cl:=g3_) (dd:=j1_) (dm:=j2_) (dl:=j3_) (Below.refl _ _) HG.out (Below.refl _ _) HJ.out).mono ?_;rintro x w7 ⟨rfl,hb⟩;have HE:=As (HE.out.up hb);have HJ:=As (HJ.out.up hb);have HG:=As (HG.out.up hb);have HQ:=As (HQ.out.up hb);have HQS:=As (HQS.out.up hb);have HQG:=As (HQG.out.up hb);have HB:=As (bj HB.out hb);clear x0 x1 x2 x3 x4;obtain ⟨x0,x1,x2,x3,x4⟩:=HQ.out.all;clear s0 s1 s2 s3 s4;obtain ⟨s0,s1,s2,s3,s4⟩:=HQS.out.all;clear g0 g1 g2 g3 g4;obtain ⟨g0,g1,g2,g3,g4⟩:=HQG.out.all;clear hb;have K5 : True:=trivial) | (clear K5;go_at_call 24;refine (Cw (cd:=d1) (cm:=d2) HV.out HD.out.1 (Below.refl _ _) HE.out).mono ?_;rintro x w9 ⟨rfl,hb⟩;have HE:=As (HE.out.up hb);have HJ:=As (HJ.out.up hb);have HG:=As (HG.out.up hb);have HQ:=As (HQ.out.up hb);have HQS:=As (HQS.out.up hb);have HQG:=As (HQG.out.up hb);have HB:=As (bj HB.out hb);clear x0 x1 x2 x3 x4;obtain ⟨x0,x1,x2,x3,x4⟩:=HQ.out.all;clear s0 s1 s2 s3 s4;obtain ⟨s0,s1,s2,s3,s4⟩:=HQS.out.all;clear g0 g1 g2 g3 g4;obtain ⟨g0,g1,g2,g3,g4⟩:=HQG.out.all;clear hb;rw [HDN.out] at x4;have K6 : True:=trivial) | (clear K6;go_at_call 23;refine (Wz (cd:=g1_) (cm:=g2_) (cl:=g3_) 150 HGL.out (Below.refl _ _) HG.out).mono ?_;rw [HY0.out];rintro x w10 ⟨vd,vm,vl,rfl,ho,hb⟩;obtain ⟨Y1,y1_,Y2,y2_,Y3,y3_,rfl,rfl,rfl,hclHY,hc⟩:=ho.reads;have HY:=As hc;have HYL:=As hclHY;have HE:=As (HE.out.up hb);have HJ:=As (HJ.out.up hb);have HG:=As (HG.out.up hb);have HQ:=As (HQ.out.up hb);have HQS:=As (HQS.out.up hb);have HQG:=As (HQG.out.up hb);have HB:=As (bj HB.out hb);clear x0 x1 x2 x3 x4;obtain ⟨x0,x1,x2,x3,x4⟩:=HQ.out.all;clear s0 s1 s2 s3 s4;obtain ⟨s0,s1,s2,s3,s4⟩:=HQS.out.all;clear g0 g1 g2 g3 g4;obtain ⟨g0,g1,g2,g3,g4⟩:=HQG.out.all;clear ho hb hc hclHY;have K7 : True:=trivial) | (clear K7;with_reducible refine Ca (vd:=.slice Y1 Y.disk.length y1_) (vm:=.slice Y2 Y.mem.length y2_) (vl:=.slice Y3 Y.log.length y3_) Y ?_;intro w11 hb hz hq;have HQY:=As hq;have HE:=As (HE.out.up hb);have HJ:=As (HJ.out.up hb);have HG:=As (HG.out.up hb);have HY:=As (HY.out.up hb);have HQ:=As (HQ.out.up hb);have HQS:=As (HQS.out.up hb);have HQG:=As (HQG.out.up hb);have HB:=As (bj HB.out hb);clear x0 x1 x2 x3 x4;obtain ⟨x0,x1,x2,x3,x4⟩:=HQ.out.all;clear s0 s1 s2 s3 s4;obtain ⟨s0,s1,s2,s3,s4⟩:=HQS.out.all;clear g0 g1 g2 g3 g4;obtain ⟨g0,g1,g2,g3,g4⟩:=HQG.out.all;clear hb hz hq;obtain ⟨y0,y1,y2,y3,y4⟩:=HQY.out.all;have K8 : True:=trivial))
  go_ret
  exact ⟨rfl,HB.out⟩
 ·have hx:=Rv HV.out HDN.out e3.out (by rw [HX.out])
  rw [HX.out] at hx
  have HY0:=As (show upR X 150 = (X,false) by rw [upR,if_pos ⟨hx.1,by decide⟩,if_neg (by rw [hx.2];simp)])
  clear hx
  have K0 : True:=trivial
  go_wp2_with (first | (clear K0;go_at_call 22;refine (TK (cd:=d1) (cm:=d2) (cl:=d3) num HD.out.1 (Below.refl _ _) HE.out).mono ?_;rw [HX.out];rintro x w3 ⟨vd,vm,vl,rfl,ho,hb⟩;obtain ⟨J1,j1_,J2,j2_,J3,j3_,rfl,rfl,rfl,hclHJ,hc⟩:=ho.reads;have HJ:=As hc;have HJL:=As hclHJ;have HE:=As (HE.out.up hb);have HQ:=As (HQ.out.up hb);have HB:=As (bj HB.out hb);clear x0 x1 x2 x3 x4;obtain ⟨x0,x1,x2,x3,x4⟩:=HQ.out.all;clear ho hb hc hclHJ;have K1 : True:=trivial) | (clear K1;with_reducible refine Ca (vd:=.slice J1 X.disk.length j1_) (vm:=.slice J2 X.mem.length j2_) (vl:=.slice J3 X.log.length j3_) X ?_;intro w4 hb hz hq;have HQS:=As hq;have HE:=As (HE.out.up hb);have HJ:=As (HJ.out.up hb);have HQ:=As (HQ.out.up hb);have HB:=As (bj HB.out hb);clear x0 x1 x2 x3 x4;obtain ⟨x0,x1,x2,x3,x4⟩:=HQ.out.all;clear hb hz hq;obtain ⟨s0,s1,s2,s3,s4⟩:=HQS.out.all;have K2 : True:=trivial) | (clear K2;go_at_call 23;refine (Wz (cd:=d1) (cm:=d2) (cl:=d3) num HD.out.1 (Below.refl _ _) HE.out).mono ?_;rw [HX.out];rintro x w5 ⟨vd,vm,vl,rfl,ho,hb⟩;obtain ⟨G1,g1_,G2,g2_,G3,g3_,rfl,rfl,rfl,hclHG,hc⟩:=ho.reads;have HG:=As hc;have HGL:=As hclHG;have HE:=As (HE.out.up hb);have HJ:=As (HJ.out.up hb);have HQ:=As (HQ.out.up hb);have HQS:=As (HQS.out.up hb);have HB:=As (bj HB.out hb);clear x0 x1 x2 x3 x4;obtain ⟨x0,x1,x2,x3,x4⟩:=HQ.out.all;clear s0 s1 s2 s3 s4;obtain ⟨s0,s1,s2,s3,s4⟩:=HQS.out.all;clear ho hb hc hclHG;have K3 : True:=trivial) | (clear K3;with_reducible refine Ca (vd:=.slice G1 X.disk.length g1_) (vm:=.slice G2 X.mem.length g2_) (vl:=.slice G3 X.log.length g3_) X ?_;intro w6 hb hz hq;have HQG:=As hq;have HE:=As (HE.out.up hb);have HJ:=As (HJ.out.up hb);have HG:=As (HG.out.up hb);have HQ:=As (HQ.out.up hb);have HQS:=As (HQS.out.up hb);have HB:=As (bj HB.out hb);clear x0 x1 x2 x3 x4;obtain ⟨x0,x1,x2,x3,x4⟩:=HQ.out.all;clear s0 s1 s2 s3 s4;obtain ⟨s0,s1,s2,s3,s4⟩:=HQS.out.all;clear hb hz hq;obtain ⟨g0,g1,g2,g3,g4⟩:=HQG.out.all;have K4 : True:=trivial) | (clear K4;go_at_call 13;refine (UU (e:=X) (cd:=g1_) (cm:=g2_) (cl:=g3_) (dd:=j1_) (dm:=j2_) (dl:=j3_) (Below.refl _ _) HG.out (Below.refl _ _) HJ.out).mono ?_;rintro x w7 ⟨rfl,hb⟩;have HE:=As (HE.out.up hb);have HJ:=As (HJ.out.up hb);have HG:=As (HG.out.up hb);have HQ:=As (HQ.out.up hb);have HQS:=As (HQS.out.up hb);have HQG:=As (HQG.out.up hb);have HB:=As (bj HB.out hb);clear x0 x1 x2 x3 x4;obtain ⟨x0,x1,x2,x3,x4⟩:=HQ.out.all;clear s0 s1 s2 s3 s4;obtain ⟨s0,s1,s2,s3,s4⟩:=HQS.out.all;clear g0 g1 g2 g3 g4;obtain ⟨g0,g1,g2,g3,g4⟩:=HQG.out.all;clear hb;have K5 : True:=trivial) | (clear K5;go_at_call 24;refine (Cw (cd:=d1) (cm:=d2) HV.out HD.out.1 (Below.refl _ _) HE.out).mono ?_;rintro x w9 ⟨rfl,hb⟩;have HE:=As (HE.out.up hb);have HJ:=As (HJ.out.up hb);have HG:=As (HG.out.up hb);have HQ:=As (HQ.out.up hb);have HQS:=As (HQS.out.up hb);have HQG:=As (HQG.out.up hb);have HB:=As (bj HB.out hb);clear x0 x1 x2 x3 x4;obtain ⟨x0,x1,x2,x3,x4⟩:=HQ.out.all;clear s0 s1 s2 s3 s4;obtain ⟨s0,s1,s2,s3,s4⟩:=HQS.out.all;clear g0 g1 g2 g3 g4;obtain ⟨g0,g1,g2,g3,g4⟩:=HQG.out.all;clear hb;rw [HDN.out] at x4;have K6 : True:=trivial) | (clear K6;go_at_call 23;refine (Wz (cd:=g1_) (cm:=g2_) (cl:=g3_) 150 HGL.out (Below.refl _ _) HG.out).mono ?_;rw [HY0.out];rintro x w10 ⟨vd,vm,vl,rfl,ho,hb⟩;obtain ⟨Y1,y1_,Y2,y2_,Y3,y3_,rfl,rfl,rfl,hclHY,hc⟩:=ho.reads;have HY:=As hc;have HYL:=As hclHY;have HE:=As (HE.out.up hb);have HJ:=As (HJ.out.up hb);have HG:=As (HG.out.up hb);have HQ:=As (HQ.out.up hb);have HQS:=As (HQS.out.up hb);have HQG:=As (HQG.out.up hb);have HB:=As (bj HB.out hb);clear x0 x1 x2 x3 x4;obtain ⟨x0,x1,x2,x3,x4⟩:=HQ.out.all;clear s0 s1 s2 s3 s4;obtain ⟨s0,s1,s2,s3,s4⟩:=HQS.out.all;clear g0 g1 g2 g3 g4;obtain ⟨g0,g1,g2,g3,g4⟩:=HQG.out.all;clear ho hb hc hclHY;have K7 : True:=trivial) | (clear K7;with_reducible refine Ca (vd:=.slice Y1 X.disk.length y1_) (vm:=.slice Y2 X.mem.length y2_) (vl:=.slice Y3 X.log.length y3_) X ?_;intro w11 hb hz hq;have HQY:=As hq;have HE:=As (HE.out.up hb);have HJ:=As (HJ.out.up hb);have HG:=As (HG.out.up hb);have HY:=As (HY.out.up hb);have HQ:=As (HQ.out.up hb);have HQS:=As (HQS.out.up hb);have HQG:=As (HQG.out.up hb);have HB:=As (bj HB.out hb);clear x0 x1 x2 x3 x4;obtain ⟨x0,x1,x2,x3,x4⟩:=HQ.out.all;clear s0 s1 s2 s3 s4;obtain ⟨s0,s1,s2,s3,s4⟩:=HQS.out.all;clear g0 g1 g2 g3 g4;obtain ⟨g0,g1,g2,g3,g4⟩:=HQG.out.all;clear hb hz hq;obtain ⟨y0,y1,y2,y3,y4⟩:=HQY.out.all;have K8 : True:=trivial) | (clear K8;go_at_call 13;refine (UU (e:=X) (cd:=y1_) (cm:=y2_) (cl:=y3_) (dd:=g1_) (dm:=g2_) (dl:=g3_) (Below.refl _ _) HY.out (Below.refl _ _) HG.out).mono ?_;rintro x w12 ⟨rfl,hb⟩;have HE:=As (HE.out.up hb);have HJ:=As (HJ.out.up hb);have HG:=As (HG.out.up hb);have HY:=As (HY.out.up hb);have HQ:=As (HQ.out.up hb);have HQS:=As (HQS.out.up hb);have HQG:=As (HQG.out.up hb);have HQY:=As (HQY.out.up hb);have HB:=As (bj HB.out hb);clear x0 x1 x2 x3 x4;obtain ⟨x0,x1,x2,x3,x4⟩:=HQ.out.all;clear s0 s1 s2 s3 s4;obtain ⟨s0,s1,s2,s3,s4⟩:=HQS.out.all;clear g0 g1 g2 g3 g4;obtain ⟨g0,g1,g2,g3,g4⟩:=HQG.out.all;clear y0 y1 y2 y3 y4;obtain ⟨y0,y1,y2,y3,y4⟩:=HQY.out.all;clear hb;have K9 : True:=trivial))
  go_ret
  exact ⟨rfl,HB.out⟩
open Go.RowKit Go.Proofs.YtjeodgfkilhkhaaGreatW.PrintWords Go.Proofs.YtjeodgfkilhkhaaGreatW.PrintLast Go.Proofs.YtjeodgfkilhkhaaGreatW.PrintMore Go.ChangeShapes Go.WideShapes Go.Deep
theorem Qk {H : Type} {enc : TypeId × Value → H} {w : World} {held : Bool} {fuel : Nat} {cs : List Value} {y : DataW H × List MemPlace} (h : DataW.trod enc Tryz.prog w 0 (fun _ => true) held fuel 22 cs = some y) : ∃ xs A c,cs = [.slice A (List.length xs) c] ∧ xs.length ≤ c ∧ (Kd.int .u8).C w A xs.length xs ∧ Bytes xs:=by
 obtain ⟨xs,A,c,he,hcl,hr⟩:=Qj (d:=Kd.int .u8) Tryz.underlying22 (by kernel_rfl) (U3 Tryz.underlying5) _ _ _ h
 refine ⟨xs,A,c,he,hcl,hr,fun b hb => ?_⟩
 obtain ⟨i,hi,rfl⟩:=List.getElem_of_mem hb
 obtain ⟨ad,ha,hc⟩:=Ti hr i hi
 rcases open_ints Tryz.underlying22 Tryz.underlying5 (by kernel_rfl) h with ⟨hcs,_⟩ | ⟨x,l,c',zs,hcs,_,hl,hm,hz,_,hcell,hwz⟩
 ·rw [he,ha] at hcs
  simp at hcs
 ·rw [he,ha] at hcs
  simp only [List.cons.injEq,Value.slice.injEq,Option.some.injEq,and_true] at hcs
  obtain ⟨rfl,h2,rfl⟩:=hcs
  rw [if_pos rfl] at hz
  have h3:=hcell i (by omega)
  rw [hc] at h3
  have h4 : iv xs i = zs.getD i 0:=by simpa using h3
  have h5:=range_u8 hwz i
  have e : iv xs i = xs[i]:=by simp [iv,List.getD_eq_getElem?_getD,hi]
  rw [← e,h4,List.getD_eq_getElem?_getD]
  exact h5
end Go.Proofs.YtjeodgfkilhkhaaGreat
namespace Go.Proofs.YtjeodgfkilhkhaaGreat.fnRiseNot
open Go.ChangeShapes Go.WideShapes Go.ChangeAt Go.RowKit Go.Proofs.YtjeodgfkilhkhaaGreat
theorem own : ownKnob Tryz.prog.godebug = none:=by kernel_rfl
theorem laidOut : laidOutB Tryz.prog = true:=by kernel_rfl
set_option maxRecDepth 100000 in
theorem lifted (os : Os) (started : os.Started) (H : Type) (enc : TypeId × Value → H) :
  ReturnsInHanded {} Tryz.checked os 6 .any (Rows.fnRiseNotSpec.pre6 enc Tryz.prog Tryz.f6 Rows.fnRiseNotRow.domain false) (Rows.fnRiseNotSpec.post enc Tryz.prog Tryz.f6 false true false false):=by
 refine returnsInHanded_of_change_sized (C:=Tryz.checked) own started (by kernel_rfl) Tryz.func6
  (ChangeSpec.witness6 (enc:=enc) (C:=Tryz.checked) false ⟨#[],#[.slice none 0 0], []⟩ 8 (by kernel_rfl) (by kernel_rfl) (by kernel_rfl) (by kernel_rfl)) ?_
 intro W base args ds gs before hval0 hW hcnd hsz0 _
 have hval : ∀ (j : Nat) t v,Tryz.f6.params[j]? = some t → args[j]? = some v → Value.okWide Tryz.prog W .any base t v:=hval0
 have hW':=hW
 obtain ⟨p,q,hA0,hV,rfl,hfz,hnd⟩:=hW
 have hA : DataW.TrodAll enc Tryz.prog W 0 (fun _ => true) true Tryz.f6.params.toList args.toList ds p:=hA0
 rw [Tryz.params6] at hA hval
 obtain ⟨v0,vs0,d0,ds0,p0,q0,hargs,rfl,rfl,h0,r0⟩:=trodAll_cons hA
 obtain ⟨rfl,rfl,rfl⟩:=trodAll_nil r0
 obtain rfl : args = #[v0]:=by cases args;simp_all
 obtain ⟨rfl,rfl⟩:=trodVars_none hV
 have k0:=h0
 have lt0 : ∀ x ∈ p0,x.block < W.heap.size:=by obtain ⟨m,hm⟩:=k0;exact DataW.trod_lt m _ _ _ hm
 obtain ⟨a0,lnn0,cap0,rfl⟩:=okWide_slice Tryz.underlying22 (hval 0 22 v0 rfl rfl)
 obtain ⟨fuel0,hf0⟩:=h0
 obtain ⟨xs0,A0,c0,he0,hcl0,hr0,hby0⟩:=Qk hf0
 obtain ⟨rfl,rfl,rfl⟩ : a0 = A0 ∧ lnn0 = xs0.length ∧ cap0 = c0:=by simpa [Value.cells] using he0
 clear hA0 hval0 hsz0 hval hA
 refine (FnRiseNot_calls hcl0 hby0 hr0).mono fun e1 W' ⟨he1,bel⟩ => ?_
 subst he1
 exact ⟨_,rfl,_,_,_, [],_, [],hW',trodAll_mk1 (shut_bool Tryz.underlying4 _),(trodAll_cons_mk (Below.trod laidOut (by kernel_rfl) (of_decide_eq_true (by kernel_rfl)) k0 bel lt0) trodAll_mk0),rfl,bel.frame _,fun h => by cases h⟩
theorem k24b : (Rows.fnRiseNotRow.lifted == Tryz.pinned.checked.prog.liftsFinal) = true:=by
 rw [show Tryz.pinned.checked.prog.liftsFinal = false from Qy]
 rfl
theorem k24c : (Tryz.pinned.checked.prog.make == some Rows.fnRiseNotRow.make) = true:=by
 rw [show Tryz.pinned.checked.prog.make = some Make.cut from UR]
 rfl
set_option maxRecDepth 100000 in
set_option maxHeartbeats 8000000 in
theorem closed : joinedFacts Tryz.pinned.checked.prog 6 Tryz.f6 Rows.fnRiseNotSpec Rows.fnRiseNotRow = true:=by
 simp only [joinedFacts,Bool.and_eq_true]
 exact ⟨⟨⟨⟨⟨⟨⟨⟨⟨⟨⟨⟨⟨⟨⟨⟨⟨⟨⟨⟨⟨⟨⟨⟨⟨⟨⟨⟨⟨⟨⟨(by as_aux_lemma => kernel_rfl),(by as_aux_lemma => kernel_rfl)⟩,(by as_aux_lemma => kernel_rfl)⟩,(by as_aux_lemma => kernel_rfl)⟩,(by as_aux_lemma => kernel_rfl)⟩,(by as_aux_lemma => kernel_rfl)⟩,(by as_aux_lemma => kernel_rfl)⟩,(by as_aux_lemma => kernel_rfl)⟩,(by as_aux_lemma => kernel_rfl)⟩,(by as_aux_lemma => kernel_rfl)⟩,(by as_aux_lemma => kernel_rfl)⟩,(by as_aux_lemma => kernel_rfl)⟩,(by as_aux_lemma => kernel_rfl)⟩,(by as_aux_lemma => kernel_rfl)⟩,(by as_aux_lemma => kernel_rfl)⟩,(by as_aux_lemma => kernel_rfl)⟩,(by as_aux_lemma => kernel_rfl)⟩,(by as_aux_lemma => kernel_rfl)⟩,(by as_aux_lemma => kernel_rfl)⟩,(by as_aux_lemma => kernel_rfl)⟩,(by as_aux_lemma => kernel_rfl)⟩,(by as_aux_lemma => kernel_rfl)⟩,(by as_aux_lemma => kernel_rfl)⟩,(by as_aux_lemma => kernel_rfl)⟩,(by as_aux_lemma => kernel_rfl)⟩,U8⟩,k24b⟩,k24c⟩,(by as_aux_lemma => kernel_rfl)⟩,(by as_aux_lemma => kernel_rfl)⟩,(by as_aux_lemma => kernel_rfl)⟩,(by as_aux_lemma => kernel_rfl)⟩
theorem over : Rows.fnRiseNotRow.holds Tryz.pinned (OpenSpec.ofChange Rows.fnRiseNotSpec):=
 OpenClaim.holds_of_wide 6 Tryz.f6 rfl rfl rfl rfl rfl rfl rfl ⟨rfl,rfl,rfl,rfl,rfl⟩ rfl rfl rfl rfl rfl (by kernel_rfl) Tryz.func6 closed
  (of_decide_eq_true (by kernel_rfl)) (by unfold Func.isWrapper;first | (rw [if_pos (by decide +kernel)];kernel_rfl) | (rw [if_neg (by decide +kernel)];exact ⟨rfl,rfl⟩))
  (fun os started H enc _ => lifted os started H enc)
theorem proved : Rows.FnRiseNotSaid:=over
end Go.Proofs.YtjeodgfkilhkhaaGreat.fnRiseNot
namespace Go.Proofs.YtjeodgfkilhkhaaGreat
theorem fnRiseNot_holds : Rows.FnRiseNotSaid:=fnRiseNot.proved
end Go.Proofs.YtjeodgfkilhkhaaGreat
