/- Proved here: for all bytes that are handed in, laws.FnFallTwice returns true (fallen twice is fallen once). Conditions: none beyond those that the given statement itself bears. -/
import Derived.Test.YtjeodgfkilhkhaaGreatZS1
import Derived.Test.YtjeodgfkilhkhaaGreatZV2
import Derived.Test.YtjeodgfkilhkhaaGreatZI1
import Derived.Test.YtjeodgfkilhkhaaGreatZH1
import Derived.Test.YtjeodgfkilhkhaaGreatZN1
import Derived.Test.YtjeodgfkilhkhaaGreatZF1
import Derived.Test.YtjeodgfkilhkhaaGreatZT1
import Derived.Test.YtjeodgfkilhkhaaGreatZA1
import Derived.WalkKit
import Derived.ProofKit
import Derived.OpenShut
import Derived.ShutString
import Derived.ChangeOld
import Derived.Below
import Derived.SizedLaws
set_option linter.unusedVariables false
set_option linter.unusedSimpArgs false
namespace Go.Proofs.YtjeodgfkilhkhaaGreat
open Go.RowKit Go.Proofs.YtjeodgfkilhkhaaGreatW.PrintWords Go.Proofs.YtjeodgfkilhkhaaGreatW.PrintLast Go.Proofs.YtjeodgfkilhkhaaGreatW.PrintMore
set_option maxRecDepth 100000 in
set_option maxHeartbeats 16000000 in
theorem FnFallTwice_calls {w : World} {A : Option Addr} {c : Nat} {xs : List Int} {B : Option Addr} {d : Nat} {ys : List Int} (hcap : xs.length ≤ c) (hx : Bytes xs) (hr : Kd.C (Kd.int .u8) w A xs.length xs) (hy : ys.length ≤ 9223372036854775807) : Calls Tryz.prog 4 #[.slice A xs.length c, .slice B ys.length d] w (OJ w):=by
 have HR:=As hr
 have HCAP:=As hcap
 have HBY:=As hx
 have hmx:=(CY hr).2
 clear hcap hx hr
 rcases lts 1048576 (xs.length : Int) with ⟨e1,b1,c1⟩ | ⟨e1,b1,c1⟩
 ·go_enter Tryz.func4,Tryz.ntmps4
  go_wp2
  go_ret
  exact ⟨rfl,Below.refl _ _⟩
 rcases lts 1048576 (ys.length : Int) with ⟨e2,b2,c2⟩ | ⟨e2,b2,c2⟩
 ·go_enter Tryz.func4,Tryz.ntmps4
  go_wp2
  go_ret
  exact ⟨rfl,Below.refl _ _⟩
 go_enter Tryz.func4,Tryz.ntmps4
 have D0 : True:=trivial
 go_wp2_with (first | (clear D0;go_at_call 10;refine (DrawRiseFall_calls HCAP.out HBY.out (Below.refl w.heap.size w) HR.out).mono ?_;rintro x w1 ⟨E,B1,B2,B3,d1,d2,d3,num,rfl,hcap,hfw,hD,hC,hb1⟩;have HE:=As hC;have HD:=As (And.intro hcap (And.intro hfw hD));have HB:=As hb1;clear hcap hfw hD hC hb1;have D1 : True:=trivial) | (clear D1;with_reducible refine Ca (vd:=.slice B1 E.disk.length d1) (vm:=.slice B2 E.mem.length d2) (vl:=.slice B3 E.log.length d3) E ?_;intro w2 hb hz hq;have HQ:=As hq;have HE:=As (HE.out.up hb);have HB:=As (bj HB.out hb);clear hb hz hq;obtain ⟨x0,x1,x2,x3,x4⟩:=HQ.out.all;have D2 : True:=trivial))
 obtain ⟨X,bb,hX⟩ : ∃ X bb,Fa E num = (X,bb):=⟨_,_,rfl⟩
 have HX:=As hX
 clear hX
 cases bb
 ·skip
  have K0 : True:=trivial
  go_wp2_with (first | (clear K0;go_at_call 11;refine (Ru (cd:=d1) (cm:=d2) (cl:=d3) num HD.out.1 (Below.refl _ _) HE.out).mono ?_;rw [HX.out];rintro x w3 ⟨vd,vm,vl,rfl,ho,hb⟩;obtain ⟨J1,j1_,J2,j2_,J3,j3_,rfl,rfl,rfl,hclHJ,hc⟩:=ho.reads;have HJ:=As hc;have HJL:=As hclHJ;have HE:=As (HE.out.up hb);have HQ:=As (HQ.out.up hb);have HB:=As (bj HB.out hb);clear x0 x1 x2 x3 x4;obtain ⟨x0,x1,x2,x3,x4⟩:=HQ.out.all;clear ho hb hc hclHJ;have K1 : True:=trivial) | (clear K1;with_reducible refine Ca (vd:=.slice J1 X.disk.length j1_) (vm:=.slice J2 X.mem.length j2_) (vl:=.slice J3 X.log.length j3_) X ?_;intro w4 hb hz hq;have HQS:=As hq;have HE:=As (HE.out.up hb);have HJ:=As (HJ.out.up hb);have HQ:=As (HQ.out.up hb);have HB:=As (bj HB.out hb);clear x0 x1 x2 x3 x4;obtain ⟨x0,x1,x2,x3,x4⟩:=HQ.out.all;clear hb hz hq;obtain ⟨s0,s1,s2,s3,s4⟩:=HQS.out.all;have K2 : True:=trivial) | (clear K2;go_at_call 12;refine (Vp (cd:=d1) (cm:=d2) (cl:=d3) num HD.out.1 (Below.refl _ _) HE.out).mono ?_;rw [HX.out];rintro x w5 ⟨vd,vm,vl,rfl,ho,hb⟩;obtain ⟨G1,g1_,G2,g2_,G3,g3_,rfl,rfl,rfl,hclHG,hc⟩:=ho.reads;have HG:=As hc;have HGL:=As hclHG;have HE:=As (HE.out.up hb);have HJ:=As (HJ.out.up hb);have HQ:=As (HQ.out.up hb);have HQS:=As (HQS.out.up hb);have HB:=As (bj HB.out hb);clear x0 x1 x2 x3 x4;obtain ⟨x0,x1,x2,x3,x4⟩:=HQ.out.all;clear s0 s1 s2 s3 s4;obtain ⟨s0,s1,s2,s3,s4⟩:=HQS.out.all;clear ho hb hc hclHG;have K3 : True:=trivial) | (clear K3;with_reducible refine Ca (vd:=.slice G1 X.disk.length g1_) (vm:=.slice G2 X.mem.length g2_) (vl:=.slice G3 X.log.length g3_) X ?_;intro w6 hb hz hq;have HQG:=As hq;have HE:=As (HE.out.up hb);have HJ:=As (HJ.out.up hb);have HG:=As (HG.out.up hb);have HQ:=As (HQ.out.up hb);have HQS:=As (HQS.out.up hb);have HB:=As (bj HB.out hb);clear x0 x1 x2 x3 x4;obtain ⟨x0,x1,x2,x3,x4⟩:=HQ.out.all;clear s0 s1 s2 s3 s4;obtain ⟨s0,s1,s2,s3,s4⟩:=HQS.out.all;clear hb hz hq;obtain ⟨g0,g1,g2,g3,g4⟩:=HQG.out.all;have K4 : True:=trivial) | (clear K4;go_at_call 13;refine (UU (e:=X) (cd:=g1_) (cm:=g2_) (cl:=g3_) (dd:=j1_) (dm:=j2_) (dl:=j3_) (Below.refl _ _) HG.out (Below.refl _ _) HJ.out).mono ?_;rintro x w7 ⟨rfl,hb⟩;have HE:=As (HE.out.up hb);have HJ:=As (HJ.out.up hb);have HG:=As (HG.out.up hb);have HQ:=As (HQ.out.up hb);have HQS:=As (HQS.out.up hb);have HQG:=As (HQG.out.up hb);have HB:=As (bj HB.out hb);clear x0 x1 x2 x3 x4;obtain ⟨x0,x1,x2,x3,x4⟩:=HQ.out.all;clear s0 s1 s2 s3 s4;obtain ⟨s0,s1,s2,s3,s4⟩:=HQS.out.all;clear g0 g1 g2 g3 g4;obtain ⟨g0,g1,g2,g3,g4⟩:=HQG.out.all;clear hb;have K5 : True:=trivial) | (clear K5;go_at_call 13;refine (UU (e:=X) (cd:=g1_) (cm:=g2_) (cl:=g3_) (dd:=j1_) (dm:=j2_) (dl:=j3_) (Below.refl _ _) HG.out (Below.refl _ _) HJ.out).mono ?_;rintro x w8 ⟨rfl,hb⟩;have HE:=As (HE.out.up hb);have HJ:=As (HJ.out.up hb);have HG:=As (HG.out.up hb);have HQ:=As (HQ.out.up hb);have HQS:=As (HQS.out.up hb);have HQG:=As (HQG.out.up hb);have HB:=As (bj HB.out hb);clear x0 x1 x2 x3 x4;obtain ⟨x0,x1,x2,x3,x4⟩:=HQ.out.all;clear s0 s1 s2 s3 s4;obtain ⟨s0,s1,s2,s3,s4⟩:=HQS.out.all;clear g0 g1 g2 g3 g4;obtain ⟨g0,g1,g2,g3,g4⟩:=HQG.out.all;clear hb;have K6 : True:=trivial))
  go_ret
  exact ⟨rfl,HB.out⟩
 have hys : (ys.length : Int) ≤ 1048576:=e2.out
 obtain ⟨hok,hn0⟩:=fallR_yes HX.out
 have hXX : X = BL E num:=by have h:=HX.out;rw [XM hok hn0] at h;exact (congrArg Prod.fst h).symm
 have hfo : eOk X = true:=by rw [hXX];exact Wq hok HD.out.2.2 num
 obtain ⟨m,hm⟩ : ∃ m : Int,(ys.length : Int) % ((E.log.length : Int) + 1) = m:=⟨_,rfl⟩
 have hm0 : 0 ≤ m:=by rw [← hm];exact Int.emod_nonneg _ (by omega)
 have HT1:=As (show Fa X X.log.length = (X,true) by rw [XM hfo (by omega),hXX,Yx hok])
 obtain ⟨Z,hZ⟩ : ∃ Z,BL E (min m num) = Z:=⟨_,rfl⟩
 have HT2:=As (show Fa X m = (Z,true) by rw [XM hfo hm0,hXX,YP hok,hZ])
 have HT3:=As (show Fa E (min m num) = (Z,true) by rw [XM hok (by omega),hZ])
 have hfw:=HD.out.2.1
 have hwr : IntKind.i64.wrap ((E.log.length : Int) + 1) = (E.log.length : Int) + 1:=by simp (disch:=omega) only [IntWalk.i64_in]
 have hrm : (ys.length : Int).tmod ((E.log.length : Int) + 1) = m:=by rw [Int.tmod_eq_emod_of_nonneg (by omega),hm]
 have hne : ¬ ((E.log.length : Int) + 1 = 0):=by omega
 clear hok hn0 hXX hfo hm hZ
 have K0 : True:=trivial
 go_wp2_with (first | (clear K0;go_at_call 11;refine (Ru (cd:=d1) (cm:=d2) (cl:=d3) num HD.out.1 (Below.refl _ _) HE.out).mono ?_;rw [HX.out];rintro x w3 ⟨vd,vm,vl,rfl,ho,hb⟩;obtain ⟨J1,j1_,J2,j2_,J3,j3_,rfl,rfl,rfl,hclHJ,hc⟩:=ho.reads;have HJ:=As hc;have HJL:=As hclHJ;have HE:=As (HE.out.up hb);have HQ:=As (HQ.out.up hb);have HB:=As (bj HB.out hb);clear x0 x1 x2 x3 x4;obtain ⟨x0,x1,x2,x3,x4⟩:=HQ.out.all;clear ho hb hc hclHJ;have K1 : True:=trivial) | (clear K1;with_reducible refine Ca (vd:=.slice J1 X.disk.length j1_) (vm:=.slice J2 X.mem.length j2_) (vl:=.slice J3 X.log.length j3_) X ?_;intro w4 hb hz hq;have HQS:=As hq;have HE:=As (HE.out.up hb);have HJ:=As (HJ.out.up hb);have HQ:=As (HQ.out.up hb);have HB:=As (bj HB.out hb);clear x0 x1 x2 x3 x4;obtain ⟨x0,x1,x2,x3,x4⟩:=HQ.out.all;clear hb hz hq;obtain ⟨s0,s1,s2,s3,s4⟩:=HQS.out.all;have K2 : True:=trivial) | (clear K2;go_at_call 12;refine (Vp (cd:=d1) (cm:=d2) (cl:=d3) num HD.out.1 (Below.refl _ _) HE.out).mono ?_;rw [HX.out];rintro x w5 ⟨vd,vm,vl,rfl,ho,hb⟩;obtain ⟨G1,g1_,G2,g2_,G3,g3_,rfl,rfl,rfl,hclHG,hc⟩:=ho.reads;have HG:=As hc;have HGL:=As hclHG;have HE:=As (HE.out.up hb);have HJ:=As (HJ.out.up hb);have HQ:=As (HQ.out.up hb);have HQS:=As (HQS.out.up hb);have HB:=As (bj HB.out hb);clear x0 x1 x2 x3 x4;obtain ⟨x0,x1,x2,x3,x4⟩:=HQ.out.all;clear s0 s1 s2 s3 s4;obtain ⟨s0,s1,s2,s3,s4⟩:=HQS.out.all;clear ho hb hc hclHG;have K3 : True:=trivial) | (clear K3;with_reducible refine Ca (vd:=.slice G1 X.disk.length g1_) (vm:=.slice G2 X.mem.length g2_) (vl:=.slice G3 X.log.length g3_) X ?_;intro w6 hb hz hq;have HQG:=As hq;have HE:=As (HE.out.up hb);have HJ:=As (HJ.out.up hb);have HG:=As (HG.out.up hb);have HQ:=As (HQ.out.up hb);have HQS:=As (HQS.out.up hb);have HB:=As (bj HB.out hb);clear x0 x1 x2 x3 x4;obtain ⟨x0,x1,x2,x3,x4⟩:=HQ.out.all;clear s0 s1 s2 s3 s4;obtain ⟨s0,s1,s2,s3,s4⟩:=HQS.out.all;clear hb hz hq;obtain ⟨g0,g1,g2,g3,g4⟩:=HQG.out.all;have K4 : True:=trivial) | (clear K4;go_at_call 13;refine (UU (e:=X) (cd:=g1_) (cm:=g2_) (cl:=g3_) (dd:=j1_) (dm:=j2_) (dl:=j3_) (Below.refl _ _) HG.out (Below.refl _ _) HJ.out).mono ?_;rintro x w7 ⟨rfl,hb⟩;have HE:=As (HE.out.up hb);have HJ:=As (HJ.out.up hb);have HG:=As (HG.out.up hb);have HQ:=As (HQ.out.up hb);have HQS:=As (HQS.out.up hb);have HQG:=As (HQG.out.up hb);have HB:=As (bj HB.out hb);clear x0 x1 x2 x3 x4;obtain ⟨x0,x1,x2,x3,x4⟩:=HQ.out.all;clear s0 s1 s2 s3 s4;obtain ⟨s0,s1,s2,s3,s4⟩:=HQS.out.all;clear g0 g1 g2 g3 g4;obtain ⟨g0,g1,g2,g3,g4⟩:=HQG.out.all;clear hb;have K5 : True:=trivial) | (clear K5;go_at_call 12;refine (Vp (cd:=g1_) (cm:=g2_) (cl:=g3_) X.log.length HGL.out (Below.refl _ _) HG.out).mono ?_;rw [HT1.out];rintro x w8 ⟨vd,vm,vl,rfl,ho,hb⟩;obtain ⟨Y1,y1_,Y2,y2_,Y3,y3_,rfl,rfl,rfl,hclHY,hc⟩:=ho.reads;have HY:=As hc;have HYL:=As hclHY;have HE:=As (HE.out.up hb);have HJ:=As (HJ.out.up hb);have HG:=As (HG.out.up hb);have HQ:=As (HQ.out.up hb);have HQS:=As (HQS.out.up hb);have HQG:=As (HQG.out.up hb);have HB:=As (bj HB.out hb);clear x0 x1 x2 x3 x4;obtain ⟨x0,x1,x2,x3,x4⟩:=HQ.out.all;clear s0 s1 s2 s3 s4;obtain ⟨s0,s1,s2,s3,s4⟩:=HQS.out.all;clear g0 g1 g2 g3 g4;obtain ⟨g0,g1,g2,g3,g4⟩:=HQG.out.all;clear ho hb hc hclHY;have K6 : True:=trivial) | (clear K6;with_reducible refine Ca (vd:=.slice Y1 X.disk.length y1_) (vm:=.slice Y2 X.mem.length y2_) (vl:=.slice Y3 X.log.length y3_) X ?_;intro w9 hb hz hq;have HQY:=As hq;have HE:=As (HE.out.up hb);have HJ:=As (HJ.out.up hb);have HG:=As (HG.out.up hb);have HY:=As (HY.out.up hb);have HQ:=As (HQ.out.up hb);have HQS:=As (HQS.out.up hb);have HQG:=As (HQG.out.up hb);have HB:=As (bj HB.out hb);clear x0 x1 x2 x3 x4;obtain ⟨x0,x1,x2,x3,x4⟩:=HQ.out.all;clear s0 s1 s2 s3 s4;obtain ⟨s0,s1,s2,s3,s4⟩:=HQS.out.all;clear g0 g1 g2 g3 g4;obtain ⟨g0,g1,g2,g3,g4⟩:=HQG.out.all;clear hb hz hq;obtain ⟨y0,y1,y2,y3,y4⟩:=HQY.out.all;have K7 : True:=trivial) | (clear K7;go_at_call 12;refine (Vp (cd:=g1_) (cm:=g2_) (cl:=g3_) m HGL.out (Below.refl _ _) HG.out).mono ?_;rw [HT2.out];rintro x w10 ⟨vd,vm,vl,rfl,ho,hb⟩;obtain ⟨Z1,z1_,Z2,z2_,Z3,z3_,rfl,rfl,rfl,hclHZ,hc⟩:=ho.reads;have HZ:=As hc;have HZL:=As hclHZ;have HE:=As (HE.out.up hb);have HJ:=As (HJ.out.up hb);have HG:=As (HG.out.up hb);have HY:=As (HY.out.up hb);have HQ:=As (HQ.out.up hb);have HQS:=As (HQS.out.up hb);have HQG:=As (HQG.out.up hb);have HQY:=As (HQY.out.up hb);have HB:=As (bj HB.out hb);clear x0 x1 x2 x3 x4;obtain ⟨x0,x1,x2,x3,x4⟩:=HQ.out.all;clear s0 s1 s2 s3 s4;obtain ⟨s0,s1,s2,s3,s4⟩:=HQS.out.all;clear g0 g1 g2 g3 g4;obtain ⟨g0,g1,g2,g3,g4⟩:=HQG.out.all;clear y0 y1 y2 y3 y4;obtain ⟨y0,y1,y2,y3,y4⟩:=HQY.out.all;clear ho hb hc hclHZ;have K8 : True:=trivial) | (clear K8;with_reducible refine Ca (vd:=.slice Z1 Z.disk.length z1_) (vm:=.slice Z2 Z.mem.length z2_) (vl:=.slice Z3 Z.log.length z3_) Z ?_;intro w11 hb hz hq;have HQZ:=As hq;have HE:=As (HE.out.up hb);have HJ:=As (HJ.out.up hb);have HG:=As (HG.out.up hb);have HY:=As (HY.out.up hb);have HZ:=As (HZ.out.up hb);have HQ:=As (HQ.out.up hb);have HQS:=As (HQS.out.up hb);have HQG:=As (HQG.out.up hb);have HQY:=As (HQY.out.up hb);have HB:=As (bj HB.out hb);clear x0 x1 x2 x3 x4;obtain ⟨x0,x1,x2,x3,x4⟩:=HQ.out.all;clear s0 s1 s2 s3 s4;obtain ⟨s0,s1,s2,s3,s4⟩:=HQS.out.all;clear g0 g1 g2 g3 g4;obtain ⟨g0,g1,g2,g3,g4⟩:=HQG.out.all;clear y0 y1 y2 y3 y4;obtain ⟨y0,y1,y2,y3,y4⟩:=HQY.out.all;clear hb hz hq;obtain ⟨z0,z1,z2,z3,z4⟩:=HQZ.out.all;have K9 : True:=trivial) | (clear K9;go_at_call 12;refine (Vp (cd:=d1) (cm:=d2) (cl:=d3) (min m num) HD.out.1 (Below.refl _ _) HE.out).mono ?_;rw [HT3.out];rintro x w12 ⟨vd,vm,vl,rfl,ho,hb⟩;obtain ⟨U1,u1_,U2,u2_,U3,u3_,rfl,rfl,rfl,hclHU,hc⟩:=ho.reads;have HU:=As hc;have HUL:=As hclHU;have HE:=As (HE.out.up hb);have HJ:=As (HJ.out.up hb);have HG:=As (HG.out.up hb);have HY:=As (HY.out.up hb);have HZ:=As (HZ.out.up hb);have HQ:=As (HQ.out.up hb);have HQS:=As (HQS.out.up hb);have HQG:=As (HQG.out.up hb);have HQY:=As (HQY.out.up hb);have HQZ:=As (HQZ.out.up hb);have HB:=As (bj HB.out hb);clear x0 x1 x2 x3 x4;obtain ⟨x0,x1,x2,x3,x4⟩:=HQ.out.all;clear s0 s1 s2 s3 s4;obtain ⟨s0,s1,s2,s3,s4⟩:=HQS.out.all;clear g0 g1 g2 g3 g4;obtain ⟨g0,g1,g2,g3,g4⟩:=HQG.out.all;clear y0 y1 y2 y3 y4;obtain ⟨y0,y1,y2,y3,y4⟩:=HQY.out.all;clear z0 z1 z2 z3 z4;obtain ⟨z0,z1,z2,z3,z4⟩:=HQZ.out.all;clear ho hb hc hclHU;have K10 : True:=trivial) | (clear K10;with_reducible refine Ca (vd:=.slice U1 Z.disk.length u1_) (vm:=.slice U2 Z.mem.length u2_) (vl:=.slice U3 Z.log.length u3_) Z ?_;intro w13 hb hz hq;have HQU:=As hq;have HE:=As (HE.out.up hb);have HJ:=As (HJ.out.up hb);have HG:=As (HG.out.up hb);have HY:=As (HY.out.up hb);have HZ:=As (HZ.out.up hb);have HU:=As (HU.out.up hb);have HQ:=As (HQ.out.up hb);have HQS:=As (HQS.out.up hb);have HQG:=As (HQG.out.up hb);have HQY:=As (HQY.out.up hb);have HQZ:=As (HQZ.out.up hb);have HB:=As (bj HB.out hb);clear x0 x1 x2 x3 x4;obtain ⟨x0,x1,x2,x3,x4⟩:=HQ.out.all;clear s0 s1 s2 s3 s4;obtain ⟨s0,s1,s2,s3,s4⟩:=HQS.out.all;clear g0 g1 g2 g3 g4;obtain ⟨g0,g1,g2,g3,g4⟩:=HQG.out.all;clear y0 y1 y2 y3 y4;obtain ⟨y0,y1,y2,y3,y4⟩:=HQY.out.all;clear z0 z1 z2 z3 z4;obtain ⟨z0,z1,z2,z3,z4⟩:=HQZ.out.all;clear hb hz hq;obtain ⟨u0,u1,u2,u3,u4⟩:=HQU.out.all;have K11 : True:=trivial) | (clear K11;go_at_call 13;refine (UU (e:=X) (cd:=y1_) (cm:=y2_) (cl:=y3_) (dd:=g1_) (dm:=g2_) (dl:=g3_) (Below.refl _ _) HY.out (Below.refl _ _) HG.out).mono ?_;rintro x w14 ⟨rfl,hb⟩;have HE:=As (HE.out.up hb);have HJ:=As (HJ.out.up hb);have HG:=As (HG.out.up hb);have HY:=As (HY.out.up hb);have HZ:=As (HZ.out.up hb);have HU:=As (HU.out.up hb);have HQ:=As (HQ.out.up hb);have HQS:=As (HQS.out.up hb);have HQG:=As (HQG.out.up hb);have HQY:=As (HQY.out.up hb);have HQZ:=As (HQZ.out.up hb);have HQU:=As (HQU.out.up hb);have HB:=As (bj HB.out hb);clear x0 x1 x2 x3 x4;obtain ⟨x0,x1,x2,x3,x4⟩:=HQ.out.all;clear s0 s1 s2 s3 s4;obtain ⟨s0,s1,s2,s3,s4⟩:=HQS.out.all;clear g0 g1 g2 g3 g4;obtain ⟨g0,g1,g2,g3,g4⟩:=HQG.out.all;clear y0 y1 y2 y3 y4;obtain ⟨y0,y1,y2,y3,y4⟩:=HQY.out.all;clear z0 z1 z2 z3 z4;obtain ⟨z0,z1,z2,z3,z4⟩:=HQZ.out.all;clear u0 u1 u2 u3 u4;obtain ⟨u0,u1,u2,u3,u4⟩:=HQU.out.all;clear hb;have K12 : True:=trivial) | (clear K12;go_at_call 13;refine (UU (e:=Z) (cd:=z1_) (cm:=z2_) (cl:=z3_) (dd:=u1_) (dm:=u2_) (dl:=u3_) (Below.refl _ _) HZ.out (Below.refl _ _) HU.out).mono ?_;rintro x w15 ⟨rfl,hb⟩;have HE:=As (HE.out.up hb);have HJ:=As (HJ.out.up hb);have HG:=As (HG.out.up hb);have HY:=As (HY.out.up hb);have HZ:=As (HZ.out.up hb);have HU:=As (HU.out.up hb);have HQ:=As (HQ.out.up hb);have HQS:=As (HQS.out.up hb);have HQG:=As (HQG.out.up hb);have HQY:=As (HQY.out.up hb);have HQZ:=As (HQZ.out.up hb);have HQU:=As (HQU.out.up hb);have HB:=As (bj HB.out hb);clear x0 x1 x2 x3 x4;obtain ⟨x0,x1,x2,x3,x4⟩:=HQ.out.all;clear s0 s1 s2 s3 s4;obtain ⟨s0,s1,s2,s3,s4⟩:=HQS.out.all;clear g0 g1 g2 g3 g4;obtain ⟨g0,g1,g2,g3,g4⟩:=HQG.out.all;clear y0 y1 y2 y3 y4;obtain ⟨y0,y1,y2,y3,y4⟩:=HQY.out.all;clear z0 z1 z2 z3 z4;obtain ⟨z0,z1,z2,z3,z4⟩:=HQZ.out.all;clear u0 u1 u2 u3 u4;obtain ⟨u0,u1,u2,u3,u4⟩:=HQU.out.all;clear hb;have K13 : True:=trivial))
 go_ret
 exact ⟨rfl,HB.out⟩
open Go.RowKit Go.Proofs.YtjeodgfkilhkhaaGreatW.PrintWords Go.Proofs.YtjeodgfkilhkhaaGreatW.PrintLast Go.Proofs.YtjeodgfkilhkhaaGreatW.PrintMore Go.ChangeShapes Go.WideShapes Go.Deep
theorem Qk {H : Type} {enc : TypeId × Value → H} {w : World} {held : Bool} {fuel : Nat} {cs : List Value} {y : DataW H × List MemPlace} (h : DataW.trod enc Tryz.prog w 0 (fun _ => true) held fuel 22 cs = some y) : ∃ xs A c,cs = [.slice A (List.length xs) c] ∧ xs.length ≤ c ∧ (Kd.int .u8).C w A xs.length xs ∧ Bytes xs:=by
 obtain ⟨xs,A,c,he,hcl,hr⟩:=Qj (d:=Kd.int .u8) Tryz.underlying22 (by kernel_rfl) (U3 Tryz.underlying5) _ _ _ h
 refine ⟨xs,A,c,he,hcl,hr,fun b hb => ?_⟩
 obtain ⟨i,hi,rfl⟩:=List.getElem_of_mem hb
 obtain ⟨ad,ha,hc⟩:=Ti hr i hi
 rcases open_ints Tryz.underlying22 Tryz.underlying5 (by kernel_rfl) h with ⟨hcs,_⟩ | ⟨x,l,c',zs,hcs,_,hl,hm,hz,_,hcell,hwz⟩
 ·rw [he,ha] at hcs
  simp at hcs
 ·rw [he,ha] at hcs
  simp only [List.cons.injEq,Value.slice.injEq,Option.some.injEq,and_true] at hcs
  obtain ⟨rfl,h2,rfl⟩:=hcs
  rw [if_pos rfl] at hz
  have h3:=hcell i (by omega)
  rw [hc] at h3
  have h4 : iv xs i = zs.getD i 0:=by simpa using h3
  have h5:=range_u8 hwz i
  have e : iv xs i = xs[i]:=by simp [iv,List.getD_eq_getElem?_getD,hi]
  rw [← e,h4,List.getD_eq_getElem?_getD]
  exact h5
end Go.Proofs.YtjeodgfkilhkhaaGreat
namespace Go.Proofs.YtjeodgfkilhkhaaGreat.fnFallTwice
open Go.ChangeShapes Go.WideShapes Go.ChangeAt Go.RowKit Go.Proofs.YtjeodgfkilhkhaaGreat
theorem own : ownKnob Tryz.prog.godebug = none:=by kernel_rfl
theorem laidOut : laidOutB Tryz.prog = true:=by kernel_rfl
set_option maxRecDepth 100000 in
theorem lifted (os : Os) (started : os.Started) (H : Type) (enc : TypeId × Value → H) :
  ReturnsInHanded {} Tryz.checked os 4 .any (Rows.fnFallTwiceSpec.pre6 enc Tryz.prog Tryz.f4 Rows.fnFallTwiceRow.domain false) (Rows.fnFallTwiceSpec.post enc Tryz.prog Tryz.f4 false true false false):=by
 refine returnsInHanded_of_change_sized (C:=Tryz.checked) own started (by kernel_rfl) Tryz.func4
  (ChangeSpec.witness6 (enc:=enc) (C:=Tryz.checked) false ⟨#[],#[.slice none 0 0, .slice none 0 0], []⟩ 8 (by kernel_rfl) (by kernel_rfl) (by kernel_rfl) (by kernel_rfl)) ?_
 intro W base args ds gs before hval0 hW hcnd hsz0 _
 have hval : ∀ (j : Nat) t v,Tryz.f4.params[j]? = some t → args[j]? = some v → Value.okWide Tryz.prog W .any base t v:=hval0
 have hW':=hW
 obtain ⟨p,q,hA0,hV,rfl,hfz,hnd⟩:=hW
 have hA : DataW.TrodAll enc Tryz.prog W 0 (fun _ => true) true Tryz.f4.params.toList args.toList ds p:=hA0
 rw [Tryz.params4] at hA hval
 obtain ⟨v0,vs0,d0,ds0,p0,q0,hargs,rfl,rfl,h0,r0⟩:=trodAll_cons hA
 obtain ⟨v1,vs1,d1,ds1,p1,q1,rfl,rfl,rfl,h1,r1⟩:=trodAll_cons r0
 obtain ⟨rfl,rfl,rfl⟩:=trodAll_nil r1
 obtain rfl : args = #[v0,v1]:=by cases args;simp_all
 obtain ⟨rfl,rfl⟩:=trodVars_none hV
 have k0:=h0
 have lt0 : ∀ x ∈ p0,x.block < W.heap.size:=by obtain ⟨m,hm⟩:=k0;exact DataW.trod_lt m _ _ _ hm
 obtain ⟨a0,lnn0,cap0,rfl⟩:=okWide_slice Tryz.underlying22 (hval 0 22 v0 rfl rfl)
 obtain ⟨fuel0,hf0⟩:=h0
 obtain ⟨xs0,A0,c0,he0,hcl0,hr0,hby0⟩:=Qk hf0
 obtain ⟨rfl,rfl,rfl⟩ : a0 = A0 ∧ lnn0 = xs0.length ∧ cap0 = c0:=by simpa [Value.cells] using he0
 have k1:=h1
 have lt1 : ∀ x ∈ p1,x.block < W.heap.size:=by obtain ⟨m,hm⟩:=k1;exact DataW.trod_lt m _ _ _ hm
 obtain ⟨a1,lnn1,cap1,rfl⟩:=okWide_slice Tryz.underlying22 (hval 1 22 v1 rfl rfl)
 obtain ⟨fuel1,hf1⟩:=h1
 obtain ⟨xs1,A1,c1,he1,hcl1,hr1,hby1⟩:=Qk hf1
 obtain ⟨rfl,rfl,rfl⟩ : a1 = A1 ∧ lnn1 = xs1.length ∧ cap1 = c1:=by simpa [Value.cells] using he1
 clear hA0 hval0 hsz0 hval hA
 refine (FnFallTwice_calls hcl0 hby0 hr0 (CY hr1).2).mono fun e1 W' ⟨he1,bel⟩ => ?_
 subst he1
 exact ⟨_,rfl,_,_,_, [],_, [],hW',trodAll_mk1 (shut_bool Tryz.underlying4 _),(trodAll_cons_mk (Below.trod laidOut (by kernel_rfl) (of_decide_eq_true (by kernel_rfl)) k0 bel lt0) (trodAll_cons_mk (Below.trod laidOut (by kernel_rfl) (of_decide_eq_true (by kernel_rfl)) k1 bel lt1) trodAll_mk0)),rfl,bel.frame _,fun h => by cases h⟩
theorem k24b : (Rows.fnFallTwiceRow.lifted == Tryz.pinned.checked.prog.liftsFinal) = true:=by
 rw [show Tryz.pinned.checked.prog.liftsFinal = false from Qy]
 rfl
theorem k24c : (Tryz.pinned.checked.prog.make == some Rows.fnFallTwiceRow.make) = true:=by
 rw [show Tryz.pinned.checked.prog.make = some Make.cut from UR]
 rfl
set_option maxRecDepth 100000 in
set_option maxHeartbeats 8000000 in
theorem closed : joinedFacts Tryz.pinned.checked.prog 4 Tryz.f4 Rows.fnFallTwiceSpec Rows.fnFallTwiceRow = true:=by
 simp only [joinedFacts,Bool.and_eq_true]
 exact ⟨⟨⟨⟨⟨⟨⟨⟨⟨⟨⟨⟨⟨⟨⟨⟨⟨⟨⟨⟨⟨⟨⟨⟨⟨⟨⟨⟨⟨⟨⟨(by as_aux_lemma => kernel_rfl),(by as_aux_lemma => kernel_rfl)⟩,(by as_aux_lemma => kernel_rfl)⟩,(by as_aux_lemma => kernel_rfl)⟩,(by as_aux_lemma => kernel_rfl)⟩,(by as_aux_lemma => kernel_rfl)⟩,(by as_aux_lemma => kernel_rfl)⟩,(by as_aux_lemma => kernel_rfl)⟩,(by as_aux_lemma => kernel_rfl)⟩,(by as_aux_lemma => kernel_rfl)⟩,(by as_aux_lemma => kernel_rfl)⟩,(by as_aux_lemma => kernel_rfl)⟩,(by as_aux_lemma => kernel_rfl)⟩,(by as_aux_lemma => kernel_rfl)⟩,(by as_aux_lemma => kernel_rfl)⟩,(by as_aux_lemma => kernel_rfl)⟩,(by as_aux_lemma => kernel_rfl)⟩,(by as_aux_lemma => kernel_rfl)⟩,(by as_aux_lemma => kernel_rfl)⟩,(by as_aux_lemma => kernel_rfl)⟩,(by as_aux_lemma => kernel_rfl)⟩,(by as_aux_lemma => kernel_rfl)⟩,(by as_aux_lemma => kernel_rfl)⟩,(by as_aux_lemma => kernel_rfl)⟩,(by as_aux_lemma => kernel_rfl)⟩,U8⟩,k24b⟩,k24c⟩,(by as_aux_lemma => kernel_rfl)⟩,(by as_aux_lemma => kernel_rfl)⟩,(by as_aux_lemma => kernel_rfl)⟩,(by as_aux_lemma => kernel_rfl)⟩
theorem over : Rows.fnFallTwiceRow.holds Tryz.pinned (OpenSpec.ofChange Rows.fnFallTwiceSpec):=
 OpenClaim.holds_of_wide 4 Tryz.f4 rfl rfl rfl rfl rfl rfl rfl ⟨rfl,rfl,rfl,rfl,rfl⟩ rfl rfl rfl rfl rfl (by kernel_rfl) Tryz.func4 closed
  (of_decide_eq_true (by kernel_rfl)) (by unfold Func.isWrapper;first | (rw [if_pos (by decide +kernel)];kernel_rfl) | (rw [if_neg (by decide +kernel)];exact ⟨rfl,rfl⟩))
  (fun os started H enc _ => lifted os started H enc)
theorem proved : Rows.FnFallTwiceSaid:=over
end Go.Proofs.YtjeodgfkilhkhaaGreat.fnFallTwice
namespace Go.Proofs.YtjeodgfkilhkhaaGreat
theorem fnFallTwice_holds : Rows.FnFallTwiceSaid:=fnFallTwice.proved
end Go.Proofs.YtjeodgfkilhkhaaGreat
