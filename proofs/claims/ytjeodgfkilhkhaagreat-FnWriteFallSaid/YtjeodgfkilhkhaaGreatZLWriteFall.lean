/- Proved here: for all bytes that are handed in, laws.FnWriteFall returns true (what was written is there behind a fall). Conditions: none beyond those that the given statement itself bears. -/
import Derived.Test.YtjeodgfkilhkhaaGreatZS1
import Derived.Test.YtjeodgfkilhkhaaGreatZV2
import Derived.Test.YtjeodgfkilhkhaaGreatZI1
import Derived.Test.YtjeodgfkilhkhaaGreatZH1
import Derived.Test.YtjeodgfkilhkhaaGreatZN1
import Derived.Test.YtjeodgfkilhkhaaGreatZF1
import Derived.Test.YtjeodgfkilhkhaaGreatZY1
import Derived.Test.YtjeodgfkilhkhaaGreatZA1
import Derived.WalkKit
import Derived.ProofKit
import Derived.OpenShut
import Derived.ShutString
import Derived.ChangeOld
import Derived.Below
import Derived.SizedLaws
set_option linter.unusedVariables false
set_option linter.unusedSimpArgs false
namespace Go.Proofs.YtjeodgfkilhkhaaGreat
open Go.RowKit Go.Proofs.YtjeodgfkilhkhaaGreatW.PrintWords Go.Proofs.YtjeodgfkilhkhaaGreatW.PrintLast Go.Proofs.YtjeodgfkilhkhaaGreatW.PrintMore
set_option maxRecDepth 100000 in
set_option maxHeartbeats 16000000 in
theorem FnWriteFall_calls {w : World} {A : Option Addr} {c : Nat} {xs : List Int} {B : Option Addr} {d : Nat} {ys : List Int} (hcap : xs.length ≤ c) (hx : Bytes xs) (hr : Kd.C (Kd.int .u8) w A xs.length xs) (hy : ys.length ≤ 9223372036854775807) : Calls Tryz.prog 9 #[.slice A xs.length c, .slice B ys.length d] w (OJ w):=by
 have HR:=As hr
 have HCAP:=As hcap
 have HBY:=As hx
 have hmx:=(CY hr).2
 clear hcap hx hr
 rcases lts 1048576 (xs.length : Int) with ⟨e1,b1,c1⟩ | ⟨e1,b1,c1⟩
 ·go_enter Tryz.func9,Tryz.ntmps9
  go_wp2
  go_ret
  exact ⟨rfl,Below.refl _ _⟩
 rcases lts 1048576 (ys.length : Int) with ⟨e2,b2,c2⟩ | ⟨e2,b2,c2⟩
 ·go_enter Tryz.func9,Tryz.ntmps9
  go_wp2
  go_ret
  exact ⟨rfl,Below.refl _ _⟩
 go_enter Tryz.func9,Tryz.ntmps9
 have D0 : True:=trivial
 go_wp2_with (first | (clear D0;go_at_call 27;refine (DrawEngineWrite_calls HCAP.out HBY.out (Below.refl w.heap.size w) HR.out).mono ?_;rintro x w1 ⟨E,B1,B2,B3,d1,d2,d3,num,rfl,hcap,hfw,hD,hC,hb1⟩;have HE:=As hC;have HD:=As (And.intro hcap (And.intro hfw hD));have HB:=As hb1;clear hcap hfw hD hC hb1;have D1 : True:=trivial) | (clear D1;with_reducible refine Ca (vd:=.slice B1 E.disk.length d1) (vm:=.slice B2 E.mem.length d2) (vl:=.slice B3 E.log.length d3) E ?_;intro w2 hb hz hq;have HQ:=As hq;have HE:=As (HE.out.up hb);have HB:=As (bj HB.out hb);clear hb hz hq;obtain ⟨x0,x1,x2,x3,x4⟩:=HQ.out.all;have D2 : True:=trivial))
 obtain ⟨X,bb,hX⟩ : ∃ X bb,writeR E num = (X,bb):=⟨_,_,rfl⟩
 have HX:=As hX
 clear hX
 cases bb
 ·skip
  have K0 : True:=trivial
  go_wp2_with (first | (clear K0;go_at_call 28;refine (specEngineWrite_calls (cd:=d1) (cm:=d2) (cl:=d3) num HD.out.1 (Below.refl _ _) HE.out).mono ?_;rw [HX.out];rintro x w3 ⟨vd,vm,vl,rfl,ho,hb⟩;obtain ⟨J1,j1_,J2,j2_,J3,j3_,rfl,rfl,rfl,hclHJ,hc⟩:=ho.reads;have HJ:=As hc;have HJL:=As hclHJ;have HE:=As (HE.out.up hb);have HQ:=As (HQ.out.up hb);have HB:=As (bj HB.out hb);clear x0 x1 x2 x3 x4;obtain ⟨x0,x1,x2,x3,x4⟩:=HQ.out.all;clear ho hb hc hclHJ;have K1 : True:=trivial) | (clear K1;with_reducible refine Ca (vd:=.slice J1 X.disk.length j1_) (vm:=.slice J2 X.mem.length j2_) (vl:=.slice J3 X.log.length j3_) X ?_;intro w4 hb hz hq;have HQS:=As hq;have HE:=As (HE.out.up hb);have HJ:=As (HJ.out.up hb);have HQ:=As (HQ.out.up hb);have HB:=As (bj HB.out hb);clear x0 x1 x2 x3 x4;obtain ⟨x0,x1,x2,x3,x4⟩:=HQ.out.all;clear hb hz hq;obtain ⟨s0,s1,s2,s3,s4⟩:=HQS.out.all;have K2 : True:=trivial) | (clear K2;go_at_call 29;refine (EngineWriteR_calls (cd:=d1) (cm:=d2) (cl:=d3) num HD.out.1 (Below.refl _ _) HE.out).mono ?_;rw [HX.out];rintro x w5 ⟨vd,vm,vl,rfl,ho,hb⟩;obtain ⟨G1,g1_,G2,g2_,G3,g3_,rfl,rfl,rfl,hclHG,hc⟩:=ho.reads;have HG:=As hc;have HGL:=As hclHG;have HE:=As (HE.out.up hb);have HJ:=As (HJ.out.up hb);have HQ:=As (HQ.out.up hb);have HQS:=As (HQS.out.up hb);have HB:=As (bj HB.out hb);clear x0 x1 x2 x3 x4;obtain ⟨x0,x1,x2,x3,x4⟩:=HQ.out.all;clear s0 s1 s2 s3 s4;obtain ⟨s0,s1,s2,s3,s4⟩:=HQS.out.all;clear ho hb hc hclHG;have K3 : True:=trivial) | (clear K3;with_reducible refine Ca (vd:=.slice G1 X.disk.length g1_) (vm:=.slice G2 X.mem.length g2_) (vl:=.slice G3 X.log.length g3_) X ?_;intro w6 hb hz hq;have HQG:=As hq;have HE:=As (HE.out.up hb);have HJ:=As (HJ.out.up hb);have HG:=As (HG.out.up hb);have HQ:=As (HQ.out.up hb);have HQS:=As (HQS.out.up hb);have HB:=As (bj HB.out hb);clear x0 x1 x2 x3 x4;obtain ⟨x0,x1,x2,x3,x4⟩:=HQ.out.all;clear s0 s1 s2 s3 s4;obtain ⟨s0,s1,s2,s3,s4⟩:=HQS.out.all;clear hb hz hq;obtain ⟨g0,g1,g2,g3,g4⟩:=HQG.out.all;have K4 : True:=trivial) | (clear K4;go_at_call 13;refine (UU (e:=X) (cd:=g1_) (cm:=g2_) (cl:=g3_) (dd:=j1_) (dm:=j2_) (dl:=j3_) (Below.refl _ _) HG.out (Below.refl _ _) HJ.out).mono ?_;rintro x w7 ⟨rfl,hb⟩;have HE:=As (HE.out.up hb);have HJ:=As (HJ.out.up hb);have HG:=As (HG.out.up hb);have HQ:=As (HQ.out.up hb);have HQS:=As (HQS.out.up hb);have HQG:=As (HQG.out.up hb);have HB:=As (bj HB.out hb);clear x0 x1 x2 x3 x4;obtain ⟨x0,x1,x2,x3,x4⟩:=HQ.out.all;clear s0 s1 s2 s3 s4;obtain ⟨s0,s1,s2,s3,s4⟩:=HQS.out.all;clear g0 g1 g2 g3 g4;obtain ⟨g0,g1,g2,g3,g4⟩:=HQG.out.all;clear hb;have K5 : True:=trivial) | (clear K5;go_at_call 13;refine (UU (e:=X) (cd:=g1_) (cm:=g2_) (cl:=g3_) (dd:=j1_) (dm:=j2_) (dl:=j3_) (Below.refl _ _) HG.out (Below.refl _ _) HJ.out).mono ?_;rintro x w8 ⟨rfl,hb⟩;have HE:=As (HE.out.up hb);have HJ:=As (HJ.out.up hb);have HG:=As (HG.out.up hb);have HQ:=As (HQ.out.up hb);have HQS:=As (HQS.out.up hb);have HQG:=As (HQG.out.up hb);have HB:=As (bj HB.out hb);clear x0 x1 x2 x3 x4;obtain ⟨x0,x1,x2,x3,x4⟩:=HQ.out.all;clear s0 s1 s2 s3 s4;obtain ⟨s0,s1,s2,s3,s4⟩:=HQS.out.all;clear g0 g1 g2 g3 g4;obtain ⟨g0,g1,g2,g3,g4⟩:=HQG.out.all;clear hb;have K6 : True:=trivial))
  go_ret
  exact ⟨rfl,HB.out⟩
 have hys : (ys.length : Int) ≤ 1048576:=e2.out
 obtain ⟨hok,hup,hin,hXX⟩:=writeR_yes HX.out
 have hpg:=CU.1 hin
 obtain ⟨p,rfl⟩:=Int.eq_ofNat_of_zero_le hpg.1
 rw [Int.toNat_natCast] at hXX
 have hp5 : p < 5:=by omega
 obtain ⟨m,hm⟩ : ∃ m : Int,(ys.length : Int) % 40 = m:=⟨_,rfl⟩
 have hm0 : 0 ≤ m:=by rw [← hm];exact Int.emod_nonneg _ (by decide)
 have hrm : (ys.length : Int).tmod 40 = m:=by rw [Int.tmod_eq_emod_of_nonneg (by omega),hm]
 obtain ⟨h1,h2,h3,h4⟩:=Xj hok HD.out.2.2 hup hp5 hm0
 rw [← hXX] at h1 h2 h3 h4
 have hym : (BL X m).mem.length = 5:=by rw [hXX];show (E.disk.set p (pg E.mem p)).length = 5;rw [List.length_set];exact (Bb.1 (Ct.1 hok).disk).1
 have hem : E.mem.length = 5:=(Bb.1 (Ct.1 hok).mem).1
 have hfo : eOk (BL X m) = true:=Wq (by rw [hXX];exact Uu hok hup hp5) (by rw [hXX];exact HD.out.2.2) m
 have hzm : (upR (BL X m) 150).1.mem.length = 5:=(Bb.1 (Ct.1 (Rv hfo rfl (by decide) h3).1).mem).1
 obtain ⟨Y,hY⟩ : ∃ Y,BL X m = Y:=⟨_,rfl⟩
 rw [hY] at h1 h2 h3 h4 hym hzm
 obtain ⟨Z,b3,hZ⟩ : ∃ Z b3,upR Y 150 = (Z,b3):=⟨_,_,rfl⟩
 rw [hZ] at h3 h4 hzm
 simp only at h3 h4 hzm
 subst h3
 have HT1:=As h1
 have HT2:=As hZ
 have HPG:=As h2
 have HL5:=As (And.intro hym (And.intro hem hzm))
 have hge:=h4
 clear h1 h2 h4 hZ hY hym hem hzm hfo hXX hok hup hin hpg
 have K0 : True:=trivial
 go_wp2_with (first | (clear K0;go_at_call 28;refine (specEngineWrite_calls (cd:=d1) (cm:=d2) (cl:=d3) (p : Int) HD.out.1 (Below.refl _ _) HE.out).mono ?_;rw [HX.out];rintro x w3 ⟨vd,vm,vl,rfl,ho,hb⟩;obtain ⟨J1,j1_,J2,j2_,J3,j3_,rfl,rfl,rfl,hclHJ,hc⟩:=ho.reads;have HJ:=As hc;have HJL:=As hclHJ;have HE:=As (HE.out.up hb);have HQ:=As (HQ.out.up hb);have HB:=As (bj HB.out hb);clear x0 x1 x2 x3 x4;obtain ⟨x0,x1,x2,x3,x4⟩:=HQ.out.all;clear ho hb hc hclHJ;have K1 : True:=trivial) | (clear K1;with_reducible refine Ca (vd:=.slice J1 X.disk.length j1_) (vm:=.slice J2 X.mem.length j2_) (vl:=.slice J3 X.log.length j3_) X ?_;intro w4 hb hz hq;have HQS:=As hq;have HE:=As (HE.out.up hb);have HJ:=As (HJ.out.up hb);have HQ:=As (HQ.out.up hb);have HB:=As (bj HB.out hb);clear x0 x1 x2 x3 x4;obtain ⟨x0,x1,x2,x3,x4⟩:=HQ.out.all;clear hb hz hq;obtain ⟨s0,s1,s2,s3,s4⟩:=HQS.out.all;have K2 : True:=trivial) | (clear K2;go_at_call 29;refine (EngineWriteR_calls (cd:=d1) (cm:=d2) (cl:=d3) (p : Int) HD.out.1 (Below.refl _ _) HE.out).mono ?_;rw [HX.out];rintro x w5 ⟨vd,vm,vl,rfl,ho,hb⟩;obtain ⟨G1,g1_,G2,g2_,G3,g3_,rfl,rfl,rfl,hclHG,hc⟩:=ho.reads;have HG:=As hc;have HGL:=As hclHG;have HE:=As (HE.out.up hb);have HJ:=As (HJ.out.up hb);have HQ:=As (HQ.out.up hb);have HQS:=As (HQS.out.up hb);have HB:=As (bj HB.out hb);clear x0 x1 x2 x3 x4;obtain ⟨x0,x1,x2,x3,x4⟩:=HQ.out.all;clear s0 s1 s2 s3 s4;obtain ⟨s0,s1,s2,s3,s4⟩:=HQS.out.all;clear ho hb hc hclHG;have K3 : True:=trivial) | (clear K3;with_reducible refine Ca (vd:=.slice G1 X.disk.length g1_) (vm:=.slice G2 X.mem.length g2_) (vl:=.slice G3 X.log.length g3_) X ?_;intro w6 hb hz hq;have HQG:=As hq;have HE:=As (HE.out.up hb);have HJ:=As (HJ.out.up hb);have HG:=As (HG.out.up hb);have HQ:=As (HQ.out.up hb);have HQS:=As (HQS.out.up hb);have HB:=As (bj HB.out hb);clear x0 x1 x2 x3 x4;obtain ⟨x0,x1,x2,x3,x4⟩:=HQ.out.all;clear s0 s1 s2 s3 s4;obtain ⟨s0,s1,s2,s3,s4⟩:=HQS.out.all;clear hb hz hq;obtain ⟨g0,g1,g2,g3,g4⟩:=HQG.out.all;have K4 : True:=trivial) | (clear K4;go_at_call 13;refine (UU (e:=X) (cd:=g1_) (cm:=g2_) (cl:=g3_) (dd:=j1_) (dm:=j2_) (dl:=j3_) (Below.refl _ _) HG.out (Below.refl _ _) HJ.out).mono ?_;rintro x w7 ⟨rfl,hb⟩;have HE:=As (HE.out.up hb);have HJ:=As (HJ.out.up hb);have HG:=As (HG.out.up hb);have HQ:=As (HQ.out.up hb);have HQS:=As (HQS.out.up hb);have HQG:=As (HQG.out.up hb);have HB:=As (bj HB.out hb);clear x0 x1 x2 x3 x4;obtain ⟨x0,x1,x2,x3,x4⟩:=HQ.out.all;clear s0 s1 s2 s3 s4;obtain ⟨s0,s1,s2,s3,s4⟩:=HQS.out.all;clear g0 g1 g2 g3 g4;obtain ⟨g0,g1,g2,g3,g4⟩:=HQG.out.all;clear hb;have K5 : True:=trivial) | (clear K5;go_at_call 12;refine (Vp (cd:=g1_) (cm:=g2_) (cl:=g3_) m HGL.out (Below.refl _ _) HG.out).mono ?_;rw [HT1.out];rintro x w8 ⟨vd,vm,vl,rfl,ho,hb⟩;obtain ⟨Y1,y1_,Y2,y2_,Y3,y3_,rfl,rfl,rfl,hclHY,hc⟩:=ho.reads;have HY:=As hc;have HYL:=As hclHY;have HE:=As (HE.out.up hb);have HJ:=As (HJ.out.up hb);have HG:=As (HG.out.up hb);have HQ:=As (HQ.out.up hb);have HQS:=As (HQS.out.up hb);have HQG:=As (HQG.out.up hb);have HB:=As (bj HB.out hb);clear x0 x1 x2 x3 x4;obtain ⟨x0,x1,x2,x3,x4⟩:=HQ.out.all;clear s0 s1 s2 s3 s4;obtain ⟨s0,s1,s2,s3,s4⟩:=HQS.out.all;clear g0 g1 g2 g3 g4;obtain ⟨g0,g1,g2,g3,g4⟩:=HQG.out.all;clear ho hb hc hclHY;have K6 : True:=trivial) | (clear K6;with_reducible refine Ca (vd:=.slice Y1 Y.disk.length y1_) (vm:=.slice Y2 Y.mem.length y2_) (vl:=.slice Y3 Y.log.length y3_) Y ?_;intro w9 hb hz hq;have HQY:=As hq;have HE:=As (HE.out.up hb);have HJ:=As (HJ.out.up hb);have HG:=As (HG.out.up hb);have HY:=As (HY.out.up hb);have HQ:=As (HQ.out.up hb);have HQS:=As (HQS.out.up hb);have HQG:=As (HQG.out.up hb);have HB:=As (bj HB.out hb);clear x0 x1 x2 x3 x4;obtain ⟨x0,x1,x2,x3,x4⟩:=HQ.out.all;clear s0 s1 s2 s3 s4;obtain ⟨s0,s1,s2,s3,s4⟩:=HQS.out.all;clear g0 g1 g2 g3 g4;obtain ⟨g0,g1,g2,g3,g4⟩:=HQG.out.all;clear hb hz hq;obtain ⟨y0,y1,y2,y3,y4⟩:=HQY.out.all;have K7 : True:=trivial) | (clear K7;go_at_call 23;refine (Wz (cd:=y1_) (cm:=y2_) (cl:=y3_) 150 HYL.out (Below.refl _ _) HY.out).mono ?_;rw [HT2.out];rintro x w10 ⟨vd,vm,vl,rfl,ho,hb⟩;obtain ⟨Z1,z1_,Z2,z2_,Z3,z3_,rfl,rfl,rfl,hclHZ,hc⟩:=ho.reads;have HZ:=As hc;have HZL:=As hclHZ;have HE:=As (HE.out.up hb);have HJ:=As (HJ.out.up hb);have HG:=As (HG.out.up hb);have HY:=As (HY.out.up hb);have HQ:=As (HQ.out.up hb);have HQS:=As (HQS.out.up hb);have HQG:=As (HQG.out.up hb);have HQY:=As (HQY.out.up hb);have HB:=As (bj HB.out hb);clear x0 x1 x2 x3 x4;obtain ⟨x0,x1,x2,x3,x4⟩:=HQ.out.all;clear s0 s1 s2 s3 s4;obtain ⟨s0,s1,s2,s3,s4⟩:=HQS.out.all;clear g0 g1 g2 g3 g4;obtain ⟨g0,g1,g2,g3,g4⟩:=HQG.out.all;clear y0 y1 y2 y3 y4;obtain ⟨y0,y1,y2,y3,y4⟩:=HQY.out.all;clear ho hb hc hclHZ;have K8 : True:=trivial))
 obtain ⟨w11,hw11⟩ : ∃ w11,w10.alloc (Obj.cells #[.slice Z1 Z.disk.length z1_, .slice Z2 Z.mem.length z2_, .slice Z3 Z.log.length z3_, .int .i64 Z.safe, .bool Z.down] 26) = w11:=⟨_,rfl⟩
 rw [hw11]
 have hb : Below w10.heap.size w10 w11:=by rw [← hw11];exact Aa (Below.refl _ _) _
 have HQZ : A7 (Ab w11 w10.heap.size Z (.slice Z1 Z.disk.length z1_) (.slice Z2 Z.mem.length z2_) (.slice Z3 Z.log.length z3_)):=⟨by rw [← hw11];exact Ab.mk1 _ _ _ _ _⟩
 have HE:=As (HE.out.up hb)
 have HJ:=As (HJ.out.up hb)
 have HG:=As (HG.out.up hb)
 have HY:=As (HY.out.up hb)
 have HZ:=As (HZ.out.up hb)
 have HQ:=As (HQ.out.up hb)
 have HQS:=As (HQS.out.up hb)
 have HQG:=As (HQG.out.up hb)
 have HQY:=As (HQY.out.up hb)
 have HB:=As (bj HB.out hb)
 clear x0 x1 x2 x3 x4
 obtain ⟨x0,x1,x2,x3,x4⟩:=HQ.out.all
 clear s0 s1 s2 s3 s4
 obtain ⟨s0,s1,s2,s3,s4⟩:=HQS.out.all
 clear g0 g1 g2 g3 g4
 obtain ⟨g0,g1,g2,g3,g4⟩:=HQG.out.all
 clear y0 y1 y2 y3 y4
 obtain ⟨y0,y1,y2,y3,y4⟩:=HQY.out.all
 clear hb hw11
 obtain ⟨z0,z1,z2,z3,z4⟩:=HQZ.out.all
 have hyl:=HL5.out.1
 have hel:=HL5.out.2.1
 have hzl:=HL5.out.2.2
 have hi1 : (p : Int) < (Y.mem.length : Int):=by omega
 have hi2 : (p : Int) < (E.mem.length : Int):=by omega
 have hi3 : (p : Int) < (Z.mem.length : Int):=by omega
 obtain ⟨ay,Vy,qy,hay,hPy, -,hCy⟩:=DT HY.out.m p (by omega)
 subst hay
 obtain ⟨ae,Ve,qe,hae,hPe, -,hCe⟩:=DT HE.out.m p (by omega)
 subst hae
 obtain ⟨az,Vz,qz,haz,hPz, -, -⟩:=DT HZ.out.m p (by omega)
 subst haz
 rw [HPG.out] at hPy hCy
 have HCY:=As hCy
 have HCE:=As hCe
 have a0:=hPy.c0
 have a1:=hPy.c1
 have a2:=hPy.c2
 have c0:=hPe.c0
 have c1:=hPe.c1
 have c2:=hPe.c2
 have q0:=hPz.c0
 clear hPy hPe hPz hCy hCe hyl hel hzl
 refine Bo (fun lx a wx => Below w11.heap.size w11 wx) 30 rfl (by kernel_rfl) (Ac (Below.refl _ _)) (fun HT => ?_)
 refine Bw [0,1,2,3,4,5,6,7,8,9] ?_
 iterate 10 (refine Bq (v:=?_) HT rfl (by kernel_rfl) rfl (Ah) (by rfl) (fun _ _ _ h => h) (fun lx ax wx hS => ?_) ?_;rotate_left;(have hbx:=hS;replace x0:=bc hbx x0;replace x1:=bc hbx x1;replace x2:=bc hbx x2;replace x3:=bc hbx x3;replace x4:=bc hbx x4;replace y0:=bc hbx y0;replace y1:=bc hbx y1;replace y2:=bc hbx y2;replace y3:=bc hbx y3;replace y4:=bc hbx y4;replace z0:=bc hbx z0;replace z1:=bc hbx z1;replace z2:=bc hbx z2;replace z3:=bc hbx z3;replace z4:=bc hbx z4;replace a0:=bc hbx a0;replace a1:=bc hbx a1;replace a2:=bc hbx a2;replace c0:=bc hbx c0;replace c1:=bc hbx c1;replace c2:=bc hbx c2;replace q0:=bc hbx q0;go_simp;with_reducible rfl);rotate_left;simp only [sc0,sc1])
 refine Bv ?_
 refine Cr (i:=10) (f:=30) (args:=#[(pg E.mem p).val Vy qy,(pg E.mem p).val Ve qe]) (fun v => v = .bool true) rfl (by kernel_rfl) rfl Tryz.func30 (by kernel_rfl) rfl rfl (by rfl) (by simp only [List.map_toArray,List.map_cons,List.map_nil];rfl) (fun wx hS => (P8 hS HCY.out hS HCE.out).mono (by rintro x wz ⟨rfl,hb⟩;exact ⟨_,rfl,rfl,bj hS hb⟩)) (fun vx hg => ?_);simp only [sc0,sc1]
 subst hg
 refine Bw [11,12,13,14,15,16,17,18,19,20,21,22,23,24,25,26,27,28,29] ?_
 iterate 19 (refine Bq (v:=?_) HT rfl (by kernel_rfl) rfl (Ah) (by rfl) (fun _ _ _ h => h) (fun lx ax wx hS => ?_) ?_;rotate_left;(have hbx:=hS;replace x0:=bc hbx x0;replace x1:=bc hbx x1;replace x2:=bc hbx x2;replace x3:=bc hbx x3;replace x4:=bc hbx x4;replace y0:=bc hbx y0;replace y1:=bc hbx y1;replace y2:=bc hbx y2;replace y3:=bc hbx y3;replace y4:=bc hbx y4;replace z0:=bc hbx z0;replace z1:=bc hbx z1;replace z2:=bc hbx z2;replace z3:=bc hbx z3;replace z4:=bc hbx z4;replace a0:=bc hbx a0;replace a1:=bc hbx a1;replace a2:=bc hbx a2;replace c0:=bc hbx c0;replace c1:=bc hbx c1;replace c2:=bc hbx c2;replace q0:=bc hbx q0;go_simp;with_reducible rfl);rotate_left;simp only [sc0,sc1])
 refine Bv ?_
 refine GU (by kernel_rfl) (fun wx hS => ?_)
 have HZZ:=As (bj HB.out hS)
 clear hS
 go_wp2
 go_ret
 exact ⟨rfl,HZZ.out⟩
open Go.RowKit Go.Proofs.YtjeodgfkilhkhaaGreatW.PrintWords Go.Proofs.YtjeodgfkilhkhaaGreatW.PrintLast Go.Proofs.YtjeodgfkilhkhaaGreatW.PrintMore Go.ChangeShapes Go.WideShapes Go.Deep
theorem Qk {H : Type} {enc : TypeId × Value → H} {w : World} {held : Bool} {fuel : Nat} {cs : List Value} {y : DataW H × List MemPlace} (h : DataW.trod enc Tryz.prog w 0 (fun _ => true) held fuel 22 cs = some y) : ∃ xs A c,cs = [.slice A (List.length xs) c] ∧ xs.length ≤ c ∧ (Kd.int .u8).C w A xs.length xs ∧ Bytes xs:=by
 obtain ⟨xs,A,c,he,hcl,hr⟩:=Qj (d:=Kd.int .u8) Tryz.underlying22 (by kernel_rfl) (U3 Tryz.underlying5) _ _ _ h
 refine ⟨xs,A,c,he,hcl,hr,fun b hb => ?_⟩
 obtain ⟨i,hi,rfl⟩:=List.getElem_of_mem hb
 obtain ⟨ad,ha,hc⟩:=Ti hr i hi
 rcases open_ints Tryz.underlying22 Tryz.underlying5 (by kernel_rfl) h with ⟨hcs,_⟩ | ⟨x,l,c',zs,hcs,_,hl,hm,hz,_,hcell,hwz⟩
 ·rw [he,ha] at hcs
  simp at hcs
 ·rw [he,ha] at hcs
  simp only [List.cons.injEq,Value.slice.injEq,Option.some.injEq,and_true] at hcs
  obtain ⟨rfl,h2,rfl⟩:=hcs
  rw [if_pos rfl] at hz
  have h3:=hcell i (by omega)
  rw [hc] at h3
  have h4 : iv xs i = zs.getD i 0:=by simpa using h3
  have h5:=range_u8 hwz i
  have e : iv xs i = xs[i]:=by simp [iv,List.getD_eq_getElem?_getD,hi]
  rw [← e,h4,List.getD_eq_getElem?_getD]
  exact h5
end Go.Proofs.YtjeodgfkilhkhaaGreat
namespace Go.Proofs.YtjeodgfkilhkhaaGreat.fnWriteFall
open Go.ChangeShapes Go.WideShapes Go.ChangeAt Go.RowKit Go.Proofs.YtjeodgfkilhkhaaGreat
theorem own : ownKnob Tryz.prog.godebug = none:=by kernel_rfl
theorem laidOut : laidOutB Tryz.prog = true:=by kernel_rfl
set_option maxRecDepth 100000 in
theorem lifted (os : Os) (started : os.Started) (H : Type) (enc : TypeId × Value → H) :
  ReturnsInHanded {} Tryz.checked os 9 .any (Rows.fnWriteFallSpec.pre6 enc Tryz.prog Tryz.f9 Rows.fnWriteFallRow.domain false) (Rows.fnWriteFallSpec.post enc Tryz.prog Tryz.f9 false true false false):=by
 refine returnsInHanded_of_change_sized (C:=Tryz.checked) own started (by kernel_rfl) Tryz.func9
  (ChangeSpec.witness6 (enc:=enc) (C:=Tryz.checked) false ⟨#[],#[.slice none 0 0, .slice none 0 0], []⟩ 8 (by kernel_rfl) (by kernel_rfl) (by kernel_rfl) (by kernel_rfl)) ?_
 intro W base args ds gs before hval0 hW hcnd hsz0 _
 have hval : ∀ (j : Nat) t v,Tryz.f9.params[j]? = some t → args[j]? = some v → Value.okWide Tryz.prog W .any base t v:=hval0
 have hW':=hW
 obtain ⟨p,q,hA0,hV,rfl,hfz,hnd⟩:=hW
 have hA : DataW.TrodAll enc Tryz.prog W 0 (fun _ => true) true Tryz.f9.params.toList args.toList ds p:=hA0
 rw [Tryz.params9] at hA hval
 obtain ⟨v0,vs0,d0,ds0,p0,q0,hargs,rfl,rfl,h0,r0⟩:=trodAll_cons hA
 obtain ⟨v1,vs1,d1,ds1,p1,q1,rfl,rfl,rfl,h1,r1⟩:=trodAll_cons r0
 obtain ⟨rfl,rfl,rfl⟩:=trodAll_nil r1
 obtain rfl : args = #[v0,v1]:=by cases args;simp_all
 obtain ⟨rfl,rfl⟩:=trodVars_none hV
 have k0:=h0
 have lt0 : ∀ x ∈ p0,x.block < W.heap.size:=by obtain ⟨m,hm⟩:=k0;exact DataW.trod_lt m _ _ _ hm
 obtain ⟨a0,lnn0,cap0,rfl⟩:=okWide_slice Tryz.underlying22 (hval 0 22 v0 rfl rfl)
 obtain ⟨fuel0,hf0⟩:=h0
 obtain ⟨xs0,A0,c0,he0,hcl0,hr0,hby0⟩:=Qk hf0
 obtain ⟨rfl,rfl,rfl⟩ : a0 = A0 ∧ lnn0 = xs0.length ∧ cap0 = c0:=by simpa [Value.cells] using he0
 have k1:=h1
 have lt1 : ∀ x ∈ p1,x.block < W.heap.size:=by obtain ⟨m,hm⟩:=k1;exact DataW.trod_lt m _ _ _ hm
 obtain ⟨a1,lnn1,cap1,rfl⟩:=okWide_slice Tryz.underlying22 (hval 1 22 v1 rfl rfl)
 obtain ⟨fuel1,hf1⟩:=h1
 obtain ⟨xs1,A1,c1,he1,hcl1,hr1,hby1⟩:=Qk hf1
 obtain ⟨rfl,rfl,rfl⟩ : a1 = A1 ∧ lnn1 = xs1.length ∧ cap1 = c1:=by simpa [Value.cells] using he1
 clear hA0 hval0 hsz0 hval hA
 refine (FnWriteFall_calls hcl0 hby0 hr0 (CY hr1).2).mono fun e1 W' ⟨he1,bel⟩ => ?_
 subst he1
 exact ⟨_,rfl,_,_,_, [],_, [],hW',trodAll_mk1 (shut_bool Tryz.underlying4 _),(trodAll_cons_mk (Below.trod laidOut (by kernel_rfl) (of_decide_eq_true (by kernel_rfl)) k0 bel lt0) (trodAll_cons_mk (Below.trod laidOut (by kernel_rfl) (of_decide_eq_true (by kernel_rfl)) k1 bel lt1) trodAll_mk0)),rfl,bel.frame _,fun h => by cases h⟩
theorem k24b : (Rows.fnWriteFallRow.lifted == Tryz.pinned.checked.prog.liftsFinal) = true:=by
 rw [show Tryz.pinned.checked.prog.liftsFinal = false from Qy]
 rfl
theorem k24c : (Tryz.pinned.checked.prog.make == some Rows.fnWriteFallRow.make) = true:=by
 rw [show Tryz.pinned.checked.prog.make = some Make.cut from UR]
 rfl
set_option maxRecDepth 100000 in
set_option maxHeartbeats 8000000 in
theorem closed : joinedFacts Tryz.pinned.checked.prog 9 Tryz.f9 Rows.fnWriteFallSpec Rows.fnWriteFallRow = true:=by
 simp only [joinedFacts,Bool.and_eq_true]
 exact ⟨⟨⟨⟨⟨⟨⟨⟨⟨⟨⟨⟨⟨⟨⟨⟨⟨⟨⟨⟨⟨⟨⟨⟨⟨⟨⟨⟨⟨⟨⟨(by as_aux_lemma => kernel_rfl),(by as_aux_lemma => kernel_rfl)⟩,(by as_aux_lemma => kernel_rfl)⟩,(by as_aux_lemma => kernel_rfl)⟩,(by as_aux_lemma => kernel_rfl)⟩,(by as_aux_lemma => kernel_rfl)⟩,(by as_aux_lemma => kernel_rfl)⟩,(by as_aux_lemma => kernel_rfl)⟩,(by as_aux_lemma => kernel_rfl)⟩,(by as_aux_lemma => kernel_rfl)⟩,(by as_aux_lemma => kernel_rfl)⟩,(by as_aux_lemma => kernel_rfl)⟩,(by as_aux_lemma => kernel_rfl)⟩,(by as_aux_lemma => kernel_rfl)⟩,(by as_aux_lemma => kernel_rfl)⟩,(by as_aux_lemma => kernel_rfl)⟩,(by as_aux_lemma => kernel_rfl)⟩,(by as_aux_lemma => kernel_rfl)⟩,(by as_aux_lemma => kernel_rfl)⟩,(by as_aux_lemma => kernel_rfl)⟩,(by as_aux_lemma => kernel_rfl)⟩,(by as_aux_lemma => kernel_rfl)⟩,(by as_aux_lemma => kernel_rfl)⟩,(by as_aux_lemma => kernel_rfl)⟩,(by as_aux_lemma => kernel_rfl)⟩,U8⟩,k24b⟩,k24c⟩,(by as_aux_lemma => kernel_rfl)⟩,(by as_aux_lemma => kernel_rfl)⟩,(by as_aux_lemma => kernel_rfl)⟩,(by as_aux_lemma => kernel_rfl)⟩
theorem over : Rows.fnWriteFallRow.holds Tryz.pinned (OpenSpec.ofChange Rows.fnWriteFallSpec):=
 OpenClaim.holds_of_wide 9 Tryz.f9 rfl rfl rfl rfl rfl rfl rfl ⟨rfl,rfl,rfl,rfl,rfl⟩ rfl rfl rfl rfl rfl (by kernel_rfl) Tryz.func9 closed
  (of_decide_eq_true (by kernel_rfl)) (by unfold Func.isWrapper;first | (rw [if_pos (by decide +kernel)];kernel_rfl) | (rw [if_neg (by decide +kernel)];exact ⟨rfl,rfl⟩))
  (fun os started H enc _ => lifted os started H enc)
theorem proved : Rows.FnWriteFallSaid:=over
end Go.Proofs.YtjeodgfkilhkhaaGreat.fnWriteFall
namespace Go.Proofs.YtjeodgfkilhkhaaGreat
theorem fnWriteFall_holds : Rows.FnWriteFallSaid:=fnWriteFall.proved
end Go.Proofs.YtjeodgfkilhkhaaGreat
