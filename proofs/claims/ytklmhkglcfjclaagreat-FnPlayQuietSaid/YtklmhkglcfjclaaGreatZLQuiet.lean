/- Proved here: for all bytes that are handed in, laws.FnPlayQuiet returns true (what is written, and forced, changes nothing that is seen: behind a drawn play a write of a page, and a force, leave memory and log as they were, and all is safe then). Conditions: none beyond those that the given statement itself bears. -/
import Derived.Test.YtklmhkglcfjclaaGreatZF1
import Derived.Test.YtklmhkglcfjclaaGreatZA1
import Derived.Test.YtklmhkglcfjclaaGreatZV2
import Derived.WalkKit
import Derived.ProofKit
import Derived.OpenShut
import Derived.ShutString
import Derived.ChangeOld
import Derived.Below
import Derived.SizedLaws
set_option linter.unusedVariables false
set_option linter.unusedSimpArgs false
namespace Go.Proofs.YtklmhkglcfjclaaGreat
open Go.RowKit Go.Proofs.YtklmhkglcfjclaaGreatW.PrintWords Go.Proofs.YtklmhkglcfjclaaGreatW.PrintLast Go.Proofs.YtklmhkglcfjclaaGreatW.PrintMore
set_option maxRecDepth 100000 in
set_option maxHeartbeats 16000000 in
theorem Mj {w : World} {A : Option Addr} {c : Nat} {xs : List Int} {B : Option Addr} {d : Nat} {ys : List Int} (hcap : xs.length ≤ c) (hx : Bytes xs) (hr : Kd.C (Kd.int .u8) w A xs.length xs) (hy : ys.length ≤ 9223372036854775807) : Calls Tryz.prog 6 #[.slice A xs.length c, .slice B ys.length d] w (I5 w):=by
 have HR:=As hr
 have HCAP:=As hcap
 have HBY:=As hx
 have hmx:=(Co hr).2
 have H2 : True:=trivial
 have H3 : True:=trivial
 have H5 : True:=trivial
 clear hcap hx hr
 rcases lts 1048576 (xs.length : Int) with ⟨e1,b1,c1⟩ | ⟨e1,b1,c1⟩
 ·go_enter Tryz.func6,Tryz.ntmps6
  go_wp2
  go_ret
  exact ⟨rfl,Below.refl _ _⟩
 rcases lts 1048576 (ys.length : Int) with ⟨e2,b2,c2⟩ | ⟨e2,b2,c2⟩
 ·go_enter Tryz.func6,Tryz.ntmps6
  go_wp2
  go_ret
  exact ⟨rfl,Below.refl _ _⟩
 go_enter Tryz.func6,Tryz.ntmps6
 go_wp2_with (go_at_call 19;refine (Cv HCAP.out HBY.out (Below.refl w.heap.size w) HR.out).mono ?_;rintro x w1 ⟨V,vs,rfl,hV,hlen,hb1⟩;obtain ⟨V1,v1_,rfl,hcv,hc⟩:=Kd.Cj hV;have HVC:=As hc;have HCV:=As hcv;have HLN:=As hlen;have HB1:=As hb1;clear hV hcv hc hlen hb1)
 obtain ⟨E,bb,hE⟩ : ∃ E bb,JH vs = (E,bb):=⟨_,_,rfl⟩
 have HE:=As hE
 clear hE
 have K0 : True:=trivial
 cases bb
 ·go_wp2_with (first | (clear K0;clear H2;go_at_call 20;refine (Br (c:=v1_) (Below.refl w1.heap.size w1) HVC.out).mono ?_;rw [HE.out];rintro x w2 ⟨vd,vm,vl,rfl,ho,hb2⟩;obtain ⟨Gd,g1_,Gm,g2_,Gl,g3_,rfl,rfl,rfl,hgcl,hc⟩:=ho.reads;have HG2:=As hc;have HGL:=As hgcl;have HB2:=As hb2;clear ho hb2 hc hgcl;have K1 : True:=trivial) | (clear K1;clear H3;refine Ai (vd:=.slice Gd E.disk.length g1_) (vm:=.slice Gm E.mem.length g2_) (vl:=.slice Gl E.log.length g3_) E ?_;intro w3 hb3 hz3 hq3;have HG3:=As (HG2.out.up hb3);have HQ3:=As hq3;have HB3:=As (bj HB2.out hb3);clear hb3 hz3 hq3;have K2 : True:=trivial) | (clear K2;go_at_call 21;refine (AV (c:=v1_) HB3.out HVC.out).mono ?_;rw [HE.out];rintro x w4 ⟨vd,vm,vl,rfl,ho,hb4⟩;obtain ⟨Jd,j1_,Jm,j2_,Jl,j3_,rfl,rfl,rfl, -,hc⟩:=ho.reads;have HJ4:=As hc;have HB4:=As hb4;clear ho hb4 hc;have K3 : True:=trivial) | (clear K3;clear H5;refine Ai (vd:=.slice Jd E.disk.length j1_) (vm:=.slice Jm E.mem.length j2_) (vl:=.slice Jl E.log.length j3_) E ?_;intro w5 hb5 hz5 hq5;have HJ5:=As (HJ4.out.up hb5);have HQ5:=As hq5;have HT5:=As (bj HB4.out hb5);have HN5:=As (Below.refl w5.heap.size w5);clear hb5 hz5 hq5;have g0:=(HQ3.out.up HT5.out).c0;have g1:=(HQ3.out.up HT5.out).c1;have g2:=(HQ3.out.up HT5.out).c2;have g3:=(HQ3.out.up HT5.out).c3;have g4:=(HQ3.out.up HT5.out).c4;have s0:=(HQ5.out).c0;have s1:=(HQ5.out).c1;have s2:=(HQ5.out).c2;have s3:=(HQ5.out).c3;have s4:=(HQ5.out).c4;have K4 : True:=trivial) | (clear K4;go_at_call 22;refine (Bc (cd:=g1_) (cm:=g2_) (cl:=g3_) (dd:=j1_) (dm:=j2_) (dl:=j3_) (bj HT5.out HN5.out) HG3.out HN5.out HJ5.out).mono ?_;rintro x w6 ⟨rfl,hb6⟩;have HN6:=As (bj HN5.out hb6);clear HN5 hb6;clear g0 g1 g2 g3 g4 s0 s1 s2 s3 s4;have HN5:=HN6;clear HN6;have g0:=(HQ3.out.up (bj HT5.out HN5.out)).c0;have g1:=(HQ3.out.up (bj HT5.out HN5.out)).c1;have g2:=(HQ3.out.up (bj HT5.out HN5.out)).c2;have g3:=(HQ3.out.up (bj HT5.out HN5.out)).c3;have g4:=(HQ3.out.up (bj HT5.out HN5.out)).c4;have s0:=(HQ5.out.up HN5.out).c0;have s1:=(HQ5.out.up HN5.out).c1;have s2:=(HQ5.out.up HN5.out).c2;have s3:=(HQ5.out.up HN5.out).c3;have s4:=(HQ5.out.up HN5.out).c4;have K5 : True:=trivial) | (clear K5;go_at_call 22;refine (Bc (cd:=g1_) (cm:=g2_) (cl:=g3_) (dd:=j1_) (dm:=j2_) (dl:=j3_) (bj HT5.out HN5.out) HG3.out HN5.out HJ5.out).mono ?_;rintro x w6 ⟨rfl,hb6⟩;have HN6:=As (bj HN5.out hb6);clear HN5 hb6;clear g0 g1 g2 g3 g4 s0 s1 s2 s3 s4;have HN5:=HN6;clear HN6;have g0:=(HQ3.out.up (bj HT5.out HN5.out)).c0;have g1:=(HQ3.out.up (bj HT5.out HN5.out)).c1;have g2:=(HQ3.out.up (bj HT5.out HN5.out)).c2;have g3:=(HQ3.out.up (bj HT5.out HN5.out)).c3;have g4:=(HQ3.out.up (bj HT5.out HN5.out)).c4;have s0:=(HQ5.out.up HN5.out).c0;have s1:=(HQ5.out.up HN5.out).c1;have s2:=(HQ5.out.up HN5.out).c2;have s3:=(HQ5.out.up HN5.out).c3;have s4:=(HQ5.out.up HN5.out).c4;have K6 : True:=trivial))
  go_ret
  exact ⟨rfl,bj HB1.out (bj HB3.out (bj HT5.out HN5.out))⟩
 have HRUN:=As (Gn HE.out)
 have HINV : Ac (∃ C,Inv E C (3 * 40)):=⟨by rw [HRUN.out.2];exact inv_all vs HRUN.out.1⟩
 obtain ⟨C,hI⟩:=HINV.out
 obtain ⟨X,hX⟩ : ∃ X,AP E ⟨6,0,((ys.length : Int) % 5),0,0, []⟩ = X:=⟨_,rfl⟩
 obtain ⟨Y,hY⟩ : ∃ Y,AP X ⟨7,0,0,0,0, []⟩ = Y:=⟨_,rfl⟩
 have HIX:=As (show Inv X _ _ by rw [← hX];exact hI.play (by omega) _)
 have HI:=As hI
 have hx:=QX E ((ys.length : Int) % 5)
 have hy:=QY X
 rw [hX] at hx
 rw [hY] at hy
 have HXM:=As hx.1
 have HYM:=As (hy.1.trans hx.1)
 have HYL:=As (hy.2.1.trans hx.2.1)
 have hys : E.down = false → (Y.safe == (E.log.length : Int)) = true:=fun h => by rw [hy.2.2 (hx.2.2.trans h),hx.2.1];simp
 have HX:=As hX
 have HY:=As hY
 cases hd : E.down
 ·have HD:=As hd
  have H6 : True:=trivial
  have H7 : True:=trivial
  have H8 : True:=trivial
  have hysf:=hys hd
  clear hys hd hx hy hX hY hI
  go_wp2_with (first | (clear K0;clear H2;go_at_call 20;refine (Br (c:=v1_) (Below.refl w1.heap.size w1) HVC.out).mono ?_;rw [HE.out];rintro x w2 ⟨vd,vm,vl,rfl,ho,hb2⟩;obtain ⟨Gd,g1_,Gm,g2_,Gl,g3_,rfl,rfl,rfl,hgcl,hc⟩:=ho.reads;have HG2:=As hc;have HGL:=As hgcl;have HB2:=As hb2;clear ho hb2 hc hgcl;have K1 : True:=trivial) | (clear K1;clear H3;refine Ai (vd:=.slice Gd E.disk.length g1_) (vm:=.slice Gm E.mem.length g2_) (vl:=.slice Gl E.log.length g3_) E ?_;intro w3 hb3 hz3 hq3;have HG3:=As (HG2.out.up hb3);have HQ3:=As hq3;have HB3:=As (bj HB2.out hb3);clear hb3 hz3 hq3;have K2 : True:=trivial) | (clear K2;go_at_call 21;refine (AV (c:=v1_) HB3.out HVC.out).mono ?_;rw [HE.out];rintro x w4 ⟨vd,vm,vl,rfl,ho,hb4⟩;obtain ⟨Jd,j1_,Jm,j2_,Jl,j3_,rfl,rfl,rfl, -,hc⟩:=ho.reads;have HJ4:=As hc;have HB4:=As hb4;clear ho hb4 hc;have K3 : True:=trivial) | (clear K3;clear H5;refine Ai (vd:=.slice Jd E.disk.length j1_) (vm:=.slice Jm E.mem.length j2_) (vl:=.slice Jl E.log.length j3_) E ?_;intro w5 hb5 hz5 hq5;have HJ5:=As (HJ4.out.up hb5);have HQ5:=As hq5;have HT5:=As (bj HB4.out hb5);have HN5:=As (Below.refl w5.heap.size w5);clear hb5 hz5 hq5;have g0:=(HQ3.out.up HT5.out).c0;have g1:=(HQ3.out.up HT5.out).c1;have g2:=(HQ3.out.up HT5.out).c2;have g3:=(HQ3.out.up HT5.out).c3;have g4:=(HQ3.out.up HT5.out).c4;have s0:=(HQ5.out).c0;have s1:=(HQ5.out).c1;have s2:=(HQ5.out).c2;have s3:=(HQ5.out).c3;have s4:=(HQ5.out).c4;have K4 : True:=trivial) | (clear K4;go_at_call 22;refine (Bc (cd:=g1_) (cm:=g2_) (cl:=g3_) (dd:=j1_) (dm:=j2_) (dl:=j3_) (bj HT5.out HN5.out) HG3.out HN5.out HJ5.out).mono ?_;rintro x w6 ⟨rfl,hb6⟩;have HN6:=As (bj HN5.out hb6);clear HN5 hb6;clear g0 g1 g2 g3 g4 s0 s1 s2 s3 s4;have HN5:=HN6;clear HN6;have g0:=(HQ3.out.up (bj HT5.out HN5.out)).c0;have g1:=(HQ3.out.up (bj HT5.out HN5.out)).c1;have g2:=(HQ3.out.up (bj HT5.out HN5.out)).c2;have g3:=(HQ3.out.up (bj HT5.out HN5.out)).c3;have g4:=(HQ3.out.up (bj HT5.out HN5.out)).c4;have s0:=(HQ5.out.up HN5.out).c0;have s1:=(HQ5.out.up HN5.out).c1;have s2:=(HQ5.out.up HN5.out).c2;have s3:=(HQ5.out.up HN5.out).c3;have s4:=(HQ5.out.up HN5.out).c4;have K5 : True:=trivial) | (clear K5;go_at_call 23;refine (Ce (w0:=w6) (cd:=g1_) (cm:=g2_) (cl:=g3_) (c:=0) ⟨6,0,((ys.length : Int) % 5),0,0, []⟩ HI.out (by omega) HGL.out (Below.refl _ _) (HG3.out.up (bj HT5.out HN5.out)) (IJ _)).mono ?_;rw [HX.out];rintro x w7 ⟨vd,vm,vl,rfl,ho,hb7⟩;obtain ⟨Xd,x1_,Xm,x2_,Xl,x3_,rfl,rfl,rfl,hcl,hc⟩:=ho.reads;have HXL:=As hcl;have HXC:=As hc;have HB7:=As hb7;clear ho hb7 hcl hc;clear g0 g1 g2 g3 g4 s0 s1 s2 s3 s4;have K6 : True:=trivial) | (clear K6;refine Ai (vd:=.slice Xd X.disk.length x1_) (vm:=.slice Xm X.mem.length x2_) (vl:=.slice Xl X.log.length x3_) X ?_;intro w8 hb8 hz8 hq8;have HQ8:=As hq8;have HB8:=As hb8;clear hb8 hz8 hq8;have x0:=(HQ8.out).c0;have x1:=(HQ8.out).c1;have x2:=(HQ8.out).c2;have x3:=(HQ8.out).c3;have x4:=(HQ8.out).c4;have K7 : True:=trivial) | (clear K7;go_at_call 23;refine (Ce (w0:=w7) (cd:=x1_) (cm:=x2_) (cl:=x3_) (c:=0) ⟨7,0,0,0,0, []⟩ HIX.out (by omega) HXL.out HB8.out HXC.out (IJ _)).mono ?_;rw [HY.out];rintro x w9 ⟨vd,vm,vl,rfl,ho,hb9⟩;obtain ⟨Yd,y1_,Ym,y2_,Yl,y3_,rfl,rfl,rfl, -,hc⟩:=ho.reads;have HYC:=As hc;have HB9:=As hb9;clear ho hb9 hc;clear x0 x1 x2 x3 x4;have K8 : True:=trivial) | (clear K8;refine Ai (vd:=.slice Yd Y.disk.length y1_) (vm:=.slice Ym Y.mem.length y2_) (vl:=.slice Yl Y.log.length y3_) Y ?_;intro w10 hb10 hz10 hq10;have HB10:=As (bj HB9.out hb10);have HYC2:=As (HYC.out.up hb10);have HQ10:=As hq10;have HNN:=As (Below.refl w10.heap.size w10);clear hb10 hz10 hq10;have y0:=(HQ10.out).c0;have y1:=(HQ10.out).c1;have y2:=(HQ10.out).c2;have y3:=(HQ10.out).c3;have y4:=(HQ10.out).c4;have x0:=(HQ8.out.up HB10.out).c0;have x1:=(HQ8.out.up HB10.out).c1;have x2:=(HQ8.out.up HB10.out).c2;have x3:=(HQ8.out.up HB10.out).c3;have x4:=(HQ8.out.up HB10.out).c4;have g0:=(HQ3.out.up (bj HT5.out (bj HN5.out (bj HB7.out (bj HB8.out HB10.out))))).c0;have g1:=(HQ3.out.up (bj HT5.out (bj HN5.out (bj HB7.out (bj HB8.out HB10.out))))).c1;have g2:=(HQ3.out.up (bj HT5.out (bj HN5.out (bj HB7.out (bj HB8.out HB10.out))))).c2;have g3:=(HQ3.out.up (bj HT5.out (bj HN5.out (bj HB7.out (bj HB8.out HB10.out))))).c3;have g4:=(HQ3.out.up (bj HT5.out (bj HN5.out (bj HB7.out (bj HB8.out HB10.out))))).c4;rw [HD.out] at g4;have HGW:=As (bj HT5.out (bj HN5.out (bj HB7.out (bj HB8.out HB10.out))));have HXW:=As (bj HB8.out HB10.out);have HXP:=As (show Kd.C Dc w7 Xm E.mem.length E.mem by have h:=HXC.out.m;rw [HXM.out] at h;exact h);have HYP:=As (show Kd.C Dc w10 Ym E.mem.length E.mem by have h:=HYC2.out.m;rw [HYM.out] at h;exact h);have HYR:=As (show Kd.C Ca w10 Yl E.log.length E.log by have h:=HYC2.out.l;rw [HYL.out] at h;exact h);have K9 : True:=trivial) | (clear K9;go_at_call 27;rw [HXM.out];refine (Et (c:=x2_) (d:=g2_) (bj HXW.out HNN.out) HXP.out (bj HGW.out HNN.out) HG3.out.m).mono ?_;rintro x w11 ⟨rfl,hb11⟩;have HN2:=As (bj HNN.out hb11);clear HNN;have HNN:=HN2;clear HN2 hb11;clear x0 x1 x2 x3 x4 y0 y1 y2 y3 y4 g0 g1 g2 g3 g4;have y0:=(HQ10.out.up HNN.out).c0;have y1:=(HQ10.out.up HNN.out).c1;have y2:=(HQ10.out.up HNN.out).c2;have y3:=(HQ10.out.up HNN.out).c3;have y4:=(HQ10.out.up HNN.out).c4;have x0:=(HQ8.out.up (bj HB10.out HNN.out)).c0;have x1:=(HQ8.out.up (bj HB10.out HNN.out)).c1;have x2:=(HQ8.out.up (bj HB10.out HNN.out)).c2;have x3:=(HQ8.out.up (bj HB10.out HNN.out)).c3;have x4:=(HQ8.out.up (bj HB10.out HNN.out)).c4;have g0:=(HQ3.out.up (bj HGW.out HNN.out)).c0;have g1:=(HQ3.out.up (bj HGW.out HNN.out)).c1;have g2:=(HQ3.out.up (bj HGW.out HNN.out)).c2;have g3:=(HQ3.out.up (bj HGW.out HNN.out)).c3;have g4:=(HQ3.out.up (bj HGW.out HNN.out)).c4;rw [HD.out] at g4;have K10 : True:=trivial) | (clear K10;go_at_call 27;rw [HYM.out];refine (Et (c:=y2_) (d:=g2_) HNN.out HYP.out (bj HGW.out HNN.out) HG3.out.m).mono ?_;rintro x w11 ⟨rfl,hb11⟩;have HN2:=As (bj HNN.out hb11);clear HNN;have HNN:=HN2;clear HN2 hb11;clear x0 x1 x2 x3 x4 y0 y1 y2 y3 y4 g0 g1 g2 g3 g4;have y0:=(HQ10.out.up HNN.out).c0;have y1:=(HQ10.out.up HNN.out).c1;have y2:=(HQ10.out.up HNN.out).c2;have y3:=(HQ10.out.up HNN.out).c3;have y4:=(HQ10.out.up HNN.out).c4;have x0:=(HQ8.out.up (bj HB10.out HNN.out)).c0;have x1:=(HQ8.out.up (bj HB10.out HNN.out)).c1;have x2:=(HQ8.out.up (bj HB10.out HNN.out)).c2;have x3:=(HQ8.out.up (bj HB10.out HNN.out)).c3;have x4:=(HQ8.out.up (bj HB10.out HNN.out)).c4;have g0:=(HQ3.out.up (bj HGW.out HNN.out)).c0;have g1:=(HQ3.out.up (bj HGW.out HNN.out)).c1;have g2:=(HQ3.out.up (bj HGW.out HNN.out)).c2;have g3:=(HQ3.out.up (bj HGW.out HNN.out)).c3;have g4:=(HQ3.out.up (bj HGW.out HNN.out)).c4;rw [HD.out] at g4;have K11 : True:=trivial) | (clear K11;go_at_call 28;rw [HYL.out];refine (Jf (c:=y3_) (d:=g3_) HNN.out HYR.out (bj HGW.out HNN.out) HG3.out.l).mono ?_;rintro x w11 ⟨rfl,hb11⟩;have HN2:=As (bj HNN.out hb11);clear HNN;have HNN:=HN2;clear HN2 hb11;clear x0 x1 x2 x3 x4 y0 y1 y2 y3 y4 g0 g1 g2 g3 g4;have y0:=(HQ10.out.up HNN.out).c0;have y1:=(HQ10.out.up HNN.out).c1;have y2:=(HQ10.out.up HNN.out).c2;have y3:=(HQ10.out.up HNN.out).c3;have y4:=(HQ10.out.up HNN.out).c4;have x0:=(HQ8.out.up (bj HB10.out HNN.out)).c0;have x1:=(HQ8.out.up (bj HB10.out HNN.out)).c1;have x2:=(HQ8.out.up (bj HB10.out HNN.out)).c2;have x3:=(HQ8.out.up (bj HB10.out HNN.out)).c3;have x4:=(HQ8.out.up (bj HB10.out HNN.out)).c4;have g0:=(HQ3.out.up (bj HGW.out HNN.out)).c0;have g1:=(HQ3.out.up (bj HGW.out HNN.out)).c1;have g2:=(HQ3.out.up (bj HGW.out HNN.out)).c2;have g3:=(HQ3.out.up (bj HGW.out HNN.out)).c3;have g4:=(HQ3.out.up (bj HGW.out HNN.out)).c4;rw [HD.out] at g4;have K12 : True:=trivial))
  go_ret
  exact ⟨rfl,bj HB1.out (bj HB3.out (bj HGW.out HNN.out))⟩
 ·have HD:=As hd
  have H6 : True:=trivial
  have H7 : True:=trivial
  have H8 : True:=trivial
  clear hys hd hx hy hX hY hI
  go_wp2_with (first | (clear K0;clear H2;go_at_call 20;refine (Br (c:=v1_) (Below.refl w1.heap.size w1) HVC.out).mono ?_;rw [HE.out];rintro x w2 ⟨vd,vm,vl,rfl,ho,hb2⟩;obtain ⟨Gd,g1_,Gm,g2_,Gl,g3_,rfl,rfl,rfl,hgcl,hc⟩:=ho.reads;have HG2:=As hc;have HGL:=As hgcl;have HB2:=As hb2;clear ho hb2 hc hgcl;have K1 : True:=trivial) | (clear K1;clear H3;refine Ai (vd:=.slice Gd E.disk.length g1_) (vm:=.slice Gm E.mem.length g2_) (vl:=.slice Gl E.log.length g3_) E ?_;intro w3 hb3 hz3 hq3;have HG3:=As (HG2.out.up hb3);have HQ3:=As hq3;have HB3:=As (bj HB2.out hb3);clear hb3 hz3 hq3;have K2 : True:=trivial) | (clear K2;go_at_call 21;refine (AV (c:=v1_) HB3.out HVC.out).mono ?_;rw [HE.out];rintro x w4 ⟨vd,vm,vl,rfl,ho,hb4⟩;obtain ⟨Jd,j1_,Jm,j2_,Jl,j3_,rfl,rfl,rfl, -,hc⟩:=ho.reads;have HJ4:=As hc;have HB4:=As hb4;clear ho hb4 hc;have K3 : True:=trivial) | (clear K3;clear H5;refine Ai (vd:=.slice Jd E.disk.length j1_) (vm:=.slice Jm E.mem.length j2_) (vl:=.slice Jl E.log.length j3_) E ?_;intro w5 hb5 hz5 hq5;have HJ5:=As (HJ4.out.up hb5);have HQ5:=As hq5;have HT5:=As (bj HB4.out hb5);have HN5:=As (Below.refl w5.heap.size w5);clear hb5 hz5 hq5;have g0:=(HQ3.out.up HT5.out).c0;have g1:=(HQ3.out.up HT5.out).c1;have g2:=(HQ3.out.up HT5.out).c2;have g3:=(HQ3.out.up HT5.out).c3;have g4:=(HQ3.out.up HT5.out).c4;have s0:=(HQ5.out).c0;have s1:=(HQ5.out).c1;have s2:=(HQ5.out).c2;have s3:=(HQ5.out).c3;have s4:=(HQ5.out).c4;have K4 : True:=trivial) | (clear K4;go_at_call 22;refine (Bc (cd:=g1_) (cm:=g2_) (cl:=g3_) (dd:=j1_) (dm:=j2_) (dl:=j3_) (bj HT5.out HN5.out) HG3.out HN5.out HJ5.out).mono ?_;rintro x w6 ⟨rfl,hb6⟩;have HN6:=As (bj HN5.out hb6);clear HN5 hb6;clear g0 g1 g2 g3 g4 s0 s1 s2 s3 s4;have HN5:=HN6;clear HN6;have g0:=(HQ3.out.up (bj HT5.out HN5.out)).c0;have g1:=(HQ3.out.up (bj HT5.out HN5.out)).c1;have g2:=(HQ3.out.up (bj HT5.out HN5.out)).c2;have g3:=(HQ3.out.up (bj HT5.out HN5.out)).c3;have g4:=(HQ3.out.up (bj HT5.out HN5.out)).c4;have s0:=(HQ5.out.up HN5.out).c0;have s1:=(HQ5.out.up HN5.out).c1;have s2:=(HQ5.out.up HN5.out).c2;have s3:=(HQ5.out.up HN5.out).c3;have s4:=(HQ5.out.up HN5.out).c4;have K5 : True:=trivial) | (clear K5;go_at_call 23;refine (Ce (w0:=w6) (cd:=g1_) (cm:=g2_) (cl:=g3_) (c:=0) ⟨6,0,((ys.length : Int) % 5),0,0, []⟩ HI.out (by omega) HGL.out (Below.refl _ _) (HG3.out.up (bj HT5.out HN5.out)) (IJ _)).mono ?_;rw [HX.out];rintro x w7 ⟨vd,vm,vl,rfl,ho,hb7⟩;obtain ⟨Xd,x1_,Xm,x2_,Xl,x3_,rfl,rfl,rfl,hcl,hc⟩:=ho.reads;have HXL:=As hcl;have HXC:=As hc;have HB7:=As hb7;clear ho hb7 hcl hc;clear g0 g1 g2 g3 g4 s0 s1 s2 s3 s4;have K6 : True:=trivial) | (clear K6;refine Ai (vd:=.slice Xd X.disk.length x1_) (vm:=.slice Xm X.mem.length x2_) (vl:=.slice Xl X.log.length x3_) X ?_;intro w8 hb8 hz8 hq8;have HQ8:=As hq8;have HB8:=As hb8;clear hb8 hz8 hq8;have x0:=(HQ8.out).c0;have x1:=(HQ8.out).c1;have x2:=(HQ8.out).c2;have x3:=(HQ8.out).c3;have x4:=(HQ8.out).c4;have K7 : True:=trivial) | (clear K7;go_at_call 23;refine (Ce (w0:=w7) (cd:=x1_) (cm:=x2_) (cl:=x3_) (c:=0) ⟨7,0,0,0,0, []⟩ HIX.out (by omega) HXL.out HB8.out HXC.out (IJ _)).mono ?_;rw [HY.out];rintro x w9 ⟨vd,vm,vl,rfl,ho,hb9⟩;obtain ⟨Yd,y1_,Ym,y2_,Yl,y3_,rfl,rfl,rfl, -,hc⟩:=ho.reads;have HYC:=As hc;have HB9:=As hb9;clear ho hb9 hc;clear x0 x1 x2 x3 x4;have K8 : True:=trivial) | (clear K8;refine Ai (vd:=.slice Yd Y.disk.length y1_) (vm:=.slice Ym Y.mem.length y2_) (vl:=.slice Yl Y.log.length y3_) Y ?_;intro w10 hb10 hz10 hq10;have HB10:=As (bj HB9.out hb10);have HYC2:=As (HYC.out.up hb10);have HQ10:=As hq10;have HNN:=As (Below.refl w10.heap.size w10);clear hb10 hz10 hq10;have y0:=(HQ10.out).c0;have y1:=(HQ10.out).c1;have y2:=(HQ10.out).c2;have y3:=(HQ10.out).c3;have y4:=(HQ10.out).c4;have x0:=(HQ8.out.up HB10.out).c0;have x1:=(HQ8.out.up HB10.out).c1;have x2:=(HQ8.out.up HB10.out).c2;have x3:=(HQ8.out.up HB10.out).c3;have x4:=(HQ8.out.up HB10.out).c4;have g0:=(HQ3.out.up (bj HT5.out (bj HN5.out (bj HB7.out (bj HB8.out HB10.out))))).c0;have g1:=(HQ3.out.up (bj HT5.out (bj HN5.out (bj HB7.out (bj HB8.out HB10.out))))).c1;have g2:=(HQ3.out.up (bj HT5.out (bj HN5.out (bj HB7.out (bj HB8.out HB10.out))))).c2;have g3:=(HQ3.out.up (bj HT5.out (bj HN5.out (bj HB7.out (bj HB8.out HB10.out))))).c3;have g4:=(HQ3.out.up (bj HT5.out (bj HN5.out (bj HB7.out (bj HB8.out HB10.out))))).c4;rw [HD.out] at g4;have HGW:=As (bj HT5.out (bj HN5.out (bj HB7.out (bj HB8.out HB10.out))));have HXW:=As (bj HB8.out HB10.out);have HXP:=As (show Kd.C Dc w7 Xm E.mem.length E.mem by have h:=HXC.out.m;rw [HXM.out] at h;exact h);have HYP:=As (show Kd.C Dc w10 Ym E.mem.length E.mem by have h:=HYC2.out.m;rw [HYM.out] at h;exact h);have HYR:=As (show Kd.C Ca w10 Yl E.log.length E.log by have h:=HYC2.out.l;rw [HYL.out] at h;exact h);have K9 : True:=trivial) | (clear K9;go_at_call 27;rw [HXM.out];refine (Et (c:=x2_) (d:=g2_) (bj HXW.out HNN.out) HXP.out (bj HGW.out HNN.out) HG3.out.m).mono ?_;rintro x w11 ⟨rfl,hb11⟩;have HN2:=As (bj HNN.out hb11);clear HNN;have HNN:=HN2;clear HN2 hb11;clear x0 x1 x2 x3 x4 y0 y1 y2 y3 y4 g0 g1 g2 g3 g4;have y0:=(HQ10.out.up HNN.out).c0;have y1:=(HQ10.out.up HNN.out).c1;have y2:=(HQ10.out.up HNN.out).c2;have y3:=(HQ10.out.up HNN.out).c3;have y4:=(HQ10.out.up HNN.out).c4;have x0:=(HQ8.out.up (bj HB10.out HNN.out)).c0;have x1:=(HQ8.out.up (bj HB10.out HNN.out)).c1;have x2:=(HQ8.out.up (bj HB10.out HNN.out)).c2;have x3:=(HQ8.out.up (bj HB10.out HNN.out)).c3;have x4:=(HQ8.out.up (bj HB10.out HNN.out)).c4;have g0:=(HQ3.out.up (bj HGW.out HNN.out)).c0;have g1:=(HQ3.out.up (bj HGW.out HNN.out)).c1;have g2:=(HQ3.out.up (bj HGW.out HNN.out)).c2;have g3:=(HQ3.out.up (bj HGW.out HNN.out)).c3;have g4:=(HQ3.out.up (bj HGW.out HNN.out)).c4;rw [HD.out] at g4;have K10 : True:=trivial) | (clear K10;go_at_call 27;rw [HYM.out];refine (Et (c:=y2_) (d:=g2_) HNN.out HYP.out (bj HGW.out HNN.out) HG3.out.m).mono ?_;rintro x w11 ⟨rfl,hb11⟩;have HN2:=As (bj HNN.out hb11);clear HNN;have HNN:=HN2;clear HN2 hb11;clear x0 x1 x2 x3 x4 y0 y1 y2 y3 y4 g0 g1 g2 g3 g4;have y0:=(HQ10.out.up HNN.out).c0;have y1:=(HQ10.out.up HNN.out).c1;have y2:=(HQ10.out.up HNN.out).c2;have y3:=(HQ10.out.up HNN.out).c3;have y4:=(HQ10.out.up HNN.out).c4;have x0:=(HQ8.out.up (bj HB10.out HNN.out)).c0;have x1:=(HQ8.out.up (bj HB10.out HNN.out)).c1;have x2:=(HQ8.out.up (bj HB10.out HNN.out)).c2;have x3:=(HQ8.out.up (bj HB10.out HNN.out)).c3;have x4:=(HQ8.out.up (bj HB10.out HNN.out)).c4;have g0:=(HQ3.out.up (bj HGW.out HNN.out)).c0;have g1:=(HQ3.out.up (bj HGW.out HNN.out)).c1;have g2:=(HQ3.out.up (bj HGW.out HNN.out)).c2;have g3:=(HQ3.out.up (bj HGW.out HNN.out)).c3;have g4:=(HQ3.out.up (bj HGW.out HNN.out)).c4;rw [HD.out] at g4;have K11 : True:=trivial) | (clear K11;go_at_call 28;rw [HYL.out];refine (Jf (c:=y3_) (d:=g3_) HNN.out HYR.out (bj HGW.out HNN.out) HG3.out.l).mono ?_;rintro x w11 ⟨rfl,hb11⟩;have HN2:=As (bj HNN.out hb11);clear HNN;have HNN:=HN2;clear HN2 hb11;clear x0 x1 x2 x3 x4 y0 y1 y2 y3 y4 g0 g1 g2 g3 g4;have y0:=(HQ10.out.up HNN.out).c0;have y1:=(HQ10.out.up HNN.out).c1;have y2:=(HQ10.out.up HNN.out).c2;have y3:=(HQ10.out.up HNN.out).c3;have y4:=(HQ10.out.up HNN.out).c4;have x0:=(HQ8.out.up (bj HB10.out HNN.out)).c0;have x1:=(HQ8.out.up (bj HB10.out HNN.out)).c1;have x2:=(HQ8.out.up (bj HB10.out HNN.out)).c2;have x3:=(HQ8.out.up (bj HB10.out HNN.out)).c3;have x4:=(HQ8.out.up (bj HB10.out HNN.out)).c4;have g0:=(HQ3.out.up (bj HGW.out HNN.out)).c0;have g1:=(HQ3.out.up (bj HGW.out HNN.out)).c1;have g2:=(HQ3.out.up (bj HGW.out HNN.out)).c2;have g3:=(HQ3.out.up (bj HGW.out HNN.out)).c3;have g4:=(HQ3.out.up (bj HGW.out HNN.out)).c4;rw [HD.out] at g4;have K12 : True:=trivial))
  go_ret
  exact ⟨rfl,bj HB1.out (bj HB3.out (bj HGW.out HNN.out))⟩
open Go.RowKit Go.Proofs.YtklmhkglcfjclaaGreatW.PrintWords Go.Proofs.YtklmhkglcfjclaaGreatW.PrintLast Go.Proofs.YtklmhkglcfjclaaGreatW.PrintMore Go.ChangeShapes Go.WideShapes Go.Deep
theorem BS {H : Type} {enc : TypeId × Value → H} {w : World} {held : Bool} {fuel : Nat} {cs : List Value} {y : DataW H × List MemPlace} (h : DataW.trod enc Tryz.prog w 0 (fun _ => true) held fuel 37 cs = some y) : ∃ xs A c,cs = [.slice A (List.length xs) c] ∧ xs.length ≤ c ∧ (Kd.int .u8).C w A xs.length xs ∧ Bytes xs:=by
 obtain ⟨xs,A,c,he,hcl,hr⟩:=E9 (d:=Kd.int .u8) Tryz.underlying37 (by kernel_rfl) (FB Tryz.underlying5) _ _ _ h
 refine ⟨xs,A,c,he,hcl,hr,fun b hb => ?_⟩
 obtain ⟨i,hi,rfl⟩:=List.getElem_of_mem hb
 obtain ⟨ad,ha,hc⟩:=Kb hr i hi
 rcases open_ints Tryz.underlying37 Tryz.underlying5 (by kernel_rfl) h with ⟨hcs,_⟩ | ⟨x,l,c',zs,hcs,_,hl,hm,hz,_,hcell,hwz⟩
 ·rw [he,ha] at hcs
  simp at hcs
 ·rw [he,ha] at hcs
  simp only [List.cons.injEq,Value.slice.injEq,Option.some.injEq,and_true] at hcs
  obtain ⟨rfl,h2,rfl⟩:=hcs
  rw [if_pos rfl] at hz
  have h3:=hcell i (by omega)
  rw [hc] at h3
  have h4 : iv xs i = zs.getD i 0:=by simpa using h3
  have h5:=range_u8 hwz i
  have e : iv xs i = xs[i]:=by simp [iv,List.getD_eq_getElem?_getD,hi]
  rw [← e,h4,List.getD_eq_getElem?_getD]
  exact h5
end Go.Proofs.YtklmhkglcfjclaaGreat
namespace Go.Proofs.YtklmhkglcfjclaaGreat.fnPlayQuiet
open Go.ChangeShapes Go.WideShapes Go.ChangeAt Go.RowKit Go.Proofs.YtklmhkglcfjclaaGreat
theorem own : ownKnob Tryz.prog.godebug = none:=by kernel_rfl
theorem laidOut : laidOutB Tryz.prog = true:=by kernel_rfl
set_option maxRecDepth 100000 in
theorem lifted (os : Os) (started : os.Started) (H : Type) (enc : TypeId × Value → H) :
  ReturnsInHanded {} Tryz.checked os 6 .any (Rows.fnPlayQuietSpec.pre6 enc Tryz.prog Tryz.f6 Rows.fnPlayQuietRow.domain false) (Rows.fnPlayQuietSpec.post enc Tryz.prog Tryz.f6 false true false false):=by
 refine returnsInHanded_of_change_sized (C:=Tryz.checked) own started (by kernel_rfl) Tryz.func6
  (ChangeSpec.witness6 (enc:=enc) (C:=Tryz.checked) false ⟨#[],#[.slice none 0 0, .slice none 0 0], []⟩ 8 (by kernel_rfl) (by kernel_rfl) (by kernel_rfl) (by kernel_rfl)) ?_
 intro W base args ds gs before hval0 hW hcnd hsz0 _
 have hval : ∀ (j : Nat) t v,Tryz.f6.params[j]? = some t → args[j]? = some v → Value.okWide Tryz.prog W .any base t v:=hval0
 have hW':=hW
 obtain ⟨p,q,hA0,hV,rfl,hfz,hnd⟩:=hW
 have hA : DataW.TrodAll enc Tryz.prog W 0 (fun _ => true) true Tryz.f6.params.toList args.toList ds p:=hA0
 rw [Tryz.params6] at hA hval
 obtain ⟨v0,vs0,d0,ds0,p0,q0,hargs,rfl,rfl,h0,r0⟩:=trodAll_cons hA
 obtain ⟨v1,vs1,d1,ds1,p1,q1,rfl,rfl,rfl,h1,r1⟩:=trodAll_cons r0
 obtain ⟨rfl,rfl,rfl⟩:=trodAll_nil r1
 obtain rfl : args = #[v0,v1]:=by cases args;simp_all
 obtain ⟨rfl,rfl⟩:=trodVars_none hV
 have k0:=h0
 have lt0 : ∀ x ∈ p0,x.block < W.heap.size:=by obtain ⟨m,hm⟩:=k0;exact DataW.trod_lt m _ _ _ hm
 obtain ⟨a0,len0,cap0,rfl⟩:=okWide_slice Tryz.underlying37 (hval 0 37 v0 rfl rfl)
 obtain ⟨fuel0,hf0⟩:=h0
 obtain ⟨xs0,A0,c0,he0,hcl0,hr0,hby0⟩:=BS hf0
 obtain ⟨rfl,rfl,rfl⟩ : a0 = A0 ∧ len0 = xs0.length ∧ cap0 = c0:=by simpa [Value.cells] using he0
 have k1:=h1
 have lt1 : ∀ x ∈ p1,x.block < W.heap.size:=by obtain ⟨m,hm⟩:=k1;exact DataW.trod_lt m _ _ _ hm
 obtain ⟨a1,NF,cap1,rfl⟩:=okWide_slice Tryz.underlying37 (hval 1 37 v1 rfl rfl)
 obtain ⟨fuel1,hf1⟩:=h1
 obtain ⟨xs1,A1,c1,he1,hcl1,hr1,hby1⟩:=BS hf1
 obtain ⟨rfl,rfl,rfl⟩ : a1 = A1 ∧ NF = xs1.length ∧ cap1 = c1:=by simpa [Value.cells] using he1
 clear hA0 hval0 hsz0 hval hA
 refine (Mj hcl0 hby0 hr0 (Co hr1).2).mono fun e1 W' ⟨he1,bel⟩ => ?_
 subst he1
 exact ⟨_,rfl,_,_,_, [],_, [],hW',trodAll_mk1 (shut_bool Tryz.underlying4 _),(trodAll_cons_mk (Below.trod laidOut (by kernel_rfl) (of_decide_eq_true (by kernel_rfl)) k0 bel lt0) (trodAll_cons_mk (Below.trod laidOut (by kernel_rfl) (of_decide_eq_true (by kernel_rfl)) k1 bel lt1) trodAll_mk0)),rfl,bel.frame _,fun h => by cases h⟩
theorem k24b : (Rows.fnPlayQuietRow.lifted == Tryz.pinned.checked.prog.liftsFinal) = true:=by
 rw [show Tryz.pinned.checked.prog.liftsFinal = false from Ea]
 rfl
theorem k24c : (Tryz.pinned.checked.prog.make == some Rows.fnPlayQuietRow.make) = true:=by
 rw [show Tryz.pinned.checked.prog.make = some Make.cut from Gs]
 rfl
set_option maxRecDepth 100000 in
set_option maxHeartbeats 8000000 in
theorem closed : joinedFacts Tryz.pinned.checked.prog 6 Tryz.f6 Rows.fnPlayQuietSpec Rows.fnPlayQuietRow = true:=by
 simp only [joinedFacts,Bool.and_eq_true]
 exact ⟨⟨⟨⟨⟨⟨⟨⟨⟨⟨⟨⟨⟨⟨⟨⟨⟨⟨⟨⟨⟨⟨⟨⟨⟨⟨⟨⟨⟨⟨⟨(by as_aux_lemma => kernel_rfl),(by as_aux_lemma => kernel_rfl)⟩,(by as_aux_lemma => kernel_rfl)⟩,(by as_aux_lemma => kernel_rfl)⟩,(by as_aux_lemma => kernel_rfl)⟩,(by as_aux_lemma => kernel_rfl)⟩,(by as_aux_lemma => kernel_rfl)⟩,(by as_aux_lemma => kernel_rfl)⟩,(by as_aux_lemma => kernel_rfl)⟩,(by as_aux_lemma => kernel_rfl)⟩,(by as_aux_lemma => kernel_rfl)⟩,(by as_aux_lemma => kernel_rfl)⟩,(by as_aux_lemma => kernel_rfl)⟩,(by as_aux_lemma => kernel_rfl)⟩,(by as_aux_lemma => kernel_rfl)⟩,(by as_aux_lemma => kernel_rfl)⟩,(by as_aux_lemma => kernel_rfl)⟩,(by as_aux_lemma => kernel_rfl)⟩,(by as_aux_lemma => kernel_rfl)⟩,(by as_aux_lemma => kernel_rfl)⟩,(by as_aux_lemma => kernel_rfl)⟩,(by as_aux_lemma => kernel_rfl)⟩,(by as_aux_lemma => kernel_rfl)⟩,(by as_aux_lemma => kernel_rfl)⟩,(by as_aux_lemma => kernel_rfl)⟩,FD⟩,k24b⟩,k24c⟩,(by as_aux_lemma => kernel_rfl)⟩,(by as_aux_lemma => kernel_rfl)⟩,(by as_aux_lemma => kernel_rfl)⟩,(by as_aux_lemma => kernel_rfl)⟩
theorem over : Rows.fnPlayQuietRow.holds Tryz.pinned (OpenSpec.ofChange Rows.fnPlayQuietSpec):=
 OpenClaim.holds_of_wide 6 Tryz.f6 rfl rfl rfl rfl rfl rfl rfl ⟨rfl,rfl,rfl,rfl,rfl⟩ rfl rfl rfl rfl rfl (by kernel_rfl) Tryz.func6 closed
  (of_decide_eq_true (by kernel_rfl)) (by unfold Func.isWrapper;first | (rw [if_pos (by decide +kernel)];kernel_rfl) | (rw [if_neg (by decide +kernel)];exact ⟨rfl,rfl⟩))
  (fun os started H enc _ => lifted os started H enc)
theorem proved : Rows.FnPlayQuietSaid:=over
end Go.Proofs.YtklmhkglcfjclaaGreat.fnPlayQuiet
namespace Go.Proofs.YtklmhkglcfjclaaGreat
theorem fnPlayQuiet_holds : Rows.FnPlayQuietSaid:=fnPlayQuiet.proved
end Go.Proofs.YtklmhkglcfjclaaGreat
