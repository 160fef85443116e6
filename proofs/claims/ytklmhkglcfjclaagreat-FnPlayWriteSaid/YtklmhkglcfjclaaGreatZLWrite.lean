/- Proved here: for all bytes that are handed in, laws.FnPlayWrite returns true (whatever is written when, it is the same behind a fall: behind a drawn play a write, or a force, changes nothing of what is there behind a fall and a rise). Conditions: none beyond those that the given statement itself bears. -/
import Derived.Test.YtklmhkglcfjclaaGreatZF1
import Derived.Test.YtklmhkglcfjclaaGreatZA1
import Derived.Test.YtklmhkglcfjclaaGreatZV2
import Derived.WalkKit
import Derived.ProofKit
import Derived.OpenShut
import Derived.ShutString
import Derived.ChangeOld
import Derived.Below
import Derived.SizedLaws
set_option linter.unusedVariables false
set_option linter.unusedSimpArgs false
namespace Go.Proofs.YtklmhkglcfjclaaGreat
open Go.RowKit Go.Proofs.YtklmhkglcfjclaaGreatW.PrintWords Go.Proofs.YtklmhkglcfjclaaGreatW.PrintLast Go.Proofs.YtklmhkglcfjclaaGreatW.PrintMore
theorem field_mem (A B C : Option Addr) (n1 c1 n2 c2 n3 c3 : Nat) (s : Int) (b : Bool) (w : World) : (Instr.field 30 (.agg #[.slice A n1 c1, .slice B n2 c2, .slice C n3 c3, .int .i64 s, .bool b]) 1).run Tryz.prog w = .ok (.slice B n2 c2) w:=by kernel_rfl
set_option maxRecDepth 100000 in
set_option maxHeartbeats 16000000 in
theorem Mi {w : World} {A : Option Addr} {c : Nat} {xs : List Int} {B : Option Addr} {d : Nat} {ys : List Int} (hcap : xs.length ≤ c) (hx : Bytes xs) (hr : Kd.C (Kd.int .u8) w A xs.length xs) (hy : ys.length ≤ 9223372036854775807) : Calls Tryz.prog 11 #[.slice A xs.length c, .slice B ys.length d] w (I5 w):=by
 have HR:=As hr
 have HCAP:=As hcap
 have HBY:=As hx
 have hmx:=(Co hr).2
 have H2 : True:=trivial
 have H3 : True:=trivial
 have H5 : True:=trivial
 clear hcap hx hr
 rcases lts 1048576 (xs.length : Int) with ⟨e1,b1,c1⟩ | ⟨e1,b1,c1⟩
 ·go_enter Tryz.func11,Tryz.ntmps11
  go_wp2
  go_ret
  exact ⟨rfl,Below.refl _ _⟩
 rcases lts 1048576 (ys.length : Int) with ⟨e2,b2,c2⟩ | ⟨e2,b2,c2⟩
 ·go_enter Tryz.func11,Tryz.ntmps11
  go_wp2
  go_ret
  exact ⟨rfl,Below.refl _ _⟩
 go_enter Tryz.func11,Tryz.ntmps11
 go_wp2_with (go_at_call 19;refine (Cv HCAP.out HBY.out (Below.refl w.heap.size w) HR.out).mono ?_;rintro x w1 ⟨V,vs,rfl,hV,hlen,hb1⟩;obtain ⟨V1,v1_,rfl,hcv,hc⟩:=Kd.Cj hV;have HVC:=As hc;have HCV:=As hcv;have HLN:=As hlen;have HB1:=As hb1;clear hV hcv hc hlen hb1)
 obtain ⟨E,bb,hE⟩ : ∃ E bb,JH vs = (E,bb):=⟨_,_,rfl⟩
 have HE:=As hE
 clear hE
 have K0 : True:=trivial
 cases bb
 ·go_wp2_with (first | (clear K0;clear H2;go_at_call 20;refine (Br (c:=v1_) (Below.refl w1.heap.size w1) HVC.out).mono ?_;rw [HE.out];rintro x w2 ⟨vd,vm,vl,rfl,ho,hb2⟩;obtain ⟨Gd,g1_,Gm,g2_,Gl,g3_,rfl,rfl,rfl,hgcl,hc⟩:=ho.reads;have HG2:=As hc;have HGL:=As hgcl;have HB2:=As hb2;clear ho hb2 hc hgcl;have K1 : True:=trivial) | (clear K1;clear H3;refine Ai (vd:=.slice Gd E.disk.length g1_) (vm:=.slice Gm E.mem.length g2_) (vl:=.slice Gl E.log.length g3_) E ?_;intro w3 hb3 hz3 hq3;have HG3:=As (HG2.out.up hb3);have HQ3:=As hq3;have HB3:=As (bj HB2.out hb3);clear hb3 hz3 hq3;have K2 : True:=trivial) | (clear K2;go_at_call 21;refine (AV (c:=v1_) HB3.out HVC.out).mono ?_;rw [HE.out];rintro x w4 ⟨vd,vm,vl,rfl,ho,hb4⟩;obtain ⟨Jd,j1_,Jm,j2_,Jl,j3_,rfl,rfl,rfl, -,hc⟩:=ho.reads;have HJ4:=As hc;have HB4:=As hb4;clear ho hb4 hc;have K3 : True:=trivial) | (clear K3;clear H5;refine Ai (vd:=.slice Jd E.disk.length j1_) (vm:=.slice Jm E.mem.length j2_) (vl:=.slice Jl E.log.length j3_) E ?_;intro w5 hb5 hz5 hq5;have HJ5:=As (HJ4.out.up hb5);have HQ5:=As hq5;have HT5:=As (bj HB4.out hb5);have HN5:=As (Below.refl w5.heap.size w5);clear hb5 hz5 hq5;have g0:=(HQ3.out.up HT5.out).c0;have g1:=(HQ3.out.up HT5.out).c1;have g2:=(HQ3.out.up HT5.out).c2;have g3:=(HQ3.out.up HT5.out).c3;have g4:=(HQ3.out.up HT5.out).c4;have s0:=(HQ5.out).c0;have s1:=(HQ5.out).c1;have s2:=(HQ5.out).c2;have s3:=(HQ5.out).c3;have s4:=(HQ5.out).c4;have K4 : True:=trivial) | (clear K4;go_at_call 22;refine (Bc (cd:=g1_) (cm:=g2_) (cl:=g3_) (dd:=j1_) (dm:=j2_) (dl:=j3_) (bj HT5.out HN5.out) HG3.out HN5.out HJ5.out).mono ?_;rintro x w6 ⟨rfl,hb6⟩;have HN6:=As (bj HN5.out hb6);clear HN5 hb6;clear g0 g1 g2 g3 g4 s0 s1 s2 s3 s4;have HN5:=HN6;clear HN6;have g0:=(HQ3.out.up (bj HT5.out HN5.out)).c0;have g1:=(HQ3.out.up (bj HT5.out HN5.out)).c1;have g2:=(HQ3.out.up (bj HT5.out HN5.out)).c2;have g3:=(HQ3.out.up (bj HT5.out HN5.out)).c3;have g4:=(HQ3.out.up (bj HT5.out HN5.out)).c4;have s0:=(HQ5.out.up HN5.out).c0;have s1:=(HQ5.out.up HN5.out).c1;have s2:=(HQ5.out.up HN5.out).c2;have s3:=(HQ5.out.up HN5.out).c3;have s4:=(HQ5.out.up HN5.out).c4;have K5 : True:=trivial) | (clear K5;go_at_call 22;refine (Bc (cd:=g1_) (cm:=g2_) (cl:=g3_) (dd:=j1_) (dm:=j2_) (dl:=j3_) (bj HT5.out HN5.out) HG3.out HN5.out HJ5.out).mono ?_;rintro x w6 ⟨rfl,hb6⟩;have HN6:=As (bj HN5.out hb6);clear HN5 hb6;clear g0 g1 g2 g3 g4 s0 s1 s2 s3 s4;have HN5:=HN6;clear HN6;have g0:=(HQ3.out.up (bj HT5.out HN5.out)).c0;have g1:=(HQ3.out.up (bj HT5.out HN5.out)).c1;have g2:=(HQ3.out.up (bj HT5.out HN5.out)).c2;have g3:=(HQ3.out.up (bj HT5.out HN5.out)).c3;have g4:=(HQ3.out.up (bj HT5.out HN5.out)).c4;have s0:=(HQ5.out.up HN5.out).c0;have s1:=(HQ5.out.up HN5.out).c1;have s2:=(HQ5.out.up HN5.out).c2;have s3:=(HQ5.out.up HN5.out).c3;have s4:=(HQ5.out.up HN5.out).c4;have K6 : True:=trivial))
  go_ret
  exact ⟨rfl,bj HB1.out (bj HB3.out (bj HT5.out HN5.out))⟩
 have HRUN:=As (Gn HE.out)
 have HINV : Ac (∃ C,Inv E C (3 * 40)):=⟨by rw [HRUN.out.2];exact inv_all vs HRUN.out.1⟩
 obtain ⟨C,hI⟩:=HINV.out
 have HI:=As hI
 cases hd : E.down
 rotate_left
 ·have HD:=As hd
  clear hd hI
  go_wp2_with (first | (clear K0;clear H2;go_at_call 20;refine (Br (c:=v1_) (Below.refl w1.heap.size w1) HVC.out).mono ?_;rw [HE.out];rintro x w2 ⟨vd,vm,vl,rfl,ho,hb2⟩;obtain ⟨Gd,g1_,Gm,g2_,Gl,g3_,rfl,rfl,rfl,hgcl,hc⟩:=ho.reads;have HG2:=As hc;have HGL:=As hgcl;have HB2:=As hb2;clear ho hb2 hc hgcl;have K1 : True:=trivial) | (clear K1;clear H3;refine Ai (vd:=.slice Gd E.disk.length g1_) (vm:=.slice Gm E.mem.length g2_) (vl:=.slice Gl E.log.length g3_) E ?_;intro w3 hb3 hz3 hq3;have HG3:=As (HG2.out.up hb3);have HQ3:=As hq3;have HB3:=As (bj HB2.out hb3);clear hb3 hz3 hq3;have K2 : True:=trivial) | (clear K2;go_at_call 21;refine (AV (c:=v1_) HB3.out HVC.out).mono ?_;rw [HE.out];rintro x w4 ⟨vd,vm,vl,rfl,ho,hb4⟩;obtain ⟨Jd,j1_,Jm,j2_,Jl,j3_,rfl,rfl,rfl, -,hc⟩:=ho.reads;have HJ4:=As hc;have HB4:=As hb4;clear ho hb4 hc;have K3 : True:=trivial) | (clear K3;clear H5;refine Ai (vd:=.slice Jd E.disk.length j1_) (vm:=.slice Jm E.mem.length j2_) (vl:=.slice Jl E.log.length j3_) E ?_;intro w5 hb5 hz5 hq5;have HJ5:=As (HJ4.out.up hb5);have HQ5:=As hq5;have HT5:=As (bj HB4.out hb5);have HN5:=As (Below.refl w5.heap.size w5);clear hb5 hz5 hq5;have g0:=(HQ3.out.up HT5.out).c0;have g1:=(HQ3.out.up HT5.out).c1;have g2:=(HQ3.out.up HT5.out).c2;have g3:=(HQ3.out.up HT5.out).c3;have g4:=(HQ3.out.up HT5.out).c4;have s0:=(HQ5.out).c0;have s1:=(HQ5.out).c1;have s2:=(HQ5.out).c2;have s3:=(HQ5.out).c3;have s4:=(HQ5.out).c4;have K4 : True:=trivial) | (clear K4;go_at_call 22;refine (Bc (cd:=g1_) (cm:=g2_) (cl:=g3_) (dd:=j1_) (dm:=j2_) (dl:=j3_) (bj HT5.out HN5.out) HG3.out HN5.out HJ5.out).mono ?_;rintro x w6 ⟨rfl,hb6⟩;have HN6:=As (bj HN5.out hb6);clear HN5 hb6;clear g0 g1 g2 g3 g4 s0 s1 s2 s3 s4;have HN5:=HN6;clear HN6;have g0:=(HQ3.out.up (bj HT5.out HN5.out)).c0;have g1:=(HQ3.out.up (bj HT5.out HN5.out)).c1;have g2:=(HQ3.out.up (bj HT5.out HN5.out)).c2;have g3:=(HQ3.out.up (bj HT5.out HN5.out)).c3;have g4:=(HQ3.out.up (bj HT5.out HN5.out)).c4;have s0:=(HQ5.out.up HN5.out).c0;have s1:=(HQ5.out.up HN5.out).c1;have s2:=(HQ5.out.up HN5.out).c2;have s3:=(HQ5.out.up HN5.out).c3;have s4:=(HQ5.out.up HN5.out).c4;rw [HD.out] at g4;have K5 : True:=trivial))
  go_ret
  exact ⟨rfl,bj HB1.out (bj HB3.out (bj HT5.out HN5.out))⟩
 have HD:=As hd
 obtain ⟨X,hX⟩ : ∃ X,AP E ⟨6,0,((ys.length : Int) % 5),0,0, []⟩ = X:=⟨_,rfl⟩
 obtain ⟨Y,hY⟩ : ∃ Y,AP E ⟨7,0,0,0,0, []⟩ = Y:=⟨_,rfl⟩
 obtain ⟨A',hA⟩ : ∃ A',KO E 0 = A':=⟨_,rfl⟩
 have HIX:=As (show Inv X C _ by rw [← hX];exact hI.WY ((ys.length : Int) % 5))
 have HIY:=As (show Inv Y C _ by rw [← hY];exact hI.Xh)
 obtain ⟨U,hU⟩ : ∃ U,KO X 0 = U:=⟨_,rfl⟩
 obtain ⟨V',hV⟩ : ∃ V',KO Y 0 = V':=⟨_,rfl⟩
 have HUA:=As (show Pg U.mem C by rw [← hU];exact HIX.out.NQ (by decide))
 have HVA:=As (show Pg V'.mem C by rw [← hV];exact HIY.out.NQ (by decide))
 have HAA:=As (show Pg A'.mem C by rw [← hA];exact hI.NQ (by decide))
 have HX:=As hX
 have HY:=As hY
 have HA:=As hA
 have HU:=As hU
 have HV:=As hV
 have H6 : True:=trivial
 have H7 : True:=trivial
 have H8 : True:=trivial
 clear hX hY hA hU hV hI hd
 go_wp2_with (first | (clear K0;clear H2;go_at_call 20;refine (Br (c:=v1_) (Below.refl w1.heap.size w1) HVC.out).mono ?_;rw [HE.out];rintro x w2 ⟨vd,vm,vl,rfl,ho,hb2⟩;obtain ⟨Gd,g1_,Gm,g2_,Gl,g3_,rfl,rfl,rfl,hgcl,hc⟩:=ho.reads;have HG2:=As hc;have HGL:=As hgcl;have HB2:=As hb2;clear ho hb2 hc hgcl;have K1 : True:=trivial) | (clear K1;clear H3;refine Ai (vd:=.slice Gd E.disk.length g1_) (vm:=.slice Gm E.mem.length g2_) (vl:=.slice Gl E.log.length g3_) E ?_;intro w3 hb3 hz3 hq3;have HG3:=As (HG2.out.up hb3);have HQ3:=As hq3;have HB3:=As (bj HB2.out hb3);clear hb3 hz3 hq3;have K2 : True:=trivial) | (clear K2;go_at_call 21;refine (AV (c:=v1_) HB3.out HVC.out).mono ?_;rw [HE.out];rintro x w4 ⟨vd,vm,vl,rfl,ho,hb4⟩;obtain ⟨Jd,j1_,Jm,j2_,Jl,j3_,rfl,rfl,rfl, -,hc⟩:=ho.reads;have HJ4:=As hc;have HB4:=As hb4;clear ho hb4 hc;have K3 : True:=trivial) | (clear K3;clear H5;refine Ai (vd:=.slice Jd E.disk.length j1_) (vm:=.slice Jm E.mem.length j2_) (vl:=.slice Jl E.log.length j3_) E ?_;intro w5 hb5 hz5 hq5;have HJ5:=As (HJ4.out.up hb5);have HQ5:=As hq5;have HT5:=As (bj HB4.out hb5);have HN5:=As (Below.refl w5.heap.size w5);clear hb5 hz5 hq5;have g0:=(HQ3.out.up HT5.out).c0;have g1:=(HQ3.out.up HT5.out).c1;have g2:=(HQ3.out.up HT5.out).c2;have g3:=(HQ3.out.up HT5.out).c3;have g4:=(HQ3.out.up HT5.out).c4;have s0:=(HQ5.out).c0;have s1:=(HQ5.out).c1;have s2:=(HQ5.out).c2;have s3:=(HQ5.out).c3;have s4:=(HQ5.out).c4;have K4 : True:=trivial) | (clear K4;go_at_call 22;refine (Bc (cd:=g1_) (cm:=g2_) (cl:=g3_) (dd:=j1_) (dm:=j2_) (dl:=j3_) (bj HT5.out HN5.out) HG3.out HN5.out HJ5.out).mono ?_;rintro x w6 ⟨rfl,hb6⟩;have HN6:=As (bj HN5.out hb6);clear HN5 hb6;clear g0 g1 g2 g3 g4 s0 s1 s2 s3 s4;have HN5:=HN6;clear HN6;have g0:=(HQ3.out.up (bj HT5.out HN5.out)).c0;have g1:=(HQ3.out.up (bj HT5.out HN5.out)).c1;have g2:=(HQ3.out.up (bj HT5.out HN5.out)).c2;have g3:=(HQ3.out.up (bj HT5.out HN5.out)).c3;have g4:=(HQ3.out.up (bj HT5.out HN5.out)).c4;have s0:=(HQ5.out.up HN5.out).c0;have s1:=(HQ5.out.up HN5.out).c1;have s2:=(HQ5.out.up HN5.out).c2;have s3:=(HQ5.out.up HN5.out).c3;have s4:=(HQ5.out.up HN5.out).c4;rw [HD.out] at g4;have K5 : True:=trivial) | (clear K5;go_at_call 23;refine (calls_cast (Ce (w0:=w6) (cd:=g1_) (cm:=g2_) (cl:=g3_) (c:=0) ⟨6,0,((ys.length : Int) % 5),0,0, []⟩ HI.out (by omega) HGL.out (Below.refl _ _) (HG3.out.up (bj HT5.out HN5.out)) (IJ _)) (by simp only [Eng.val,Eng.ag,Evt.val,HD.out,List.length_nil])).mono ?_;rw [HX.out];rintro x w7 ⟨vd,vm,vl,rfl,ho,hb7⟩;obtain ⟨Xd,x1_,Xm,x2_,Xl,x3_,rfl,rfl,rfl,hcl,hc⟩:=ho.reads;have HXL:=As hcl;have HXC:=As hc;have HT7:=As hb7;have HG7:=As (bj (bj HT5.out HN5.out) hb7);clear ho hb7 hcl hc;clear g0 g1 g2 g3 g4;clear s0 s1 s2 s3 s4;have K6 : True:=trivial) | (clear K6;refine Ai (vd:=.slice Xd X.disk.length x1_) (vm:=.slice Xm X.mem.length x2_) (vl:=.slice Xl X.log.length x3_) X ?_;intro w8 hb8 hz8 hq8;have HQ8:=As hq8;have HG8:=As (bj HG7.out hb8);have HS8:=As hb8;clear hb8 hz8 hq8;have g0:=(HQ3.out.up HG8.out).c0;have g1:=(HQ3.out.up HG8.out).c1;have g2:=(HQ3.out.up HG8.out).c2;have g3:=(HQ3.out.up HG8.out).c3;have g4:=(HQ3.out.up HG8.out).c4;have K7 : True:=trivial) | (clear K7;go_at_call 23;refine (Ce (w0:=w8) (cd:=g1_) (cm:=g2_) (cl:=g3_) (c:=0) ⟨7,0,0,0,0, []⟩ HI.out (by omega) HGL.out (Below.refl _ _) (HG3.out.up HG8.out) (IJ _)).mono ?_;rw [HY.out];rintro x w9 ⟨vd,vm,vl,rfl,ho,hb7⟩;obtain ⟨Yd,y1_,Ym,y2_,Yl,y3_,rfl,rfl,rfl,hcl,hc⟩:=ho.reads;have HYL:=As hcl;have HYC:=As hc;have HT9:=As hb7;have HG9:=As (bj HG8.out hb7);clear ho hb7 hcl hc;clear g0 g1 g2 g3 g4;have K8 : True:=trivial) | (clear K8;refine Ai (vd:=.slice Yd Y.disk.length y1_) (vm:=.slice Ym Y.mem.length y2_) (vl:=.slice Yl Y.log.length y3_) Y ?_;intro w10 hb8 hz8 hq8;have HQ10:=As hq8;have HG10:=As (bj HG9.out hb8);have HS10:=As hb8;clear hb8 hz8 hq8;have g0:=(HQ3.out.up HG10.out).c0;have g1:=(HQ3.out.up HG10.out).c1;have g2:=(HQ3.out.up HG10.out).c2;have g3:=(HQ3.out.up HG10.out).c3;have g4:=(HQ3.out.up HG10.out).c4;have K9 : True:=trivial) | (clear K9;go_at_call 34;refine (Je (w0:=w10) (cd:=g1_) (cm:=g2_) (cl:=g3_) 0 HI.out (by omega) HGL.out (Below.refl _ _) (HG3.out.up HG10.out)).mono ?_;rw [HA.out];rintro x w11 ⟨vd,vm,vl,rfl,ho,hb7⟩;obtain ⟨Ad,a1_,Am,a2_,Al,a3_,rfl,rfl,rfl, -,hc⟩:=ho.reads;have HAC:=As hc;have HG11:=As (bj HG10.out hb7);have HT11:=As hb7;clear ho hb7 hc;clear g0 g1 g2 g3 g4;have K10 : True:=trivial))
 obtain ⟨w12,hw12⟩ : ∃ w12,w11.alloc (Obj.cells #[.slice Ad A'.disk.length a1_, .slice Am A'.mem.length a2_, .slice Al A'.log.length a3_, .int .i64 A'.safe, .bool A'.down] 30) = w12:=⟨_,rfl⟩
 rw [hw12]
 have HS12 : Ac (Below w11.heap.size w11 w12):=⟨by rw [← hw12];exact Ah (Below.refl _ _) _⟩
 have HQ12 : Ac (Aj w12 w11.heap.size A' (.slice Ad A'.disk.length a1_) (.slice Am A'.mem.length a2_) (.slice Al A'.log.length a3_)):=⟨by rw [← hw12];exact Aj.mk1 _ _ _ _ _⟩
 clear hw12
 have HK10:=As (bj HT11.out HS12.out)
 have HK8:=As (bj HT9.out (bj HS10.out HK10.out))
 refine AY (fun lx a wx => Below w12.heap.size w12 wx ∧ (Sl 1 68 (SlE U) lx a wx ∧ Sl 8 75 (SlE V') lx a wx)) 15 rfl (by kernel_rfl) (⟨Ak (Below.refl _ _),Bb,Bb⟩) (fun HT => ?_)
 refine Ae (i:=0) (v:=?_) HT rfl (by kernel_rfl) rfl (kA Aa (kA (Ab rfl rfl) (Ab rfl rfl))) (by rfl) (fun _ _ _ h => h) (fun lx ax wx hS => ?_) ?_;rotate_left;(have x0:=(HQ8.out.up (bj HK8.out hS.1)).c0;have x1:=(HQ8.out.up (bj HK8.out hS.1)).c1;have x2:=(HQ8.out.up (bj HK8.out hS.1)).c2;have x3:=(HQ8.out.up (bj HK8.out hS.1)).c3;have x4:=(HQ8.out.up (bj HK8.out hS.1)).c4;have y0:=(HQ10.out.up (bj HK10.out hS.1)).c0;have y1:=(HQ10.out.up (bj HK10.out hS.1)).c1;have y2:=(HQ10.out.up (bj HK10.out hS.1)).c2;have y3:=(HQ10.out.up (bj HK10.out hS.1)).c3;have y4:=(HQ10.out.up (bj HK10.out hS.1)).c4;have a0:=(HQ12.out.up hS.1).c0;have a1:=(HQ12.out.up hS.1).c1;have a2:=(HQ12.out.up hS.1).c2;have a3:=(HQ12.out.up hS.1).c3;have a4:=(HQ12.out.up hS.1).c4;go_simp;with_reducible rfl);rotate_left;simp only [sc0,sc1]
 refine Ae (i:=3) (v:=?_) HT rfl (by kernel_rfl) rfl (kA Aa (kA (Ab rfl rfl) (Ab rfl rfl))) (by rfl) (fun _ _ _ h => h) (fun lx ax wx hS => ?_) ?_;rotate_left;(have x0:=(HQ8.out.up (bj HK8.out hS.1)).c0;have x1:=(HQ8.out.up (bj HK8.out hS.1)).c1;have x2:=(HQ8.out.up (bj HK8.out hS.1)).c2;have x3:=(HQ8.out.up (bj HK8.out hS.1)).c3;have x4:=(HQ8.out.up (bj HK8.out hS.1)).c4;have y0:=(HQ10.out.up (bj HK10.out hS.1)).c0;have y1:=(HQ10.out.up (bj HK10.out hS.1)).c1;have y2:=(HQ10.out.up (bj HK10.out hS.1)).c2;have y3:=(HQ10.out.up (bj HK10.out hS.1)).c3;have y4:=(HQ10.out.up (bj HK10.out hS.1)).c4;have a0:=(HQ12.out.up hS.1).c0;have a1:=(HQ12.out.up hS.1).c1;have a2:=(HQ12.out.up hS.1).c2;have a3:=(HQ12.out.up hS.1).c3;have a4:=(HQ12.out.up hS.1).c4;go_simp;with_reducible rfl);rotate_left;simp only [sc0,sc1]
 refine Ae (i:=4) (v:=?_) HT rfl (by kernel_rfl) rfl (kA Aa (kA (Ab rfl rfl) (Ab rfl rfl))) (by rfl) (fun _ _ _ h => h) (fun lx ax wx hS => ?_) ?_;rotate_left;(have x0:=(HQ8.out.up (bj HK8.out hS.1)).c0;have x1:=(HQ8.out.up (bj HK8.out hS.1)).c1;have x2:=(HQ8.out.up (bj HK8.out hS.1)).c2;have x3:=(HQ8.out.up (bj HK8.out hS.1)).c3;have x4:=(HQ8.out.up (bj HK8.out hS.1)).c4;have y0:=(HQ10.out.up (bj HK10.out hS.1)).c0;have y1:=(HQ10.out.up (bj HK10.out hS.1)).c1;have y2:=(HQ10.out.up (bj HK10.out hS.1)).c2;have y3:=(HQ10.out.up (bj HK10.out hS.1)).c3;have y4:=(HQ10.out.up (bj HK10.out hS.1)).c4;have a0:=(HQ12.out.up hS.1).c0;have a1:=(HQ12.out.up hS.1).c1;have a2:=(HQ12.out.up hS.1).c2;have a3:=(HQ12.out.up hS.1).c3;have a4:=(HQ12.out.up hS.1).c4;go_simp;with_reducible rfl);rotate_left;simp only [sc0,sc1]
 refine BL (i:=1) (f:=34) (args:=#[X.val Xd Xm Xl x1_ x2_ x3_, .int .i64 0]) (fun v => ∃ D1 D2 D3 k1 k2 k3,v = U.val D1 D2 D3 k1 k2 k3) rfl (by kernel_rfl) rfl Tryz.func34 (by kernel_rfl) rfl rfl (by rfl) (by simp only [List.map_toArray,List.map_cons,List.map_nil];rfl) (fun wx hS => (Je (w0:=w7) 0 HIX.out (by omega) HXL.out (bj HS8.out (bj HK8.out hS.1)) HXC.out).mono (by rw [HU.out];rintro x wz ⟨vd,vm,vl,rfl,ho,hb⟩;obtain ⟨D1,k1,D2,k2,D3,k3,rfl,rfl,rfl, -,hc⟩:=ho.reads;exact ⟨_,rfl,⟨D1,D2,D3,k1,k2,k3,rfl⟩,bj hS.1 hb,fun _ => ⟨D1,D2,D3,k1,k2,k3,rfl,hc⟩,fun hl => (hS.2.2 hl).up hb⟩)) (fun vx hg => ?_);simp only [sc0,sc1]
 obtain ⟨D1,D2,D3,dk1,dk2,dk3,rfl⟩:=hg
 refine Ae (i:=2) (v:=?_) HT rfl (by kernel_rfl) rfl (kA Aa (kA (Ab rfl rfl) (Ab rfl rfl))) (by rfl) (fun _ _ _ h => h) (fun lx ax wx hS => ?_) ?_;rotate_left;(have hf:=field_mem D1 D2 D3 U.disk.length dk1 U.mem.length dk2 U.log.length dk3 U.safe U.down wx;go_simp;with_reducible rfl);rotate_left;simp only [sc0,sc1]
 refine BL (i:=5) (f:=35) (args:=#[.slice D2 U.mem.length dk2, .slice Am A'.mem.length a2_]) (fun v => v = .bool true) rfl (by kernel_rfl) rfl Tryz.func35 (by kernel_rfl) rfl rfl (by rfl) (by simp only [List.map_toArray,List.map_cons,List.map_nil];rfl) (fun wx hS => (by obtain ⟨E1,E2,E3,j1,j2,j3,e3,hC⟩:=hS.2.1 (by kernel_rfl);obtain ⟨rfl,rfl,rfl,rfl,rfl,rfl⟩:=Eng.val_inj e3;exact (K4 (HUA.out.same HAA.out) (Below.refl _ _) hC.m (bj HS12.out hS.1) HAC.out.m).mono (by rintro x wz ⟨rfl,hb⟩;exact ⟨_,rfl,rfl,bj hS.1 hb,fun hl => (hS.2.1 hl).up hb,fun hl => (hS.2.2 hl).up hb⟩))) (fun vx hg => ?_);simp only [sc0,sc1]
 subst hg
 refine Ae (i:=6) (v:=?_) HT rfl (by kernel_rfl) rfl (kA Aa (kA (Ab rfl rfl) (Ab rfl rfl))) (by rfl) (fun _ _ _ h => h) (fun lx ax wx hS => ?_) ?_;rotate_left;(go_simp;with_reducible rfl);rotate_left;simp only [sc0,sc1]
 refine Ae (i:=7) (v:=?_) HT rfl (by kernel_rfl) rfl (kA Aa (kA (Ab rfl rfl) (Ab rfl rfl))) (by rfl) (fun _ _ _ h => h) (fun lx ax wx hS => ?_) ?_;rotate_left;(have x0:=(HQ8.out.up (bj HK8.out hS.1)).c0;have x1:=(HQ8.out.up (bj HK8.out hS.1)).c1;have x2:=(HQ8.out.up (bj HK8.out hS.1)).c2;have x3:=(HQ8.out.up (bj HK8.out hS.1)).c3;have x4:=(HQ8.out.up (bj HK8.out hS.1)).c4;have y0:=(HQ10.out.up (bj HK10.out hS.1)).c0;have y1:=(HQ10.out.up (bj HK10.out hS.1)).c1;have y2:=(HQ10.out.up (bj HK10.out hS.1)).c2;have y3:=(HQ10.out.up (bj HK10.out hS.1)).c3;have y4:=(HQ10.out.up (bj HK10.out hS.1)).c4;have a0:=(HQ12.out.up hS.1).c0;have a1:=(HQ12.out.up hS.1).c1;have a2:=(HQ12.out.up hS.1).c2;have a3:=(HQ12.out.up hS.1).c3;have a4:=(HQ12.out.up hS.1).c4;go_simp;with_reducible rfl);rotate_left;simp only [sc0,sc1]
 refine Ae (i:=10) (v:=?_) HT rfl (by kernel_rfl) rfl (kA Aa (kA (Ab rfl rfl) (Ab rfl rfl))) (by rfl) (fun _ _ _ h => h) (fun lx ax wx hS => ?_) ?_;rotate_left;(have x0:=(HQ8.out.up (bj HK8.out hS.1)).c0;have x1:=(HQ8.out.up (bj HK8.out hS.1)).c1;have x2:=(HQ8.out.up (bj HK8.out hS.1)).c2;have x3:=(HQ8.out.up (bj HK8.out hS.1)).c3;have x4:=(HQ8.out.up (bj HK8.out hS.1)).c4;have y0:=(HQ10.out.up (bj HK10.out hS.1)).c0;have y1:=(HQ10.out.up (bj HK10.out hS.1)).c1;have y2:=(HQ10.out.up (bj HK10.out hS.1)).c2;have y3:=(HQ10.out.up (bj HK10.out hS.1)).c3;have y4:=(HQ10.out.up (bj HK10.out hS.1)).c4;have a0:=(HQ12.out.up hS.1).c0;have a1:=(HQ12.out.up hS.1).c1;have a2:=(HQ12.out.up hS.1).c2;have a3:=(HQ12.out.up hS.1).c3;have a4:=(HQ12.out.up hS.1).c4;go_simp;with_reducible rfl);rotate_left;simp only [sc0,sc1]
 refine Ae (i:=11) (v:=?_) HT rfl (by kernel_rfl) rfl (kA Aa (kA (Ab rfl rfl) (Ab rfl rfl))) (by rfl) (fun _ _ _ h => h) (fun lx ax wx hS => ?_) ?_;rotate_left;(have x0:=(HQ8.out.up (bj HK8.out hS.1)).c0;have x1:=(HQ8.out.up (bj HK8.out hS.1)).c1;have x2:=(HQ8.out.up (bj HK8.out hS.1)).c2;have x3:=(HQ8.out.up (bj HK8.out hS.1)).c3;have x4:=(HQ8.out.up (bj HK8.out hS.1)).c4;have y0:=(HQ10.out.up (bj HK10.out hS.1)).c0;have y1:=(HQ10.out.up (bj HK10.out hS.1)).c1;have y2:=(HQ10.out.up (bj HK10.out hS.1)).c2;have y3:=(HQ10.out.up (bj HK10.out hS.1)).c3;have y4:=(HQ10.out.up (bj HK10.out hS.1)).c4;have a0:=(HQ12.out.up hS.1).c0;have a1:=(HQ12.out.up hS.1).c1;have a2:=(HQ12.out.up hS.1).c2;have a3:=(HQ12.out.up hS.1).c3;have a4:=(HQ12.out.up hS.1).c4;go_simp;with_reducible rfl);rotate_left;simp only [sc0,sc1]
 refine BL (i:=8) (f:=34) (args:=#[Y.val Yd Ym Yl y1_ y2_ y3_, .int .i64 0]) (fun v => ∃ D1 D2 D3 k1 k2 k3,v = V'.val D1 D2 D3 k1 k2 k3) rfl (by kernel_rfl) rfl Tryz.func34 (by kernel_rfl) rfl rfl (by rfl) (by simp only [List.map_toArray,List.map_cons,List.map_nil];rfl) (fun wx hS => (Je (w0:=w9) 0 HIY.out (by omega) HYL.out (bj HS10.out (bj HK10.out hS.1)) HYC.out).mono (by rw [HV.out];rintro x wz ⟨vd,vm,vl,rfl,ho,hb⟩;obtain ⟨D1,k1,D2,k2,D3,k3,rfl,rfl,rfl, -,hc⟩:=ho.reads;exact ⟨_,rfl,⟨D1,D2,D3,k1,k2,k3,rfl⟩,bj hS.1 hb,fun hl => (hS.2.1 hl).up hb,fun _ => ⟨D1,D2,D3,k1,k2,k3,rfl,hc⟩⟩)) (fun vx hg => ?_);simp only [sc0,sc1]
 obtain ⟨F1,F2,F3,fk1,fk2,fk3,rfl⟩:=hg
 refine Ae (i:=9) (v:=?_) HT rfl (by kernel_rfl) rfl (kA Aa (kA (Ab rfl rfl) (Ab rfl rfl))) (by rfl) (fun _ _ _ h => h) (fun lx ax wx hS => ?_) ?_;rotate_left;(have hf:=field_mem F1 F2 F3 V'.disk.length fk1 V'.mem.length fk2 V'.log.length fk3 V'.safe V'.down wx;go_simp;with_reducible rfl);rotate_left;simp only [sc0,sc1]
 refine BL (i:=12) (f:=35) (args:=#[.slice F2 V'.mem.length fk2, .slice Am A'.mem.length a2_]) (fun v => v = .bool true) rfl (by kernel_rfl) rfl Tryz.func35 (by kernel_rfl) rfl rfl (by rfl) (by simp only [List.map_toArray,List.map_cons,List.map_nil];rfl) (fun wx hS => (by obtain ⟨E1,E2,E3,j1,j2,j3,e3,hC⟩:=hS.2.2 (by kernel_rfl);obtain ⟨rfl,rfl,rfl,rfl,rfl,rfl⟩:=Eng.val_inj e3;exact (K4 (HVA.out.same HAA.out) (Below.refl _ _) hC.m (bj HS12.out hS.1) HAC.out.m).mono (by rintro x wz ⟨rfl,hb⟩;exact ⟨_,rfl,rfl,bj hS.1 hb,fun hl => (hS.2.1 hl).up hb,fun hl => (hS.2.2 hl).up hb⟩))) (fun vx hg => ?_);simp only [sc0,sc1]
 subst hg
 refine Ae (i:=13) (v:=?_) HT rfl (by kernel_rfl) rfl (kA Aa (kA (Ab rfl rfl) (Ab rfl rfl))) (by rfl) (fun _ _ _ h => h) (fun lx ax wx hS => ?_) ?_;rotate_left;(go_simp;with_reducible rfl);rotate_left;simp only [sc0,sc1]
 refine Ae (i:=14) (v:=?_) HT rfl (by kernel_rfl) rfl (kA Aa (kA (Ab rfl rfl) (Ab rfl rfl))) (by rfl) (fun _ _ _ h => h) (fun lx ax wx hS => ?_) ?_;rotate_left;(go_simp;with_reducible rfl);rotate_left;simp only [sc0,sc1]
 refine DL (by kernel_rfl) (fun wx hS => ?_)
 have HZ:=As (bj HG11.out (bj HS12.out hS.1))
 clear hS
 go_wp2
 go_ret
 exact ⟨rfl,bj HB1.out (bj HB3.out HZ.out)⟩
open Go.RowKit Go.Proofs.YtklmhkglcfjclaaGreatW.PrintWords Go.Proofs.YtklmhkglcfjclaaGreatW.PrintLast Go.Proofs.YtklmhkglcfjclaaGreatW.PrintMore Go.ChangeShapes Go.WideShapes Go.Deep
theorem BS {H : Type} {enc : TypeId × Value → H} {w : World} {held : Bool} {fuel : Nat} {cs : List Value} {y : DataW H × List MemPlace} (h : DataW.trod enc Tryz.prog w 0 (fun _ => true) held fuel 37 cs = some y) : ∃ xs A c,cs = [.slice A (List.length xs) c] ∧ xs.length ≤ c ∧ (Kd.int .u8).C w A xs.length xs ∧ Bytes xs:=by
 obtain ⟨xs,A,c,he,hcl,hr⟩:=E9 (d:=Kd.int .u8) Tryz.underlying37 (by kernel_rfl) (FB Tryz.underlying5) _ _ _ h
 refine ⟨xs,A,c,he,hcl,hr,fun b hb => ?_⟩
 obtain ⟨i,hi,rfl⟩:=List.getElem_of_mem hb
 obtain ⟨ad,ha,hc⟩:=Kb hr i hi
 rcases open_ints Tryz.underlying37 Tryz.underlying5 (by kernel_rfl) h with ⟨hcs,_⟩ | ⟨x,l,c',zs,hcs,_,hl,hm,hz,_,hcell,hwz⟩
 ·rw [he,ha] at hcs
  simp at hcs
 ·rw [he,ha] at hcs
  simp only [List.cons.injEq,Value.slice.injEq,Option.some.injEq,and_true] at hcs
  obtain ⟨rfl,h2,rfl⟩:=hcs
  rw [if_pos rfl] at hz
  have h3:=hcell i (by omega)
  rw [hc] at h3
  have h4 : iv xs i = zs.getD i 0:=by simpa using h3
  have h5:=range_u8 hwz i
  have e : iv xs i = xs[i]:=by simp [iv,List.getD_eq_getElem?_getD,hi]
  rw [← e,h4,List.getD_eq_getElem?_getD]
  exact h5
end Go.Proofs.YtklmhkglcfjclaaGreat
namespace Go.Proofs.YtklmhkglcfjclaaGreat.fnPlayWrite
open Go.ChangeShapes Go.WideShapes Go.ChangeAt Go.RowKit Go.Proofs.YtklmhkglcfjclaaGreat
theorem own : ownKnob Tryz.prog.godebug = none:=by kernel_rfl
theorem laidOut : laidOutB Tryz.prog = true:=by kernel_rfl
set_option maxRecDepth 100000 in
theorem lifted (os : Os) (started : os.Started) (H : Type) (enc : TypeId × Value → H) :
  ReturnsInHanded {} Tryz.checked os 11 .any (Rows.fnPlayWriteSpec.pre6 enc Tryz.prog Tryz.f11 Rows.fnPlayWriteRow.domain false) (Rows.fnPlayWriteSpec.post enc Tryz.prog Tryz.f11 false true false false):=by
 refine returnsInHanded_of_change_sized (C:=Tryz.checked) own started (by kernel_rfl) Tryz.func11
  (ChangeSpec.witness6 (enc:=enc) (C:=Tryz.checked) false ⟨#[],#[.slice none 0 0, .slice none 0 0], []⟩ 8 (by kernel_rfl) (by kernel_rfl) (by kernel_rfl) (by kernel_rfl)) ?_
 intro W base args ds gs before hval0 hW hcnd hsz0 _
 have hval : ∀ (j : Nat) t v,Tryz.f11.params[j]? = some t → args[j]? = some v → Value.okWide Tryz.prog W .any base t v:=hval0
 have hW':=hW
 obtain ⟨p,q,hA0,hV,rfl,hfz,hnd⟩:=hW
 have hA : DataW.TrodAll enc Tryz.prog W 0 (fun _ => true) true Tryz.f11.params.toList args.toList ds p:=hA0
 rw [Tryz.params11] at hA hval
 obtain ⟨v0,vs0,d0,ds0,p0,q0,hargs,rfl,rfl,h0,r0⟩:=trodAll_cons hA
 obtain ⟨v1,vs1,d1,ds1,p1,q1,rfl,rfl,rfl,h1,r1⟩:=trodAll_cons r0
 obtain ⟨rfl,rfl,rfl⟩:=trodAll_nil r1
 obtain rfl : args = #[v0,v1]:=by cases args;simp_all
 obtain ⟨rfl,rfl⟩:=trodVars_none hV
 have k0:=h0
 have lt0 : ∀ x ∈ p0,x.block < W.heap.size:=by obtain ⟨m,hm⟩:=k0;exact DataW.trod_lt m _ _ _ hm
 obtain ⟨a0,len0,cap0,rfl⟩:=okWide_slice Tryz.underlying37 (hval 0 37 v0 rfl rfl)
 obtain ⟨fuel0,hf0⟩:=h0
 obtain ⟨xs0,A0,c0,he0,hcl0,hr0,hby0⟩:=BS hf0
 obtain ⟨rfl,rfl,rfl⟩ : a0 = A0 ∧ len0 = xs0.length ∧ cap0 = c0:=by simpa [Value.cells] using he0
 have k1:=h1
 have lt1 : ∀ x ∈ p1,x.block < W.heap.size:=by obtain ⟨m,hm⟩:=k1;exact DataW.trod_lt m _ _ _ hm
 obtain ⟨a1,NF,cap1,rfl⟩:=okWide_slice Tryz.underlying37 (hval 1 37 v1 rfl rfl)
 obtain ⟨fuel1,hf1⟩:=h1
 obtain ⟨xs1,A1,c1,he1,hcl1,hr1,hby1⟩:=BS hf1
 obtain ⟨rfl,rfl,rfl⟩ : a1 = A1 ∧ NF = xs1.length ∧ cap1 = c1:=by simpa [Value.cells] using he1
 clear hA0 hval0 hsz0 hval hA
 refine (Mi hcl0 hby0 hr0 (Co hr1).2).mono fun e1 W' ⟨he1,bel⟩ => ?_
 subst he1
 exact ⟨_,rfl,_,_,_, [],_, [],hW',trodAll_mk1 (shut_bool Tryz.underlying4 _),(trodAll_cons_mk (Below.trod laidOut (by kernel_rfl) (of_decide_eq_true (by kernel_rfl)) k0 bel lt0) (trodAll_cons_mk (Below.trod laidOut (by kernel_rfl) (of_decide_eq_true (by kernel_rfl)) k1 bel lt1) trodAll_mk0)),rfl,bel.frame _,fun h => by cases h⟩
theorem k24b : (Rows.fnPlayWriteRow.lifted == Tryz.pinned.checked.prog.liftsFinal) = true:=by
 rw [show Tryz.pinned.checked.prog.liftsFinal = false from Ea]
 rfl
theorem k24c : (Tryz.pinned.checked.prog.make == some Rows.fnPlayWriteRow.make) = true:=by
 rw [show Tryz.pinned.checked.prog.make = some Make.cut from Gs]
 rfl
set_option maxRecDepth 100000 in
set_option maxHeartbeats 8000000 in
theorem closed : joinedFacts Tryz.pinned.checked.prog 11 Tryz.f11 Rows.fnPlayWriteSpec Rows.fnPlayWriteRow = true:=by
 simp only [joinedFacts,Bool.and_eq_true]
 exact ⟨⟨⟨⟨⟨⟨⟨⟨⟨⟨⟨⟨⟨⟨⟨⟨⟨⟨⟨⟨⟨⟨⟨⟨⟨⟨⟨⟨⟨⟨⟨(by as_aux_lemma => kernel_rfl),(by as_aux_lemma => kernel_rfl)⟩,(by as_aux_lemma => kernel_rfl)⟩,(by as_aux_lemma => kernel_rfl)⟩,(by as_aux_lemma => kernel_rfl)⟩,(by as_aux_lemma => kernel_rfl)⟩,(by as_aux_lemma => kernel_rfl)⟩,(by as_aux_lemma => kernel_rfl)⟩,(by as_aux_lemma => kernel_rfl)⟩,(by as_aux_lemma => kernel_rfl)⟩,(by as_aux_lemma => kernel_rfl)⟩,(by as_aux_lemma => kernel_rfl)⟩,(by as_aux_lemma => kernel_rfl)⟩,(by as_aux_lemma => kernel_rfl)⟩,(by as_aux_lemma => kernel_rfl)⟩,(by as_aux_lemma => kernel_rfl)⟩,(by as_aux_lemma => kernel_rfl)⟩,(by as_aux_lemma => kernel_rfl)⟩,(by as_aux_lemma => kernel_rfl)⟩,(by as_aux_lemma => kernel_rfl)⟩,(by as_aux_lemma => kernel_rfl)⟩,(by as_aux_lemma => kernel_rfl)⟩,(by as_aux_lemma => kernel_rfl)⟩,(by as_aux_lemma => kernel_rfl)⟩,(by as_aux_lemma => kernel_rfl)⟩,FD⟩,k24b⟩,k24c⟩,(by as_aux_lemma => kernel_rfl)⟩,(by as_aux_lemma => kernel_rfl)⟩,(by as_aux_lemma => kernel_rfl)⟩,(by as_aux_lemma => kernel_rfl)⟩
theorem over : Rows.fnPlayWriteRow.holds Tryz.pinned (OpenSpec.ofChange Rows.fnPlayWriteSpec):=
 OpenClaim.holds_of_wide 11 Tryz.f11 rfl rfl rfl rfl rfl rfl rfl ⟨rfl,rfl,rfl,rfl,rfl⟩ rfl rfl rfl rfl rfl (by kernel_rfl) Tryz.func11 closed
  (of_decide_eq_true (by kernel_rfl)) (by unfold Func.isWrapper;first | (rw [if_pos (by decide +kernel)];kernel_rfl) | (rw [if_neg (by decide +kernel)];exact ⟨rfl,rfl⟩))
  (fun os started H enc _ => lifted os started H enc)
theorem proved : Rows.FnPlayWriteSaid:=over
end Go.Proofs.YtklmhkglcfjclaaGreat.fnPlayWrite
namespace Go.Proofs.YtklmhkglcfjclaaGreat
theorem fnPlayWrite_holds : Rows.FnPlayWriteSaid:=fnPlayWrite.proved
end Go.Proofs.YtklmhkglcfjclaaGreat
