/- Proved here: for all bytes that are handed in, laws.FnPlaySum returns true (what is put is counted: behind a drawn play a value put into a slot that had none is one value more, and that much more in the sum). Conditions: none beyond those that the given statement itself bears. -/
import Derived.Test.YtofgeajaajfiaaaGreatZF1
import Derived.Test.YtofgeajaajfiaaaGreatZA1
import Derived.Test.YtofgeajaajfiaaaGreatZV2
import Derived.WalkKit
import Derived.ProofKit
import Derived.OpenShut
import Derived.ShutString
import Derived.ChangeOld
import Derived.Below
import Derived.SizedLaws
set_option linter.unusedVariables false
set_option linter.unusedSimpArgs false
namespace Go.Proofs.YtofgeajaajfiaaaGreat
open Go.RowKit Go.Proofs.YtofgeajaajfiaaaGreatW.PrintWords Go.Proofs.YtofgeajaajfiaaaGreatW.PrintLast Go.Proofs.YtofgeajaajfiaaaGreatW.PrintMore
set_option maxRecDepth 100000 in
set_option maxHeartbeats 16000000 in
theorem FnPlaySum_calls {w : World} {A : Option Addr} {c : Nat} {xs : List Int} {B : Option Addr} {d : Nat} {ys : List Int} (hcap : xs.length ≤ c) (hx : Bytes xs) (hr : Kd.C (Kd.int .u8) w A xs.length xs) (hy : ys.length ≤ 9223372036854775807) : Calls Tryz.prog 6 #[.slice A xs.length c, .slice B ys.length d] w (JV w):=by
 have HR:=As hr
 have HCAP:=As hcap
 have HBY:=As hx
 have hmx:=(Cg hr).2
 have H2 : True:=trivial
 have H3 : True:=trivial
 have H5 : True:=trivial
 clear hcap hx hr
 rcases lts 1048576 (xs.length : Int) with ⟨e1,b1,c1⟩ | ⟨e1,b1,c1⟩
 ·go_enter Tryz.func6,Tryz.ntmps6
  go_wp2
  go_ret
  exact ⟨rfl,Below.refl _ _⟩
 rcases lts 1048576 (ys.length : Int) with ⟨e2,b2,c2⟩ | ⟨e2,b2,c2⟩
 ·go_enter Tryz.func6,Tryz.ntmps6
  go_wp2
  go_ret
  exact ⟨rfl,Below.refl _ _⟩
 go_enter Tryz.func6,Tryz.ntmps6
 go_wp2_with (go_at_call 13;refine (EI HCAP.out HBY.out (Below.refl w.heap.size w) HR.out).mono ?_;rintro x w1 ⟨V,vs,rfl,hV,hlen,hb1⟩;obtain ⟨V1,v1_,rfl,hcv,hc⟩:=Kd.BI hV;have HVC:=As hc;have HCV:=As hcv;have HLN:=As hlen;have HB1:=As hb1;clear hV hcv hc hlen hb1)
 obtain ⟨E,bb,hE⟩ : ∃ E bb,Kl vs = (E,bb):=⟨_,_,rfl⟩
 have HE:=As hE
 clear hE
 have K0 : True:=trivial
 cases bb
 ·go_wp2_with (first | (clear K0;clear H2;go_at_call 14;refine (Cy (c:=v1_) (Below.refl w1.heap.size w1) HVC.out).mono ?_;rw [HE.out];rintro x w2 ⟨vd,vm,vl,rfl,ho,hb2⟩;obtain ⟨Gd,g1_,Gm,g2_,Gl,g3_,rfl,rfl,rfl,hgcl,hc⟩:=ho.reads;have HG2:=As hc;have HGL:=As hgcl;have HB2:=As hb2;clear ho hb2 hc hgcl;have K1 : True:=trivial) | (clear K1;clear H3;refine Ag (vd:=.slice Gd E.disk.length g1_) (vm:=.slice Gm E.mem.length g2_) (vl:=.slice Gl E.log.length g3_) E ?_;intro w3 hb3 hz3 hq3;have HG3:=As (HG2.out.up hb3);have HQ3:=As hq3;have HB3:=As (bj HB2.out hb3);clear hb3 hz3 hq3;have K2 : True:=trivial) | (clear K2;go_at_call 15;refine (Cq (c:=v1_) HB3.out HVC.out).mono ?_;rw [HE.out];rintro x w4 ⟨vd,vm,vl,rfl,ho,hb4⟩;obtain ⟨Jd,j1_,Jm,j2_,Jl,j3_,rfl,rfl,rfl, -,hc⟩:=ho.reads;have HJ4:=As hc;have HB4:=As hb4;clear ho hb4 hc;have K3 : True:=trivial) | (clear K3;clear H5;refine Ag (vd:=.slice Jd E.disk.length j1_) (vm:=.slice Jm E.mem.length j2_) (vl:=.slice Jl E.log.length j3_) E ?_;intro w5 hb5 hz5 hq5;have HJ5:=As (HJ4.out.up hb5);have HQ5:=As hq5;have HT5:=As (bj HB4.out hb5);have HN5:=As (Below.refl w5.heap.size w5);clear hb5 hz5 hq5;have g0:=(HQ3.out.up HT5.out).c0;have g1:=(HQ3.out.up HT5.out).c1;have g2:=(HQ3.out.up HT5.out).c2;have g3:=(HQ3.out.up HT5.out).c3;have g4:=(HQ3.out.up HT5.out).c4;have s0:=(HQ5.out).c0;have s1:=(HQ5.out).c1;have s2:=(HQ5.out).c2;have s3:=(HQ5.out).c3;have s4:=(HQ5.out).c4;have K4 : True:=trivial) | (clear K4;go_at_call 16;refine (Cm (cd:=g1_) (cm:=g2_) (cl:=g3_) (dd:=j1_) (dm:=j2_) (dl:=j3_) (bj HT5.out HN5.out) HG3.out HN5.out HJ5.out).mono ?_;rintro x w6 ⟨rfl,hb6⟩;have HN6:=As (bj HN5.out hb6);clear HN5 hb6;clear g0 g1 g2 g3 g4 s0 s1 s2 s3 s4;have HN5:=HN6;clear HN6;have g0:=(HQ3.out.up (bj HT5.out HN5.out)).c0;have g1:=(HQ3.out.up (bj HT5.out HN5.out)).c1;have g2:=(HQ3.out.up (bj HT5.out HN5.out)).c2;have g3:=(HQ3.out.up (bj HT5.out HN5.out)).c3;have g4:=(HQ3.out.up (bj HT5.out HN5.out)).c4;have s0:=(HQ5.out.up HN5.out).c0;have s1:=(HQ5.out.up HN5.out).c1;have s2:=(HQ5.out.up HN5.out).c2;have s3:=(HQ5.out.up HN5.out).c3;have s4:=(HQ5.out.up HN5.out).c4;have K5 : True:=trivial) | (clear K5;go_at_call 16;refine (Cm (cd:=g1_) (cm:=g2_) (cl:=g3_) (dd:=j1_) (dm:=j2_) (dl:=j3_) (bj HT5.out HN5.out) HG3.out HN5.out HJ5.out).mono ?_;rintro x w6 ⟨rfl,hb6⟩;have HN6:=As (bj HN5.out hb6);clear HN5 hb6;clear g0 g1 g2 g3 g4 s0 s1 s2 s3 s4;have HN5:=HN6;clear HN6;have g0:=(HQ3.out.up (bj HT5.out HN5.out)).c0;have g1:=(HQ3.out.up (bj HT5.out HN5.out)).c1;have g2:=(HQ3.out.up (bj HT5.out HN5.out)).c2;have g3:=(HQ3.out.up (bj HT5.out HN5.out)).c3;have g4:=(HQ3.out.up (bj HT5.out HN5.out)).c4;have s0:=(HQ5.out.up HN5.out).c0;have s1:=(HQ5.out.up HN5.out).c1;have s2:=(HQ5.out.up HN5.out).c2;have s3:=(HQ5.out.up HN5.out).c3;have s4:=(HQ5.out.up HN5.out).c4;have K6 : True:=trivial))
  go_ret
  exact ⟨rfl,bj HB1.out (bj HB3.out (bj HT5.out HN5.out))⟩
 have HRUN:=As (OJ HE.out)
 have HINV : Aa (∃ C,Inv E C (3 * 40)):=⟨by rw [HRUN.out.2];exact inv_all vs HRUN.out.1⟩
 obtain ⟨C,hI⟩:=HINV.out
 have HI:=As hI
 have HM5:=As hI.mlen
 have HPK:=As (Cv.1 hI.FT).2
 clear hI
 obtain ⟨m,hm⟩ : ∃ m : Nat,(ys.length : Int) % 3 = m:=⟨ys.length % 3,by push_cast;rfl⟩
 have hm3 : m < 3:=by omega
 cases hd : E.down
 ·have HD:=As hd
  clear hd
  go_wp2_with (first | (clear K0;clear H2;go_at_call 14;refine (Cy (c:=v1_) (Below.refl w1.heap.size w1) HVC.out).mono ?_;rw [HE.out];rintro x w2 ⟨vd,vm,vl,rfl,ho,hb2⟩;obtain ⟨Gd,g1_,Gm,g2_,Gl,g3_,rfl,rfl,rfl,hgcl,hc⟩:=ho.reads;have HG2:=As hc;have HGL:=As hgcl;have HB2:=As hb2;clear ho hb2 hc hgcl;have K1 : True:=trivial) | (clear K1;clear H3;refine Ag (vd:=.slice Gd E.disk.length g1_) (vm:=.slice Gm E.mem.length g2_) (vl:=.slice Gl E.log.length g3_) E ?_;intro w3 hb3 hz3 hq3;have HG3:=As (HG2.out.up hb3);have HQ3:=As hq3;have HB3:=As (bj HB2.out hb3);clear hb3 hz3 hq3;have K2 : True:=trivial) | (clear K2;go_at_call 15;refine (Cq (c:=v1_) HB3.out HVC.out).mono ?_;rw [HE.out];rintro x w4 ⟨vd,vm,vl,rfl,ho,hb4⟩;obtain ⟨Jd,j1_,Jm,j2_,Jl,j3_,rfl,rfl,rfl, -,hc⟩:=ho.reads;have HJ4:=As hc;have HB4:=As hb4;clear ho hb4 hc;have K3 : True:=trivial) | (clear K3;clear H5;refine Ag (vd:=.slice Jd E.disk.length j1_) (vm:=.slice Jm E.mem.length j2_) (vl:=.slice Jl E.log.length j3_) E ?_;intro w5 hb5 hz5 hq5;have HJ5:=As (HJ4.out.up hb5);have HQ5:=As hq5;have HT5:=As (bj HB4.out hb5);have HN5:=As (Below.refl w5.heap.size w5);clear hb5 hz5 hq5;have g0:=(HQ3.out.up HT5.out).c0;have g1:=(HQ3.out.up HT5.out).c1;have g2:=(HQ3.out.up HT5.out).c2;have g3:=(HQ3.out.up HT5.out).c3;have g4:=(HQ3.out.up HT5.out).c4;have s0:=(HQ5.out).c0;have s1:=(HQ5.out).c1;have s2:=(HQ5.out).c2;have s3:=(HQ5.out).c3;have s4:=(HQ5.out).c4;have K4 : True:=trivial) | (clear K4;go_at_call 16;refine (Cm (cd:=g1_) (cm:=g2_) (cl:=g3_) (dd:=j1_) (dm:=j2_) (dl:=j3_) (bj HT5.out HN5.out) HG3.out HN5.out HJ5.out).mono ?_;rintro x w6 ⟨rfl,hb6⟩;have HN6:=As (bj HN5.out hb6);clear HN5 hb6;clear g0 g1 g2 g3 g4 s0 s1 s2 s3 s4;have HN5:=HN6;clear HN6;have g0:=(HQ3.out.up (bj HT5.out HN5.out)).c0;have g1:=(HQ3.out.up (bj HT5.out HN5.out)).c1;have g2:=(HQ3.out.up (bj HT5.out HN5.out)).c2;have g3:=(HQ3.out.up (bj HT5.out HN5.out)).c3;have g4:=(HQ3.out.up (bj HT5.out HN5.out)).c4;have s0:=(HQ5.out.up HN5.out).c0;have s1:=(HQ5.out.up HN5.out).c1;have s2:=(HQ5.out.up HN5.out).c2;have s3:=(HQ5.out.up HN5.out).c3;have s4:=(HQ5.out.up HN5.out).c4;have K5 : True:=trivial))
  clear g0 g1 g2 g3 g4 s0 s1 s2 s3 s4
  have HG6:=As (bj HT5.out HN5.out)
  go_loopw [10] (fun i wr => ∃ k : Nat,k ≤ 5 ∧ i = .int .i64 (k : Int) ∧ Aa (Below w3.heap.size w3 wr)) (fun i _ => (5 - intOf i).toNat)
  case atStart => exact ⟨0,by decide,rfl,HG6⟩
  case round =>
   obtain ⟨k,hk,rfl,HW⟩:=hrel
   have g0:=(HQ3.out.up HW.out).c0
   have g1:=(HQ3.out.up HW.out).c1
   have g2:=(HQ3.out.up HW.out).c2
   have g3:=(HQ3.out.up HW.out).c3
   have g4:=(HQ3.out.up HW.out).c4
   rw [HD.out] at g4
   by_cases hlt : k < 5
   rotate_left
   ·have hki : ¬ (k : Int) < 5:=by omega
    go_wp2
    go_ret
    exact ⟨rfl,bj HB1.out (bj HB3.out HW.out)⟩
   have hki : (k : Int) < 5:=by omega
   have hkm : (k : Int) < (E.mem.length : Int):=by rw [HM5.out];omega
   have hce:=HG3.out.up HW.out
   have HCE:=As hce
   obtain ⟨ad,A2,c2,rfl,QP, -,hv⟩:=Di hce.m k (by rw [HM5.out];exact hlt)
   obtain ⟨m0,m1,m2⟩:=QP
   have hpk:=HPK.out k hlt
   have hl3:=(Cj.1 hpk).2.2.2.2.1
   have hor:=(Cj.1 hpk).2.2
   have HL3:=As hl3
   obtain ⟨vd,rfl,u0⟩:=Dj hv m (by rw [hl3];exact hm3)
   have hml : (m : Int) < ((pg E.mem k).vals.length : Int):=by rw [hl3];omega
   clear hce hv hpk hl3
   rcases BQ (pg E.mem k).owner 0 with ⟨e3,b3,c3⟩ | ⟨e3,b3,c3⟩
   ·clear hor
    go_wp2
    go_roundw
    case rel => exact ⟨k + 1,by omega,by go_num,HW⟩
    case measure => simp [intOf];omega
   rcases BQ (iv (pg E.mem k).vals m) 0 with ⟨e4,b4,c4⟩ | ⟨e4,b4,c4⟩
   rotate_left
   ·clear hor
    go_wp2
    go_roundw
    case rel => exact ⟨k + 1,by omega,by go_num,HW⟩
    case measure => simp [intOf];omega
   have hown : 1 ≤ (pg E.mem k).owner ∧ (pg E.mem k).owner ≤ 3:=by have:=e3.out;omega
   have HOWN:=As hown
   have HINP:=As (show inB (k : Int) 0 4 = true from DK.2 ⟨by omega,by omega⟩)
   obtain ⟨L,hL⟩ : ∃ L,lk E.log (k : Int) = L:=⟨_,rfl⟩
   have HL:=As hL
   obtain ⟨tx,htx⟩ : ∃ tx : Int,max L 1 = tx:=⟨_,rfl⟩
   obtain ⟨X,r,hX⟩ : ∃ X r,Ko E tx (k : Int) (m : Int) 6 = (X,r):=⟨_,_,rfl⟩
   have HIX : Aa (∃ B,Inv X C B):=⟨by have h:=HI.out.change (by omega) (HI.out.Vi (by omega) (tx:=tx) (page:=(k : Int)) (slot:=(m : Int)) (val:=6));have e:=congrArg Prod.fst hX;rw [← show (Ko E tx (k : Int) (m : Int) 6).1 = X from e];exact ⟨_,h⟩⟩
   have HX:=As hX
   have HSUM : Aa (r = true → cP X.mem (pg E.mem k).owner 5 = cP E.mem (pg E.mem k).owner 5 + 1 ∧ sP X.mem (pg E.mem k).owner 5 = sP E.mem (pg E.mem k).owner 5 + 6):=⟨fun hr => put_sums HI.out hlt hm3 e4.out (by rw [hX,hr])⟩
   obtain ⟨ow,how⟩ : ∃ ow,(pg E.mem k).owner = ow:=⟨_,rfl⟩
   rw [how] at m1 HOWN HSUM b3 c3
   have r1:=cP_range E.mem ow 5
   have r2:=sP_range HPK.out ow 5 (by decide)
   have hw1 : IntKind.i64.wrap (cP E.mem ow 5 + 1) = cP E.mem ow 5 + 1:=by simp (disch:=omega) only [IntWalk.i64_in]
   have hw2 : IntKind.i64.wrap (sP E.mem ow 5 + 6) = sP E.mem ow 5 + 6:=by simp (disch:=omega) only [IntWalk.i64_in]
   clear hown hor hL hX how r1 r2
   have L0 : True:=trivial
   cases r
   ·skip
    go_wp2_with (first | (clear L0;go_at_call 28;refine (TS (VO (cd:=g1_) (cm:=g2_) (cl:=g3_) (k : Int) HI.out.ok HINP.out HGL.out HW.out HG3.out) (by simp only [Eng.val,Eng.ag,Evt.val,HD.out,List.length_nil])).mono ?_;rw [HL.out];rintro x w8 ⟨rfl,hb8⟩;have HW8:=As (bj HW.out hb8);have HT8:=As hb8;clear hb8 g0 g1 g2 g3 g4;have g0:=(HQ3.out.up HW8.out).c0;have g1:=(HQ3.out.up HW8.out).c1;have g2:=(HQ3.out.up HW8.out).c2;have g3:=(HQ3.out.up HW8.out).c3;have g4:=(HQ3.out.up HW8.out).c4;replace m1:=bc HT8.out m1;clear m0 m2 u0;have L1 : True:=trivial) | (clear L1;go_at_call 26;refine (JX (w0:=w8) (cd:=g1_) (cm:=g2_) (cl:=g3_) tx (k : Int) (m : Int) 6 HI.out (by omega) HGL.out (Below.refl _ _) (HG3.out.up HW8.out)).mono ?_;rw [HX.out];rintro x w9 ⟨ud,um,ul,rfl,ho,hb5⟩;obtain ⟨Fd,f1_,Fm,f2_,Fl,f3_,rfl,rfl,rfl,hcl,hc⟩:=ho.reads;have HFC:=As hc;have HFL:=As hcl;have HT9:=As hb5;clear ho hb5 hcl hc g0 g1 g2 g3 g4 m1;have L2 : True:=trivial) | (clear L2;refine Ag (vd:=.slice Fd X.disk.length f1_) (vm:=.slice Fm X.mem.length f2_) (vl:=.slice Fl X.log.length f3_) X ?_;intro w10 hb8 hz8 hq8;have HQ10:=As hq8;have HT10:=As hb8;have HW10:=As (bj HW8.out (bj HT9.out hb8));clear hb8 hz8 hq8;have g0:=(HQ3.out.up HW10.out).c0;have g1:=(HQ3.out.up HW10.out).c1;have g2:=(HQ3.out.up HW10.out).c2;have g3:=(HQ3.out.up HW10.out).c3;have g4:=(HQ3.out.up HW10.out).c4;have L3 : True:=trivial) | (clear L3;go_at_call 29;refine (EngineSum_calls (w0:=w10) (cd:=g1_) (cm:=g2_) (cl:=g3_) ow HI.out HOWN.out.1 HOWN.out.2 HGL.out (Below.refl _ _) (HG3.out.up HW10.out)).mono ?_;rintro x w11 ⟨rfl,hb9⟩;have HT11:=As hb9;clear hb9 g0 g1 g2 g3 g4;have x0:=(HQ10.out.up HT11.out).c0;have x1:=(HQ10.out.up HT11.out).c1;have x2:=(HQ10.out.up HT11.out).c2;have x3:=(HQ10.out.up HT11.out).c3;have x4:=(HQ10.out.up HT11.out).c4;have L4 : True:=trivial) | (clear L4;go_at_call 29;obtain ⟨B',hix⟩:=HIX.out;refine (EngineSum_calls (w0:=w10) (cd:=f1_) (cm:=f2_) (cl:=f3_) ow hix HOWN.out.1 HOWN.out.2 HFL.out HT11.out (HFC.out.up HT10.out)).mono ?_;rintro x w12 ⟨rfl,hb9⟩;have HW12:=As (bj HW10.out (bj HT11.out hb9));clear hb9 hix x0 x1 x2 x3 x4;have L5 : True:=trivial))
    go_roundw
    case rel => exact ⟨k + 1,by omega,by go_num,HW12⟩
    case measure => simp [intOf];omega
   ·have hs:=HSUM.out rfl
    have hs1 : (cP X.mem ow 5 != cP E.mem ow 5 + 1) = false:=by rw [hs.1];simp
    have hs2 : (sP X.mem ow 5 != sP E.mem ow 5 + 6) = false:=by rw [hs.2];simp
    clear hs
    go_wp2_with (first | (clear L0;go_at_call 28;refine (TS (VO (cd:=g1_) (cm:=g2_) (cl:=g3_) (k : Int) HI.out.ok HINP.out HGL.out HW.out HG3.out) (by simp only [Eng.val,Eng.ag,Evt.val,HD.out,List.length_nil])).mono ?_;rw [HL.out];rintro x w8 ⟨rfl,hb8⟩;have HW8:=As (bj HW.out hb8);have HT8:=As hb8;clear hb8 g0 g1 g2 g3 g4;have g0:=(HQ3.out.up HW8.out).c0;have g1:=(HQ3.out.up HW8.out).c1;have g2:=(HQ3.out.up HW8.out).c2;have g3:=(HQ3.out.up HW8.out).c3;have g4:=(HQ3.out.up HW8.out).c4;replace m1:=bc HT8.out m1;clear m0 m2 u0;have L1 : True:=trivial) | (clear L1;go_at_call 26;refine (JX (w0:=w8) (cd:=g1_) (cm:=g2_) (cl:=g3_) tx (k : Int) (m : Int) 6 HI.out (by omega) HGL.out (Below.refl _ _) (HG3.out.up HW8.out)).mono ?_;rw [HX.out];rintro x w9 ⟨ud,um,ul,rfl,ho,hb5⟩;obtain ⟨Fd,f1_,Fm,f2_,Fl,f3_,rfl,rfl,rfl,hcl,hc⟩:=ho.reads;have HFC:=As hc;have HFL:=As hcl;have HT9:=As hb5;clear ho hb5 hcl hc g0 g1 g2 g3 g4 m1;have L2 : True:=trivial) | (clear L2;refine Ag (vd:=.slice Fd X.disk.length f1_) (vm:=.slice Fm X.mem.length f2_) (vl:=.slice Fl X.log.length f3_) X ?_;intro w10 hb8 hz8 hq8;have HQ10:=As hq8;have HT10:=As hb8;have HW10:=As (bj HW8.out (bj HT9.out hb8));clear hb8 hz8 hq8;have g0:=(HQ3.out.up HW10.out).c0;have g1:=(HQ3.out.up HW10.out).c1;have g2:=(HQ3.out.up HW10.out).c2;have g3:=(HQ3.out.up HW10.out).c3;have g4:=(HQ3.out.up HW10.out).c4;have L3 : True:=trivial) | (clear L3;go_at_call 29;refine (EngineSum_calls (w0:=w10) (cd:=g1_) (cm:=g2_) (cl:=g3_) ow HI.out HOWN.out.1 HOWN.out.2 HGL.out (Below.refl _ _) (HG3.out.up HW10.out)).mono ?_;rintro x w11 ⟨rfl,hb9⟩;have HT11:=As hb9;clear hb9 g0 g1 g2 g3 g4;have x0:=(HQ10.out.up HT11.out).c0;have x1:=(HQ10.out.up HT11.out).c1;have x2:=(HQ10.out.up HT11.out).c2;have x3:=(HQ10.out.up HT11.out).c3;have x4:=(HQ10.out.up HT11.out).c4;have L4 : True:=trivial) | (clear L4;go_at_call 29;obtain ⟨B',hix⟩:=HIX.out;refine (EngineSum_calls (w0:=w10) (cd:=f1_) (cm:=f2_) (cl:=f3_) ow hix HOWN.out.1 HOWN.out.2 HFL.out HT11.out (HFC.out.up HT10.out)).mono ?_;rintro x w12 ⟨rfl,hb9⟩;have HW12:=As (bj HW10.out (bj HT11.out hb9));clear hb9 hix x0 x1 x2 x3 x4;have L5 : True:=trivial))
    go_roundw
    case rel => exact ⟨k + 1,by omega,by go_num,HW12⟩
    case measure => simp [intOf];omega
 ·have HD:=As hd
  clear hd
  go_wp2_with (first | (clear K0;clear H2;go_at_call 14;refine (Cy (c:=v1_) (Below.refl w1.heap.size w1) HVC.out).mono ?_;rw [HE.out];rintro x w2 ⟨vd,vm,vl,rfl,ho,hb2⟩;obtain ⟨Gd,g1_,Gm,g2_,Gl,g3_,rfl,rfl,rfl,hgcl,hc⟩:=ho.reads;have HG2:=As hc;have HGL:=As hgcl;have HB2:=As hb2;clear ho hb2 hc hgcl;have K1 : True:=trivial) | (clear K1;clear H3;refine Ag (vd:=.slice Gd E.disk.length g1_) (vm:=.slice Gm E.mem.length g2_) (vl:=.slice Gl E.log.length g3_) E ?_;intro w3 hb3 hz3 hq3;have HG3:=As (HG2.out.up hb3);have HQ3:=As hq3;have HB3:=As (bj HB2.out hb3);clear hb3 hz3 hq3;have K2 : True:=trivial) | (clear K2;go_at_call 15;refine (Cq (c:=v1_) HB3.out HVC.out).mono ?_;rw [HE.out];rintro x w4 ⟨vd,vm,vl,rfl,ho,hb4⟩;obtain ⟨Jd,j1_,Jm,j2_,Jl,j3_,rfl,rfl,rfl, -,hc⟩:=ho.reads;have HJ4:=As hc;have HB4:=As hb4;clear ho hb4 hc;have K3 : True:=trivial) | (clear K3;clear H5;refine Ag (vd:=.slice Jd E.disk.length j1_) (vm:=.slice Jm E.mem.length j2_) (vl:=.slice Jl E.log.length j3_) E ?_;intro w5 hb5 hz5 hq5;have HJ5:=As (HJ4.out.up hb5);have HQ5:=As hq5;have HT5:=As (bj HB4.out hb5);have HN5:=As (Below.refl w5.heap.size w5);clear hb5 hz5 hq5;have g0:=(HQ3.out.up HT5.out).c0;have g1:=(HQ3.out.up HT5.out).c1;have g2:=(HQ3.out.up HT5.out).c2;have g3:=(HQ3.out.up HT5.out).c3;have g4:=(HQ3.out.up HT5.out).c4;have s0:=(HQ5.out).c0;have s1:=(HQ5.out).c1;have s2:=(HQ5.out).c2;have s3:=(HQ5.out).c3;have s4:=(HQ5.out).c4;have K4 : True:=trivial) | (clear K4;go_at_call 16;refine (Cm (cd:=g1_) (cm:=g2_) (cl:=g3_) (dd:=j1_) (dm:=j2_) (dl:=j3_) (bj HT5.out HN5.out) HG3.out HN5.out HJ5.out).mono ?_;rintro x w6 ⟨rfl,hb6⟩;have HN6:=As (bj HN5.out hb6);clear HN5 hb6;clear g0 g1 g2 g3 g4 s0 s1 s2 s3 s4;have HN5:=HN6;clear HN6;have g0:=(HQ3.out.up (bj HT5.out HN5.out)).c0;have g1:=(HQ3.out.up (bj HT5.out HN5.out)).c1;have g2:=(HQ3.out.up (bj HT5.out HN5.out)).c2;have g3:=(HQ3.out.up (bj HT5.out HN5.out)).c3;have g4:=(HQ3.out.up (bj HT5.out HN5.out)).c4;have s0:=(HQ5.out.up HN5.out).c0;have s1:=(HQ5.out.up HN5.out).c1;have s2:=(HQ5.out.up HN5.out).c2;have s3:=(HQ5.out.up HN5.out).c3;have s4:=(HQ5.out.up HN5.out).c4;have K5 : True:=trivial))
  clear g0 g1 g2 g3 g4 s0 s1 s2 s3 s4
  have HG6:=As (bj HT5.out HN5.out)
  go_loopw [10] (fun i wr => ∃ k : Nat,k ≤ 5 ∧ i = .int .i64 (k : Int) ∧ Aa (Below w3.heap.size w3 wr)) (fun i _ => (5 - intOf i).toNat)
  case atStart => exact ⟨0,by decide,rfl,HG6⟩
  case round =>
   obtain ⟨k,hk,rfl,HW⟩:=hrel
   have g0:=(HQ3.out.up HW.out).c0
   have g1:=(HQ3.out.up HW.out).c1
   have g2:=(HQ3.out.up HW.out).c2
   have g3:=(HQ3.out.up HW.out).c3
   have g4:=(HQ3.out.up HW.out).c4
   rw [HD.out] at g4
   by_cases hlt : k < 5
   rotate_left
   ·have hki : ¬ (k : Int) < 5:=by omega
    go_wp2
    go_ret
    exact ⟨rfl,bj HB1.out (bj HB3.out HW.out)⟩
   have hki : (k : Int) < 5:=by omega
   go_wp2
   go_roundw
   case rel => exact ⟨k + 1,by omega,by go_num,HW⟩
   case measure => simp [intOf];omega
open Go.RowKit Go.Proofs.YtofgeajaajfiaaaGreatW.PrintWords Go.Proofs.YtofgeajaajfiaaaGreatW.PrintLast Go.Proofs.YtofgeajaajfiaaaGreatW.PrintMore Go.ChangeShapes Go.WideShapes Go.Deep
theorem CP {H : Type} {enc : TypeId × Value → H} {w : World} {held : Bool} {fuel : Nat} {cs : List Value} {y : DataW H × List MemPlace} (h : DataW.trod enc Tryz.prog w 0 (fun _ => true) held fuel 22 cs = some y) : ∃ xs A c,cs = [.slice A (List.length xs) c] ∧ xs.length ≤ c ∧ (Kd.int .u8).C w A xs.length xs ∧ Bytes xs:=by
 obtain ⟨xs,A,c,he,hcl,hr⟩:=Gu (d:=Kd.int .u8) Tryz.underlying22 (by kernel_rfl) (J6 Tryz.underlying5) _ _ _ h
 refine ⟨xs,A,c,he,hcl,hr,fun b hb => ?_⟩
 obtain ⟨i,hi,rfl⟩:=List.getElem_of_mem hb
 obtain ⟨ad,ha,hc⟩:=Oa hr i hi
 rcases open_ints Tryz.underlying22 Tryz.underlying5 (by kernel_rfl) h with ⟨hcs,_⟩ | ⟨x,l,c',zs,hcs,_,hl,hm,hz,_,hcell,hwz⟩
 ·rw [he,ha] at hcs
  simp at hcs
 ·rw [he,ha] at hcs
  simp only [List.cons.injEq,Value.slice.injEq,Option.some.injEq,and_true] at hcs
  obtain ⟨rfl,h2,rfl⟩:=hcs
  rw [if_pos rfl] at hz
  have h3:=hcell i (by omega)
  rw [hc] at h3
  have h4 : iv xs i = zs.getD i 0:=by simpa using h3
  have h5:=range_u8 hwz i
  have e : iv xs i = xs[i]:=by simp [iv,List.getD_eq_getElem?_getD,hi]
  rw [← e,h4,List.getD_eq_getElem?_getD]
  exact h5
end Go.Proofs.YtofgeajaajfiaaaGreat
namespace Go.Proofs.YtofgeajaajfiaaaGreat.fnPlaySum
open Go.ChangeShapes Go.WideShapes Go.ChangeAt Go.RowKit Go.Proofs.YtofgeajaajfiaaaGreat
theorem own : ownKnob Tryz.prog.godebug = none:=by kernel_rfl
theorem laidOut : laidOutB Tryz.prog = true:=by kernel_rfl
set_option maxRecDepth 100000 in
theorem lifted (os : Os) (started : os.Started) (H : Type) (enc : TypeId × Value → H) :
  ReturnsInHanded {} Tryz.checked os 6 .any (Rows.fnPlaySumSpec.pre6 enc Tryz.prog Tryz.f6 Rows.fnPlaySumRow.domain false) (Rows.fnPlaySumSpec.post enc Tryz.prog Tryz.f6 false true false false):=by
 refine returnsInHanded_of_change_sized (C:=Tryz.checked) own started (by kernel_rfl) Tryz.func6
  (ChangeSpec.witness6 (enc:=enc) (C:=Tryz.checked) false ⟨#[],#[.slice none 0 0, .slice none 0 0], []⟩ 8 (by kernel_rfl) (by kernel_rfl) (by kernel_rfl) (by kernel_rfl)) ?_
 intro W base args ds gs before hval0 hW hcnd hsz0 _
 have hval : ∀ (j : Nat) t v,Tryz.f6.params[j]? = some t → args[j]? = some v → Value.okWide Tryz.prog W .any base t v:=hval0
 have hW':=hW
 obtain ⟨p,q,hA0,hV,rfl,hfz,hnd⟩:=hW
 have hA : DataW.TrodAll enc Tryz.prog W 0 (fun _ => true) true Tryz.f6.params.toList args.toList ds p:=hA0
 rw [Tryz.params6] at hA hval
 obtain ⟨v0,vs0,d0,ds0,p0,q0,hargs,rfl,rfl,h0,r0⟩:=trodAll_cons hA
 obtain ⟨v1,vs1,d1,ds1,p1,q1,rfl,rfl,rfl,h1,r1⟩:=trodAll_cons r0
 obtain ⟨rfl,rfl,rfl⟩:=trodAll_nil r1
 obtain rfl : args = #[v0,v1]:=by cases args;simp_all
 obtain ⟨rfl,rfl⟩:=trodVars_none hV
 have k0:=h0
 have lt0 : ∀ x ∈ p0,x.block < W.heap.size:=by obtain ⟨m,hm⟩:=k0;exact DataW.trod_lt m _ _ _ hm
 obtain ⟨a0,len0,cap0,rfl⟩:=okWide_slice Tryz.underlying22 (hval 0 22 v0 rfl rfl)
 obtain ⟨fuel0,hf0⟩:=h0
 obtain ⟨xs0,A0,c0,he0,hcl0,hr0,hby0⟩:=CP hf0
 obtain ⟨rfl,rfl,rfl⟩ : a0 = A0 ∧ len0 = xs0.length ∧ cap0 = c0:=by simpa [Value.cells] using he0
 have k1:=h1
 have lt1 : ∀ x ∈ p1,x.block < W.heap.size:=by obtain ⟨m,hm⟩:=k1;exact DataW.trod_lt m _ _ _ hm
 obtain ⟨a1,Oe,cap1,rfl⟩:=okWide_slice Tryz.underlying22 (hval 1 22 v1 rfl rfl)
 obtain ⟨fuel1,hf1⟩:=h1
 obtain ⟨xs1,A1,c1,he1,hcl1,hr1,hby1⟩:=CP hf1
 obtain ⟨rfl,rfl,rfl⟩ : a1 = A1 ∧ Oe = xs1.length ∧ cap1 = c1:=by simpa [Value.cells] using he1
 clear hA0 hval0 hsz0 hval hA
 refine (FnPlaySum_calls hcl0 hby0 hr0 (Cg hr1).2).mono fun e1 W' ⟨he1,bel⟩ => ?_
 subst he1
 exact ⟨_,rfl,_,_,_, [],_, [],hW',trodAll_mk1 (shut_bool Tryz.underlying4 _),(trodAll_cons_mk (Below.trod laidOut (by kernel_rfl) (of_decide_eq_true (by kernel_rfl)) k0 bel lt0) (trodAll_cons_mk (Below.trod laidOut (by kernel_rfl) (of_decide_eq_true (by kernel_rfl)) k1 bel lt1) trodAll_mk0)),rfl,bel.frame _,fun h => by cases h⟩
theorem k24b : (Rows.fnPlaySumRow.lifted == Tryz.pinned.checked.prog.liftsFinal) = true:=by
 rw [show Tryz.pinned.checked.prog.liftsFinal = false from Gy]
 rfl
theorem k24c : (Tryz.pinned.checked.prog.make == some Rows.fnPlaySumRow.make) = true:=by
 rw [show Tryz.pinned.checked.prog.make = some Make.cut from KA]
 rfl
set_option maxRecDepth 100000 in
set_option maxHeartbeats 8000000 in
theorem closed : joinedFacts Tryz.pinned.checked.prog 6 Tryz.f6 Rows.fnPlaySumSpec Rows.fnPlaySumRow = true:=by
 simp only [joinedFacts,Bool.and_eq_true]
 exact ⟨⟨⟨⟨⟨⟨⟨⟨⟨⟨⟨⟨⟨⟨⟨⟨⟨⟨⟨⟨⟨⟨⟨⟨⟨⟨⟨⟨⟨⟨⟨(by as_aux_lemma => kernel_rfl),(by as_aux_lemma => kernel_rfl)⟩,(by as_aux_lemma => kernel_rfl)⟩,(by as_aux_lemma => kernel_rfl)⟩,(by as_aux_lemma => kernel_rfl)⟩,(by as_aux_lemma => kernel_rfl)⟩,(by as_aux_lemma => kernel_rfl)⟩,(by as_aux_lemma => kernel_rfl)⟩,(by as_aux_lemma => kernel_rfl)⟩,(by as_aux_lemma => kernel_rfl)⟩,(by as_aux_lemma => kernel_rfl)⟩,(by as_aux_lemma => kernel_rfl)⟩,(by as_aux_lemma => kernel_rfl)⟩,(by as_aux_lemma => kernel_rfl)⟩,(by as_aux_lemma => kernel_rfl)⟩,(by as_aux_lemma => kernel_rfl)⟩,(by as_aux_lemma => kernel_rfl)⟩,(by as_aux_lemma => kernel_rfl)⟩,(by as_aux_lemma => kernel_rfl)⟩,(by as_aux_lemma => kernel_rfl)⟩,(by as_aux_lemma => kernel_rfl)⟩,(by as_aux_lemma => kernel_rfl)⟩,(by as_aux_lemma => kernel_rfl)⟩,(by as_aux_lemma => kernel_rfl)⟩,(by as_aux_lemma => kernel_rfl)⟩,J9⟩,k24b⟩,k24c⟩,(by as_aux_lemma => kernel_rfl)⟩,(by as_aux_lemma => kernel_rfl)⟩,(by as_aux_lemma => kernel_rfl)⟩,(by as_aux_lemma => kernel_rfl)⟩
theorem over : Rows.fnPlaySumRow.holds Tryz.pinned (OpenSpec.ofChange Rows.fnPlaySumSpec):=
 OpenClaim.holds_of_wide 6 Tryz.f6 rfl rfl rfl rfl rfl rfl rfl ⟨rfl,rfl,rfl,rfl,rfl⟩ rfl rfl rfl rfl rfl (by kernel_rfl) Tryz.func6 closed
  (of_decide_eq_true (by kernel_rfl)) (by unfold Func.isWrapper;first | (rw [if_pos (by decide +kernel)];kernel_rfl) | (rw [if_neg (by decide +kernel)];exact ⟨rfl,rfl⟩))
  (fun os started H enc _ => lifted os started H enc)
theorem proved : Rows.FnPlaySumSaid:=over
end Go.Proofs.YtofgeajaajfiaaaGreat.fnPlaySum
namespace Go.Proofs.YtofgeajaajfiaaaGreat
theorem fnPlaySum_holds : Rows.FnPlaySumSaid:=fnPlaySum.proved
end Go.Proofs.YtofgeajaajfiaaaGreat
