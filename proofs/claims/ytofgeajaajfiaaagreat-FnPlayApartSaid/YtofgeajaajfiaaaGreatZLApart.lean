/- Proved here: for all bytes that are handed in, laws.FnPlayApart returns true (one's changes do not touch another one's pages: behind a drawn play, an undoing leaves all pages that its transaction does not hold, the disk and what is safe). Conditions: none beyond those that the given statement itself bears. -/
import Derived.Test.YtofgeajaajfiaaaGreatZF1
import Derived.Test.YtofgeajaajfiaaaGreatZP1
import Derived.Test.YtofgeajaajfiaaaGreatZA1
import Derived.Test.YtofgeajaajfiaaaGreatZV2
import Derived.WalkKit
import Derived.ProofKit
import Derived.OpenShut
import Derived.ShutString
import Derived.ChangeOld
import Derived.Below
import Derived.SizedLaws
set_option linter.unusedVariables false
set_option linter.unusedSimpArgs false
namespace Go.Proofs.YtofgeajaajfiaaaGreat
open Go.RowKit Go.Proofs.YtofgeajaajfiaaaGreatW.PrintWords Go.Proofs.YtofgeajaajfiaaaGreatW.PrintLast Go.Proofs.YtofgeajaajfiaaaGreatW.PrintMore
set_option maxRecDepth 100000 in
set_option maxHeartbeats 16000000 in
theorem N9 {w : World} {A : Option Addr} {c : Nat} {xs : List Int} {B : Option Addr} {d : Nat} {ys : List Int} (hcap : xs.length ≤ c) (hx : Bytes xs) (hr : Kd.C (Kd.int .u8) w A xs.length xs) (hy : ys.length ≤ 9223372036854775807) : Calls Tryz.prog 4 #[.slice A xs.length c, .slice B ys.length d] w (JV w):=by
 have HR:=As hr
 have HCAP:=As hcap
 have HBY:=As hx
 have hmx:=(Cg hr).2
 have H2 : True:=trivial
 have H3 : True:=trivial
 have H5 : True:=trivial
 clear hcap hx hr
 rcases lts 1048576 (xs.length : Int) with ⟨e1,b1,c1⟩ | ⟨e1,b1,c1⟩
 ·go_enter Tryz.func4,Tryz.ntmps4
  go_wp2
  go_ret
  exact ⟨rfl,Below.refl _ _⟩
 rcases lts 1048576 (ys.length : Int) with ⟨e2,b2,c2⟩ | ⟨e2,b2,c2⟩
 ·go_enter Tryz.func4,Tryz.ntmps4
  go_wp2
  go_ret
  exact ⟨rfl,Below.refl _ _⟩
 go_enter Tryz.func4,Tryz.ntmps4
 go_wp2_with (go_at_call 13;refine (EI HCAP.out HBY.out (Below.refl w.heap.size w) HR.out).mono ?_;rintro x w1 ⟨V,vs,rfl,hV,hlen,hb1⟩;obtain ⟨V1,v1_,rfl,hcv,hc⟩:=Kd.BI hV;have HVC:=As hc;have HCV:=As hcv;have HLN:=As hlen;have HB1:=As hb1;clear hV hcv hc hlen hb1)
 obtain ⟨E,bb,hE⟩ : ∃ E bb,Kl vs = (E,bb):=⟨_,_,rfl⟩
 have HE:=As hE
 clear hE
 have K0 : True:=trivial
 cases bb
 ·go_wp2_with (first | (clear K0;clear H2;go_at_call 14;refine (Cy (c:=v1_) (Below.refl w1.heap.size w1) HVC.out).mono ?_;rw [HE.out];rintro x w2 ⟨vd,vm,vl,rfl,ho,hb2⟩;obtain ⟨Gd,g1_,Gm,g2_,Gl,g3_,rfl,rfl,rfl,hgcl,hc⟩:=ho.reads;have HG2:=As hc;have HGL:=As hgcl;have HB2:=As hb2;clear ho hb2 hc hgcl;have K1 : True:=trivial) | (clear K1;clear H3;refine Ag (vd:=.slice Gd E.disk.length g1_) (vm:=.slice Gm E.mem.length g2_) (vl:=.slice Gl E.log.length g3_) E ?_;intro w3 hb3 hz3 hq3;have HG3:=As (HG2.out.up hb3);have HQ3:=As hq3;have HB3:=As (bj HB2.out hb3);clear hb3 hz3 hq3;have K2 : True:=trivial) | (clear K2;go_at_call 15;refine (Cq (c:=v1_) HB3.out HVC.out).mono ?_;rw [HE.out];rintro x w4 ⟨vd,vm,vl,rfl,ho,hb4⟩;obtain ⟨Jd,j1_,Jm,j2_,Jl,j3_,rfl,rfl,rfl, -,hc⟩:=ho.reads;have HJ4:=As hc;have HB4:=As hb4;clear ho hb4 hc;have K3 : True:=trivial) | (clear K3;clear H5;refine Ag (vd:=.slice Jd E.disk.length j1_) (vm:=.slice Jm E.mem.length j2_) (vl:=.slice Jl E.log.length j3_) E ?_;intro w5 hb5 hz5 hq5;have HJ5:=As (HJ4.out.up hb5);have HQ5:=As hq5;have HT5:=As (bj HB4.out hb5);have HN5:=As (Below.refl w5.heap.size w5);clear hb5 hz5 hq5;have g0:=(HQ3.out.up HT5.out).c0;have g1:=(HQ3.out.up HT5.out).c1;have g2:=(HQ3.out.up HT5.out).c2;have g3:=(HQ3.out.up HT5.out).c3;have g4:=(HQ3.out.up HT5.out).c4;have s0:=(HQ5.out).c0;have s1:=(HQ5.out).c1;have s2:=(HQ5.out).c2;have s3:=(HQ5.out).c3;have s4:=(HQ5.out).c4;have K4 : True:=trivial) | (clear K4;go_at_call 16;refine (Cm (cd:=g1_) (cm:=g2_) (cl:=g3_) (dd:=j1_) (dm:=j2_) (dl:=j3_) (bj HT5.out HN5.out) HG3.out HN5.out HJ5.out).mono ?_;rintro x w6 ⟨rfl,hb6⟩;have HN6:=As (bj HN5.out hb6);clear HN5 hb6;clear g0 g1 g2 g3 g4 s0 s1 s2 s3 s4;have HN5:=HN6;clear HN6;have g0:=(HQ3.out.up (bj HT5.out HN5.out)).c0;have g1:=(HQ3.out.up (bj HT5.out HN5.out)).c1;have g2:=(HQ3.out.up (bj HT5.out HN5.out)).c2;have g3:=(HQ3.out.up (bj HT5.out HN5.out)).c3;have g4:=(HQ3.out.up (bj HT5.out HN5.out)).c4;have s0:=(HQ5.out.up HN5.out).c0;have s1:=(HQ5.out.up HN5.out).c1;have s2:=(HQ5.out.up HN5.out).c2;have s3:=(HQ5.out.up HN5.out).c3;have s4:=(HQ5.out.up HN5.out).c4;have K5 : True:=trivial) | (clear K5;go_at_call 16;refine (Cm (cd:=g1_) (cm:=g2_) (cl:=g3_) (dd:=j1_) (dm:=j2_) (dl:=j3_) (bj HT5.out HN5.out) HG3.out HN5.out HJ5.out).mono ?_;rintro x w6 ⟨rfl,hb6⟩;have HN6:=As (bj HN5.out hb6);clear HN5 hb6;clear g0 g1 g2 g3 g4 s0 s1 s2 s3 s4;have HN5:=HN6;clear HN6;have g0:=(HQ3.out.up (bj HT5.out HN5.out)).c0;have g1:=(HQ3.out.up (bj HT5.out HN5.out)).c1;have g2:=(HQ3.out.up (bj HT5.out HN5.out)).c2;have g3:=(HQ3.out.up (bj HT5.out HN5.out)).c3;have g4:=(HQ3.out.up (bj HT5.out HN5.out)).c4;have s0:=(HQ5.out.up HN5.out).c0;have s1:=(HQ5.out.up HN5.out).c1;have s2:=(HQ5.out.up HN5.out).c2;have s3:=(HQ5.out.up HN5.out).c3;have s4:=(HQ5.out.up HN5.out).c4;have K6 : True:=trivial))
  go_ret
  exact ⟨rfl,bj HB1.out (bj HB3.out (bj HT5.out HN5.out))⟩
 have HRUN:=As (OJ HE.out)
 have HINV : Aa (∃ C,Inv E C (3 * 40)):=⟨by rw [HRUN.out.2];exact inv_all vs HRUN.out.1⟩
 obtain ⟨C,hI⟩:=HINV.out
 have HI:=As hI
 obtain ⟨tx,htx⟩ : ∃ tx : Int,1 + (ys.length : Int) % 3 = tx:=⟨_,rfl⟩
 obtain ⟨X,hX⟩ : ∃ X,Az E ⟨5,tx,0,0,0, []⟩ = X:=⟨_,rfl⟩
 have HIX:=As (show Inv X C _ by rw [← hX];exact hI.Yx tx)
 have hap:=WV hI tx
 rw [hX] at hap
 have HAP:=As hap
 have HX:=As hX
 clear hX hap hI
 obtain ⟨hs,hhs⟩ : ∃ hs,Go.Lib.compact (Fa (Bf E.log (fun _ => true) (BD E.log (Ai E.log tx E.log.length)))) = hs:=⟨_,rfl⟩
 have HCN:=As (show ∀ p : Int,hs.contains p = has E.log tx E.log.length p from fun p => by rw [← hhs];exact JJ E.log _ p)
 have HHS:=As hhs
 clear hhs
 go_wp2_with (first | (clear K0;clear H2;go_at_call 14;refine (Cy (c:=v1_) (Below.refl w1.heap.size w1) HVC.out).mono ?_;rw [HE.out];rintro x w2 ⟨vd,vm,vl,rfl,ho,hb2⟩;obtain ⟨Gd,g1_,Gm,g2_,Gl,g3_,rfl,rfl,rfl,hgcl,hc⟩:=ho.reads;have HG2:=As hc;have HGL:=As hgcl;have HB2:=As hb2;clear ho hb2 hc hgcl;have K1 : True:=trivial) | (clear K1;clear H3;refine Ag (vd:=.slice Gd E.disk.length g1_) (vm:=.slice Gm E.mem.length g2_) (vl:=.slice Gl E.log.length g3_) E ?_;intro w3 hb3 hz3 hq3;have HG3:=As (HG2.out.up hb3);have HQ3:=As hq3;have HB3:=As (bj HB2.out hb3);clear hb3 hz3 hq3;have K2 : True:=trivial) | (clear K2;go_at_call 15;refine (Cq (c:=v1_) HB3.out HVC.out).mono ?_;rw [HE.out];rintro x w4 ⟨vd,vm,vl,rfl,ho,hb4⟩;obtain ⟨Jd,j1_,Jm,j2_,Jl,j3_,rfl,rfl,rfl, -,hc⟩:=ho.reads;have HJ4:=As hc;have HB4:=As hb4;clear ho hb4 hc;have K3 : True:=trivial) | (clear K3;clear H5;refine Ag (vd:=.slice Jd E.disk.length j1_) (vm:=.slice Jm E.mem.length j2_) (vl:=.slice Jl E.log.length j3_) E ?_;intro w5 hb5 hz5 hq5;have HJ5:=As (HJ4.out.up hb5);have HQ5:=As hq5;have HT5:=As (bj HB4.out hb5);have HN5:=As (Below.refl w5.heap.size w5);clear hb5 hz5 hq5;have g0:=(HQ3.out.up HT5.out).c0;have g1:=(HQ3.out.up HT5.out).c1;have g2:=(HQ3.out.up HT5.out).c2;have g3:=(HQ3.out.up HT5.out).c3;have g4:=(HQ3.out.up HT5.out).c4;have s0:=(HQ5.out).c0;have s1:=(HQ5.out).c1;have s2:=(HQ5.out).c2;have s3:=(HQ5.out).c3;have s4:=(HQ5.out).c4;have K4 : True:=trivial) | (clear K4;go_at_call 16;refine (Cm (cd:=g1_) (cm:=g2_) (cl:=g3_) (dd:=j1_) (dm:=j2_) (dl:=j3_) (bj HT5.out HN5.out) HG3.out HN5.out HJ5.out).mono ?_;rintro x w6 ⟨rfl,hb6⟩;have HN6:=As (bj HN5.out hb6);clear HN5 hb6;clear g0 g1 g2 g3 g4 s0 s1 s2 s3 s4;have HN5:=HN6;clear HN6;have g0:=(HQ3.out.up (bj HT5.out HN5.out)).c0;have g1:=(HQ3.out.up (bj HT5.out HN5.out)).c1;have g2:=(HQ3.out.up (bj HT5.out HN5.out)).c2;have g3:=(HQ3.out.up (bj HT5.out HN5.out)).c3;have g4:=(HQ3.out.up (bj HT5.out HN5.out)).c4;have s0:=(HQ5.out.up HN5.out).c0;have s1:=(HQ5.out.up HN5.out).c1;have s2:=(HQ5.out.up HN5.out).c2;have s3:=(HQ5.out.up HN5.out).c3;have s4:=(HQ5.out.up HN5.out).c4;have K5 : True:=trivial) | (clear K5;go_at_call 18;refine (Es (w0:=w6) (cd:=g1_) (cm:=g2_) (cl:=g3_) (c:=0) ⟨5,tx,0,0,0, []⟩ HI.out (by omega) HGL.out (Below.refl _ _) (HG3.out.up (bj HT5.out HN5.out)) (RO _)).mono ?_;rw [HX.out];rintro x w7 ⟨vd,vm,vl,rfl,ho,hb7⟩;obtain ⟨Xd,x1_,Xm,x2_,Xl,x3_,rfl,rfl,rfl,hcl,hc⟩:=ho.reads;have HXC:=As hc;have HT7:=As hb7;clear ho hb7 hcl hc;clear g0 g1 g2 g3 g4 s0 s1 s2 s3 s4;have K6 : True:=trivial) | (clear K6;refine Ag (vd:=.slice Xd X.disk.length x1_) (vm:=.slice Xm X.mem.length x2_) (vl:=.slice Xl X.log.length x3_) X ?_;intro w8 hb8 hz8 hq8;have HQ8:=As hq8;have HS8:=As hb8;have HG8:=As (bj HT5.out (bj HN5.out (bj HT7.out hb8)));clear hb8 hz8 hq8;have g0:=(HQ3.out.up HG8.out).c0;have g1:=(HQ3.out.up HG8.out).c1;have g2:=(HQ3.out.up HG8.out).c2;have g3:=(HQ3.out.up HG8.out).c3;have g4:=(HQ3.out.up HG8.out).c4;have K7 : True:=trivial) | (clear K7;go_at_call 20;refine (KN (c:=g3_) tx HI.out.core.log HG8.out HG3.out.l).mono ?_;rw [HHS.out];rintro x w9 ⟨H1,h1_,rfl,hC,hb9⟩;have HHC:=As hC;have HT9:=As hb9;clear hC hb9;clear g0 g1 g2 g3 g4;have K8 : True:=trivial))
 go_loopw [13] (fun i wr => ∃ k : Nat,k ≤ 5 ∧ i = .int .i64 (k : Int) ∧ Aa (Below w9.heap.size w9 wr)) (fun i _ => (5 - intOf i).toNat)
 case atStart => exact ⟨0,by decide,rfl,⟨Below.refl _ _⟩⟩
 case round =>
  obtain ⟨k,hk,rfl,HW⟩:=hrel
  have HXW:=As (bj HS8.out (bj HT9.out HW.out))
  have HGW:=As (bj HG8.out (bj HT9.out HW.out))
  have HQX:=As (HQ8.out.up (bj HT9.out HW.out))
  have HQE:=As (HQ3.out.up HGW.out)
  have hcx:=HXC.out.up HXW.out
  have hce:=HG3.out.up HGW.out
  have HM5:=As HIX.out.mlen
  have HE5:=As HI.out.mlen
  by_cases hlt : k < 5
  ·have hki : (k : Int) < 5:=by omega
   have hkx : (k : Int) < (X.mem.length : Int):=by rw [HM5.out];omega
   have hke : (k : Int) < (E.mem.length : Int):=by rw [HE5.out];omega
   obtain ⟨ad,A2,c2,rfl,QX, -,x2⟩:=Di hcx.m k (by rw [HM5.out];exact hlt)
   obtain ⟨bd,B2,d2,rfl,QE, -,e2'⟩:=Di hce.m k (by rw [HE5.out];exact hlt)
   have HQ2:=As QX
   have HR2:=As QE
   have HX2:=As x2
   have HE2:=As e2'
   clear QX QE x2 e2' hcx hce
   cases hb : has E.log tx E.log.length (k : Int)
   ·have HB:=As ((HCN.out (k : Int)).trans hb)
    have HP:=As (HAP.out.2.2 k hb)
    clear hb
    have HLT : Aa (∀ wx,Below wr.heap.size wr wx → Calls Tryz.prog 23 #[(pg X.mem k).val A2 c2,(pg E.mem k).val B2 d2] wx fun e w' => e = .returned (.bool true) ∧ Below wr.heap.size wr w'):=⟨fun wx hS => by
     have h1:=HX2.out
     rw [HP.out] at h1 ⊢
     exact (Mw hS h1 hS HE2.out).mono fun _ _ h => ⟨h.1,bj hS h.2⟩⟩
    go_wp2
    refine Ba (fun w' => Below wr.heap.size wr w') rfl rfl (by kernel_rfl) (Af (Below.refl _ _)) (fun HT => ?_)
    repeat (first
     | (refine BO (fun wx hS => ?_))
     | ((with_reducible refine Bh (f:=22) rfl ?_);refine Bj (v:=.bool false) (args:=#[.slice H1 hs.length h1_, .int .i64 (k : Int)]) HT rfl Tryz.func22 (by kernel_rfl) rfl rfl (by rfl) (fun _ _ _ h => h) (by simp only [List.map_toArray,List.map_cons,List.map_nil];rfl) (fun wx hS => (Lp (k : Int) (bj HW.out hS) HHC.out).mono fun _ _ h => ⟨by rw [h.1,HB.out],bj hS h.2⟩) ?_;simp only [sc0,sc1])
     | ((with_reducible refine Bh (f:=23) rfl ?_);refine Bj (v:=.bool true) (args:=#[(pg X.mem k).val A2 c2,(pg E.mem k).val B2 d2]) HT rfl Tryz.func23 (by kernel_rfl) rfl rfl (by rfl) (fun _ _ _ h => h) (by simp only [List.map_toArray,List.map_cons,List.map_nil];rfl) (fun wx hS => (HLT.out wx hS)) ?_;simp only [sc0,sc1])
     | (refine Bq HT rfl (by rfl) (fun _ _ _ h => h) ?_;simp only [sc0,sc1])
     | (refine BN (v:=?_) HT rfl (by rfl) (fun _ _ _ h => h) (fun wx hS => ?_) ?_;rotate_left;(have x0:=(HQX.out.up hS).c0;have x1:=(HQX.out.up hS).c1;have x2:=(HQX.out.up hS).c2;have x3:=(HQX.out.up hS).c3;have x4:=(HQX.out.up hS).c4;have g0:=(HQE.out.up hS).c0;have g1:=(HQE.out.up hS).c1;have g2:=(HQE.out.up hS).c2;have g3:=(HQE.out.up hS).c3;have g4:=(HQE.out.up hS).c4;obtain ⟨m0,m1,m2⟩:=HQ2.out.up hS;obtain ⟨n0,n1,n2⟩:=HR2.out.up hS;go_simp;with_reducible rfl);rotate_left;simp only [sc0,sc1]))
    have HX':=As (bj HW.out hS)
    clear hS
    go_wp2
    go_roundw
    case rel => exact ⟨k + 1,by omega,by go_num,HX'⟩
    case measure => simp [intOf];omega
   ·have HB:=As ((HCN.out (k : Int)).trans hb)
    clear hb
    go_wp2
    refine Ba (fun w' => Below wr.heap.size wr w') rfl rfl (by kernel_rfl) (Af (Below.refl _ _)) (fun HT => ?_)
    repeat (first
     | (refine BO (fun wx hS => ?_))
     | ((with_reducible refine Bh (f:=22) rfl ?_);refine Bj (v:=.bool true) (args:=#[.slice H1 hs.length h1_, .int .i64 (k : Int)]) HT rfl Tryz.func22 (by kernel_rfl) rfl rfl (by rfl) (fun _ _ _ h => h) (by simp only [List.map_toArray,List.map_cons,List.map_nil];rfl) (fun wx hS => (Lp (k : Int) (bj HW.out hS) HHC.out).mono fun _ _ h => ⟨by rw [h.1,HB.out],bj hS h.2⟩) ?_;simp only [sc0,sc1])
     | (refine Bq HT rfl (by rfl) (fun _ _ _ h => h) ?_;simp only [sc0,sc1])
     | (refine BN (v:=?_) HT rfl (by rfl) (fun _ _ _ h => h) (fun wx hS => ?_) ?_;rotate_left;(have x0:=(HQX.out.up hS).c0;have x1:=(HQX.out.up hS).c1;have x2:=(HQX.out.up hS).c2;have x3:=(HQX.out.up hS).c3;have x4:=(HQX.out.up hS).c4;have g0:=(HQE.out.up hS).c0;have g1:=(HQE.out.up hS).c1;have g2:=(HQE.out.up hS).c2;have g3:=(HQE.out.up hS).c3;have g4:=(HQE.out.up hS).c4;obtain ⟨m0,m1,m2⟩:=HQ2.out.up hS;obtain ⟨n0,n1,n2⟩:=HR2.out.up hS;go_simp;with_reducible rfl);rotate_left;simp only [sc0,sc1]))
    have HX':=As (bj HW.out hS)
    clear hS
    go_wp2
    go_roundw
    case rel => exact ⟨k + 1,by omega,by go_num,HX'⟩
    case measure => simp [intOf];omega
  ·have hki : ¬ (k : Int) < 5:=by omega
   have x0:=HQX.out.c0
   have x1:=HQX.out.c1
   have x2:=HQX.out.c2
   have x3:=HQX.out.c3
   have x4:=HQX.out.c4
   have g0:=HQE.out.c0
   have g1:=HQE.out.c1
   have g2:=HQE.out.c2
   have g3:=HQE.out.c3
   have g4:=HQE.out.c4
   rw [HAP.out.2.1] at x3
   have HXD:=As (show Kd.C Dw wr Xd E.disk.length E.disk by have h:=hcx.d;rw [HAP.out.1] at h;exact h)
   have HED:=As hce.d
   have HDL:=As HAP.out.1
   have hss:=MO E.safe
   clear hcx hce
   have L0 : True:=trivial
   go_wp2_with (first | (clear L0;go_at_call 24;rw [HDL.out];refine (CW (c:=x1_) (d:=g1_) (Below.refl _ _) HXD.out (Below.refl _ _) HED.out).mono ?_;rintro x w11 ⟨rfl,hb11⟩;have HB11:=As hb11;replace x3:=bc hb11 x3;replace g3:=bc hb11 g3;clear hb11 x0 x1 x2 x4 g0 g1 g2 g4))
   go_ret
   exact ⟨rfl,bj HB1.out (bj HB3.out (bj HGW.out HB11.out))⟩
open Go.RowKit Go.Proofs.YtofgeajaajfiaaaGreatW.PrintWords Go.Proofs.YtofgeajaajfiaaaGreatW.PrintLast Go.Proofs.YtofgeajaajfiaaaGreatW.PrintMore Go.ChangeShapes Go.WideShapes Go.Deep
theorem CP {H : Type} {enc : TypeId × Value → H} {w : World} {held : Bool} {fuel : Nat} {cs : List Value} {y : DataW H × List MemPlace} (h : DataW.trod enc Tryz.prog w 0 (fun _ => true) held fuel 22 cs = some y) : ∃ xs A c,cs = [.slice A (List.length xs) c] ∧ xs.length ≤ c ∧ (Kd.int .u8).C w A xs.length xs ∧ Bytes xs:=by
 obtain ⟨xs,A,c,he,hcl,hr⟩:=Gu (d:=Kd.int .u8) Tryz.underlying22 (by kernel_rfl) (J6 Tryz.underlying5) _ _ _ h
 refine ⟨xs,A,c,he,hcl,hr,fun b hb => ?_⟩
 obtain ⟨i,hi,rfl⟩:=List.getElem_of_mem hb
 obtain ⟨ad,ha,hc⟩:=Oa hr i hi
 rcases open_ints Tryz.underlying22 Tryz.underlying5 (by kernel_rfl) h with ⟨hcs,_⟩ | ⟨x,l,c',zs,hcs,_,hl,hm,hz,_,hcell,hwz⟩
 ·rw [he,ha] at hcs
  simp at hcs
 ·rw [he,ha] at hcs
  simp only [List.cons.injEq,Value.slice.injEq,Option.some.injEq,and_true] at hcs
  obtain ⟨rfl,h2,rfl⟩:=hcs
  rw [if_pos rfl] at hz
  have h3:=hcell i (by omega)
  rw [hc] at h3
  have h4 : iv xs i = zs.getD i 0:=by simpa using h3
  have h5:=range_u8 hwz i
  have e : iv xs i = xs[i]:=by simp [iv,List.getD_eq_getElem?_getD,hi]
  rw [← e,h4,List.getD_eq_getElem?_getD]
  exact h5
end Go.Proofs.YtofgeajaajfiaaaGreat
namespace Go.Proofs.YtofgeajaajfiaaaGreat.fnPlayApart
open Go.ChangeShapes Go.WideShapes Go.ChangeAt Go.RowKit Go.Proofs.YtofgeajaajfiaaaGreat
theorem own : ownKnob Tryz.prog.godebug = none:=by kernel_rfl
theorem laidOut : laidOutB Tryz.prog = true:=by kernel_rfl
set_option maxRecDepth 100000 in
theorem lifted (os : Os) (started : os.Started) (H : Type) (enc : TypeId × Value → H) :
  ReturnsInHanded {} Tryz.checked os 4 .any (Rows.fnPlayApartSpec.pre6 enc Tryz.prog Tryz.f4 Rows.fnPlayApartRow.domain false) (Rows.fnPlayApartSpec.post enc Tryz.prog Tryz.f4 false true false false):=by
 refine returnsInHanded_of_change_sized (C:=Tryz.checked) own started (by kernel_rfl) Tryz.func4
  (ChangeSpec.witness6 (enc:=enc) (C:=Tryz.checked) false ⟨#[],#[.slice none 0 0, .slice none 0 0], []⟩ 8 (by kernel_rfl) (by kernel_rfl) (by kernel_rfl) (by kernel_rfl)) ?_
 intro W base args ds gs before hval0 hW hcnd hsz0 _
 have hval : ∀ (j : Nat) t v,Tryz.f4.params[j]? = some t → args[j]? = some v → Value.okWide Tryz.prog W .any base t v:=hval0
 have hW':=hW
 obtain ⟨p,q,hA0,hV,rfl,hfz,hnd⟩:=hW
 have hA : DataW.TrodAll enc Tryz.prog W 0 (fun _ => true) true Tryz.f4.params.toList args.toList ds p:=hA0
 rw [Tryz.params4] at hA hval
 obtain ⟨v0,vs0,d0,ds0,p0,q0,hargs,rfl,rfl,h0,r0⟩:=trodAll_cons hA
 obtain ⟨v1,vs1,d1,ds1,p1,q1,rfl,rfl,rfl,h1,r1⟩:=trodAll_cons r0
 obtain ⟨rfl,rfl,rfl⟩:=trodAll_nil r1
 obtain rfl : args = #[v0,v1]:=by cases args;simp_all
 obtain ⟨rfl,rfl⟩:=trodVars_none hV
 have k0:=h0
 have lt0 : ∀ x ∈ p0,x.block < W.heap.size:=by obtain ⟨m,hm⟩:=k0;exact DataW.trod_lt m _ _ _ hm
 obtain ⟨a0,len0,cap0,rfl⟩:=okWide_slice Tryz.underlying22 (hval 0 22 v0 rfl rfl)
 obtain ⟨fuel0,hf0⟩:=h0
 obtain ⟨xs0,A0,c0,he0,hcl0,hr0,hby0⟩:=CP hf0
 obtain ⟨rfl,rfl,rfl⟩ : a0 = A0 ∧ len0 = xs0.length ∧ cap0 = c0:=by simpa [Value.cells] using he0
 have k1:=h1
 have lt1 : ∀ x ∈ p1,x.block < W.heap.size:=by obtain ⟨m,hm⟩:=k1;exact DataW.trod_lt m _ _ _ hm
 obtain ⟨a1,Oe,cap1,rfl⟩:=okWide_slice Tryz.underlying22 (hval 1 22 v1 rfl rfl)
 obtain ⟨fuel1,hf1⟩:=h1
 obtain ⟨xs1,A1,c1,he1,hcl1,hr1,hby1⟩:=CP hf1
 obtain ⟨rfl,rfl,rfl⟩ : a1 = A1 ∧ Oe = xs1.length ∧ cap1 = c1:=by simpa [Value.cells] using he1
 clear hA0 hval0 hsz0 hval hA
 refine (N9 hcl0 hby0 hr0 (Cg hr1).2).mono fun e1 W' ⟨he1,bel⟩ => ?_
 subst he1
 exact ⟨_,rfl,_,_,_, [],_, [],hW',trodAll_mk1 (shut_bool Tryz.underlying4 _),(trodAll_cons_mk (Below.trod laidOut (by kernel_rfl) (of_decide_eq_true (by kernel_rfl)) k0 bel lt0) (trodAll_cons_mk (Below.trod laidOut (by kernel_rfl) (of_decide_eq_true (by kernel_rfl)) k1 bel lt1) trodAll_mk0)),rfl,bel.frame _,fun h => by cases h⟩
theorem k24b : (Rows.fnPlayApartRow.lifted == Tryz.pinned.checked.prog.liftsFinal) = true:=by
 rw [show Tryz.pinned.checked.prog.liftsFinal = false from Gy]
 rfl
theorem k24c : (Tryz.pinned.checked.prog.make == some Rows.fnPlayApartRow.make) = true:=by
 rw [show Tryz.pinned.checked.prog.make = some Make.cut from KA]
 rfl
set_option maxRecDepth 100000 in
set_option maxHeartbeats 8000000 in
theorem closed : joinedFacts Tryz.pinned.checked.prog 4 Tryz.f4 Rows.fnPlayApartSpec Rows.fnPlayApartRow = true:=by
 simp only [joinedFacts,Bool.and_eq_true]
 exact ⟨⟨⟨⟨⟨⟨⟨⟨⟨⟨⟨⟨⟨⟨⟨⟨⟨⟨⟨⟨⟨⟨⟨⟨⟨⟨⟨⟨⟨⟨⟨(by as_aux_lemma => kernel_rfl),(by as_aux_lemma => kernel_rfl)⟩,(by as_aux_lemma => kernel_rfl)⟩,(by as_aux_lemma => kernel_rfl)⟩,(by as_aux_lemma => kernel_rfl)⟩,(by as_aux_lemma => kernel_rfl)⟩,(by as_aux_lemma => kernel_rfl)⟩,(by as_aux_lemma => kernel_rfl)⟩,(by as_aux_lemma => kernel_rfl)⟩,(by as_aux_lemma => kernel_rfl)⟩,(by as_aux_lemma => kernel_rfl)⟩,(by as_aux_lemma => kernel_rfl)⟩,(by as_aux_lemma => kernel_rfl)⟩,(by as_aux_lemma => kernel_rfl)⟩,(by as_aux_lemma => kernel_rfl)⟩,(by as_aux_lemma => kernel_rfl)⟩,(by as_aux_lemma => kernel_rfl)⟩,(by as_aux_lemma => kernel_rfl)⟩,(by as_aux_lemma => kernel_rfl)⟩,(by as_aux_lemma => kernel_rfl)⟩,(by as_aux_lemma => kernel_rfl)⟩,(by as_aux_lemma => kernel_rfl)⟩,(by as_aux_lemma => kernel_rfl)⟩,(by as_aux_lemma => kernel_rfl)⟩,(by as_aux_lemma => kernel_rfl)⟩,J9⟩,k24b⟩,k24c⟩,(by as_aux_lemma => kernel_rfl)⟩,(by as_aux_lemma => kernel_rfl)⟩,(by as_aux_lemma => kernel_rfl)⟩,(by as_aux_lemma => kernel_rfl)⟩
theorem over : Rows.fnPlayApartRow.holds Tryz.pinned (OpenSpec.ofChange Rows.fnPlayApartSpec):=
 OpenClaim.holds_of_wide 4 Tryz.f4 rfl rfl rfl rfl rfl rfl rfl ⟨rfl,rfl,rfl,rfl,rfl⟩ rfl rfl rfl rfl rfl (by kernel_rfl) Tryz.func4 closed
  (of_decide_eq_true (by kernel_rfl)) (by unfold Func.isWrapper;first | (rw [if_pos (by decide +kernel)];kernel_rfl) | (rw [if_neg (by decide +kernel)];exact ⟨rfl,rfl⟩))
  (fun os started H enc _ => lifted os started H enc)
theorem proved : Rows.FnPlayApartSaid:=over
end Go.Proofs.YtofgeajaajfiaaaGreat.fnPlayApart
namespace Go.Proofs.YtofgeajaajfiaaaGreat
theorem fnPlayApart_holds : Rows.FnPlayApartSaid:=fnPlayApart.proved
end Go.Proofs.YtofgeajaajfiaaaGreat
