/- Proved here: for all bytes that are handed in, laws.FnPlayMore returns true (what goes on behind a fall goes on as ever: behind a drawn play, a fall and a rise, a page that is nobody's is taken, put into and done, and is there behind another fall). Conditions: none beyond those that the given statement itself bears. -/
import Derived.Test.YtofgeajaajfiaaaGreatZF1
import Derived.Test.YtofgeajaajfiaaaGreatZA1
import Derived.Test.YtofgeajaajfiaaaGreatZV2
import Derived.WalkKit
import Derived.ProofKit
import Derived.OpenShut
import Derived.ShutString
import Derived.ChangeOld
import Derived.Below
import Derived.SizedLaws
set_option linter.unusedVariables false
set_option linter.unusedSimpArgs false
namespace Go.Proofs.YtofgeajaajfiaaaGreat
open Go.RowKit Go.Proofs.YtofgeajaajfiaaaGreatW.PrintWords Go.Proofs.YtofgeajaajfiaaaGreatW.PrintLast Go.Proofs.YtofgeajaajfiaaaGreatW.PrintMore
section
variable {P : Program} {ops : Array Oper} {l : List Oper} {Q : Exit → Act → World → Prop} {a : Act} {w : World} {g : Nat} {vd vm vl : Value}
theorem Rm (e : Eng) (h : ∀ w1,Go.Proofs.YtofgeajaajfiaaaGreat.Ao w g e vd vm vl = w1 → wpList P ops Q l a w1) : wpList P ops Q l a (Go.Proofs.YtofgeajaajfiaaaGreat.Ao w g e vd vm vl):=h _ rfl
end
set_option maxRecDepth 100000 in
set_option maxHeartbeats 16000000 in
theorem NE {w : World} {A : Option Addr} {c : Nat} {xs : List Int} {B : Option Addr} {d : Nat} {ys : List Int} (hcap : xs.length ≤ c) (hx : Bytes xs) (hr : Kd.C (Kd.int .u8) w A xs.length xs) (hy : ys.length ≤ 9223372036854775807) : Calls Tryz.prog 5 #[.slice A xs.length c, .slice B ys.length d] w (JV w):=by
 have HR:=As hr
 have HCAP:=As hcap
 have HBY:=As hx
 have hmx:=(Cg hr).2
 have H2 : True:=trivial
 have H3 : True:=trivial
 have H5 : True:=trivial
 clear hcap hx hr
 rcases lts 1048576 (xs.length : Int) with ⟨e1,b1,c1⟩ | ⟨e1,b1,c1⟩
 ·go_enter Tryz.func5,Tryz.ntmps5
  go_wp2
  go_ret
  exact ⟨rfl,Below.refl _ _⟩
 rcases lts 1048576 (ys.length : Int) with ⟨e2,b2,c2⟩ | ⟨e2,b2,c2⟩
 ·go_enter Tryz.func5,Tryz.ntmps5
  go_wp2
  go_ret
  exact ⟨rfl,Below.refl _ _⟩
 go_enter Tryz.func5,Tryz.ntmps5
 go_wp2_with (go_at_call 13;refine (EI HCAP.out HBY.out (Below.refl w.heap.size w) HR.out).mono ?_;rintro x w1 ⟨V,vs,rfl,hV,hlen,hb1⟩;obtain ⟨V1,v1_,rfl,hcv,hc⟩:=Kd.BI hV;have HVC:=As hc;have HCV:=As hcv;have HLN:=As hlen;have HB1:=As hb1;clear hV hcv hc hlen hb1)
 obtain ⟨E,bb,hE⟩ : ∃ E bb,Kl vs = (E,bb):=⟨_,_,rfl⟩
 have HE:=As hE
 clear hE
 have K0 : True:=trivial
 cases bb
 ·go_wp2_with (first | (clear K0;clear H2;go_at_call 14;refine (Cy (c:=v1_) (Below.refl w1.heap.size w1) HVC.out).mono ?_;rw [HE.out];rintro x w2 ⟨vd,vm,vl,rfl,ho,hb2⟩;obtain ⟨Gd,g1_,Gm,g2_,Gl,g3_,rfl,rfl,rfl,hgcl,hc⟩:=ho.reads;have HG2:=As hc;have HGL:=As hgcl;have HB2:=As hb2;clear ho hb2 hc hgcl;have K1 : True:=trivial) | (clear K1;clear H3;refine Ag (vd:=.slice Gd E.disk.length g1_) (vm:=.slice Gm E.mem.length g2_) (vl:=.slice Gl E.log.length g3_) E ?_;intro w3 hb3 hz3 hq3;have HG3:=As (HG2.out.up hb3);have HQ3:=As hq3;have HB3:=As (bj HB2.out hb3);clear hb3 hz3 hq3;have K2 : True:=trivial) | (clear K2;go_at_call 15;refine (Cq (c:=v1_) HB3.out HVC.out).mono ?_;rw [HE.out];rintro x w4 ⟨vd,vm,vl,rfl,ho,hb4⟩;obtain ⟨Jd,j1_,Jm,j2_,Jl,j3_,rfl,rfl,rfl, -,hc⟩:=ho.reads;have HJ4:=As hc;have HB4:=As hb4;clear ho hb4 hc;have K3 : True:=trivial) | (clear K3;clear H5;refine Ag (vd:=.slice Jd E.disk.length j1_) (vm:=.slice Jm E.mem.length j2_) (vl:=.slice Jl E.log.length j3_) E ?_;intro w5 hb5 hz5 hq5;have HJ5:=As (HJ4.out.up hb5);have HQ5:=As hq5;have HT5:=As (bj HB4.out hb5);have HN5:=As (Below.refl w5.heap.size w5);clear hb5 hz5 hq5;have g0:=(HQ3.out.up HT5.out).c0;have g1:=(HQ3.out.up HT5.out).c1;have g2:=(HQ3.out.up HT5.out).c2;have g3:=(HQ3.out.up HT5.out).c3;have g4:=(HQ3.out.up HT5.out).c4;have s0:=(HQ5.out).c0;have s1:=(HQ5.out).c1;have s2:=(HQ5.out).c2;have s3:=(HQ5.out).c3;have s4:=(HQ5.out).c4;have K4 : True:=trivial) | (clear K4;go_at_call 16;refine (Cm (cd:=g1_) (cm:=g2_) (cl:=g3_) (dd:=j1_) (dm:=j2_) (dl:=j3_) (bj HT5.out HN5.out) HG3.out HN5.out HJ5.out).mono ?_;rintro x w6 ⟨rfl,hb6⟩;have HN6:=As (bj HN5.out hb6);clear HN5 hb6;clear g0 g1 g2 g3 g4 s0 s1 s2 s3 s4;have HN5:=HN6;clear HN6;have g0:=(HQ3.out.up (bj HT5.out HN5.out)).c0;have g1:=(HQ3.out.up (bj HT5.out HN5.out)).c1;have g2:=(HQ3.out.up (bj HT5.out HN5.out)).c2;have g3:=(HQ3.out.up (bj HT5.out HN5.out)).c3;have g4:=(HQ3.out.up (bj HT5.out HN5.out)).c4;have s0:=(HQ5.out.up HN5.out).c0;have s1:=(HQ5.out.up HN5.out).c1;have s2:=(HQ5.out.up HN5.out).c2;have s3:=(HQ5.out.up HN5.out).c3;have s4:=(HQ5.out.up HN5.out).c4;have K5 : True:=trivial) | (clear K5;go_at_call 16;refine (Cm (cd:=g1_) (cm:=g2_) (cl:=g3_) (dd:=j1_) (dm:=j2_) (dl:=j3_) (bj HT5.out HN5.out) HG3.out HN5.out HJ5.out).mono ?_;rintro x w6 ⟨rfl,hb6⟩;have HN6:=As (bj HN5.out hb6);clear HN5 hb6;clear g0 g1 g2 g3 g4 s0 s1 s2 s3 s4;have HN5:=HN6;clear HN6;have g0:=(HQ3.out.up (bj HT5.out HN5.out)).c0;have g1:=(HQ3.out.up (bj HT5.out HN5.out)).c1;have g2:=(HQ3.out.up (bj HT5.out HN5.out)).c2;have g3:=(HQ3.out.up (bj HT5.out HN5.out)).c3;have g4:=(HQ3.out.up (bj HT5.out HN5.out)).c4;have s0:=(HQ5.out.up HN5.out).c0;have s1:=(HQ5.out.up HN5.out).c1;have s2:=(HQ5.out.up HN5.out).c2;have s3:=(HQ5.out.up HN5.out).c3;have s4:=(HQ5.out.up HN5.out).c4;have K6 : True:=trivial))
  go_ret
  exact ⟨rfl,bj HB1.out (bj HB3.out (bj HT5.out HN5.out))⟩
 have HRUN:=As (OJ HE.out)
 have HINV : Aa (∃ C,Inv E C (3 * 40)):=⟨by rw [HRUN.out.2];exact inv_all vs HRUN.out.1⟩
 obtain ⟨C,hI⟩:=HINV.out
 have HI:=As hI
 obtain ⟨X,hX⟩ : ∃ X,KC E ((ys.length : Int) % 50) = X:=⟨_,rfl⟩
 have hx:=hI.RX (n:=(ys.length : Int) % 50) (by omega)
 rw [hX] at hx
 have HXI:=As hx.1
 have HXD:=As hx.2.1
 have HX0:=As hx.2.2
 have HX:=As hX
 clear hI hX hx
 obtain ⟨tx,htx⟩ : ∃ tx : Int,1 + (ys.length : Int) % 3 = tx:=⟨_,rfl⟩
 have htr : 1 ≤ tx ∧ tx ≤ 3:=by omega
 have HTR:=As htr
 clear htr
 go_wp2_with (first | (clear K0;clear H2;go_at_call 14;refine (Cy (c:=v1_) (Below.refl w1.heap.size w1) HVC.out).mono ?_;rw [HE.out];rintro x w2 ⟨vd,vm,vl,rfl,ho,hb2⟩;obtain ⟨Gd,g1_,Gm,g2_,Gl,g3_,rfl,rfl,rfl,hgcl,hc⟩:=ho.reads;have HG2:=As hc;have HGL:=As hgcl;have HB2:=As hb2;clear ho hb2 hc hgcl;have K1 : True:=trivial) | (clear K1;clear H3;refine Ag (vd:=.slice Gd E.disk.length g1_) (vm:=.slice Gm E.mem.length g2_) (vl:=.slice Gl E.log.length g3_) E ?_;intro w3 hb3 hz3 hq3;have HG3:=As (HG2.out.up hb3);have HQ3:=As hq3;have HB3:=As (bj HB2.out hb3);clear hb3 hz3 hq3;have K2 : True:=trivial) | (clear K2;go_at_call 15;refine (Cq (c:=v1_) HB3.out HVC.out).mono ?_;rw [HE.out];rintro x w4 ⟨vd,vm,vl,rfl,ho,hb4⟩;obtain ⟨Jd,j1_,Jm,j2_,Jl,j3_,rfl,rfl,rfl, -,hc⟩:=ho.reads;have HJ4:=As hc;have HB4:=As hb4;clear ho hb4 hc;have K3 : True:=trivial) | (clear K3;clear H5;refine Ag (vd:=.slice Jd E.disk.length j1_) (vm:=.slice Jm E.mem.length j2_) (vl:=.slice Jl E.log.length j3_) E ?_;intro w5 hb5 hz5 hq5;have HJ5:=As (HJ4.out.up hb5);have HQ5:=As hq5;have HT5:=As (bj HB4.out hb5);have HN5:=As (Below.refl w5.heap.size w5);clear hb5 hz5 hq5;have g0:=(HQ3.out.up HT5.out).c0;have g1:=(HQ3.out.up HT5.out).c1;have g2:=(HQ3.out.up HT5.out).c2;have g3:=(HQ3.out.up HT5.out).c3;have g4:=(HQ3.out.up HT5.out).c4;have s0:=(HQ5.out).c0;have s1:=(HQ5.out).c1;have s2:=(HQ5.out).c2;have s3:=(HQ5.out).c3;have s4:=(HQ5.out).c4;have K4 : True:=trivial) | (clear K4;go_at_call 16;refine (Cm (cd:=g1_) (cm:=g2_) (cl:=g3_) (dd:=j1_) (dm:=j2_) (dl:=j3_) (bj HT5.out HN5.out) HG3.out HN5.out HJ5.out).mono ?_;rintro x w6 ⟨rfl,hb6⟩;have HN6:=As (bj HN5.out hb6);clear HN5 hb6;clear g0 g1 g2 g3 g4 s0 s1 s2 s3 s4;have HN5:=HN6;clear HN6;have g0:=(HQ3.out.up (bj HT5.out HN5.out)).c0;have g1:=(HQ3.out.up (bj HT5.out HN5.out)).c1;have g2:=(HQ3.out.up (bj HT5.out HN5.out)).c2;have g3:=(HQ3.out.up (bj HT5.out HN5.out)).c3;have g4:=(HQ3.out.up (bj HT5.out HN5.out)).c4;have s0:=(HQ5.out.up HN5.out).c0;have s1:=(HQ5.out.up HN5.out).c1;have s2:=(HQ5.out.up HN5.out).c2;have s3:=(HQ5.out.up HN5.out).c3;have s4:=(HQ5.out.up HN5.out).c4;have K5 : True:=trivial) | (clear K5;go_at_call 19;refine (Ic (w0:=w6) (cd:=g1_) (cm:=g2_) (cl:=g3_) ((ys.length : Int) % 50) HI.out (by omega) HGL.out (Below.refl _ _) (HG3.out.up (bj HT5.out HN5.out))).mono ?_;rw [HX.out];rintro x w7 ⟨vd,vm,vl,rfl,ho,hb7⟩;obtain ⟨Xd,x1_,Xm,x2_,Xl,x3_,rfl,rfl,rfl,hcl,hc⟩:=ho.reads;have HXL:=As hcl;have HXC:=As hc;have HT7:=As hb7;clear ho hb7 hcl hc;clear g0 g1 g2 g3 g4 s0 s1 s2 s3 s4;have K6 : True:=trivial))
 obtain ⟨w8,hw8⟩ : ∃ w8,w7.alloc (Obj.cells #[.slice Xd X.disk.length x1_, .slice Xm X.mem.length x2_, .slice Xl X.log.length x3_, .int .i64 X.safe, .bool X.down] 28) = w8:=⟨_,rfl⟩
 rw [hw8]
 have HS8 : Aa (Below w7.heap.size w7 w8):=⟨by rw [← hw8];exact Ab (Below.refl _ _) _⟩
 have HQ8 : Aa (Ac w8 w7.heap.size X (.slice Xd X.disk.length x1_) (.slice Xm X.mem.length x2_) (.slice Xl X.log.length x3_)):=⟨by rw [← hw8];exact Ac.mk1 _ _ _ _ _⟩
 clear hw8
 have HG8:=As (bj HT5.out (bj HN5.out (bj HT7.out HS8.out)))
 go_loopw [11] (fun i wr => ∃ k : Nat,k ≤ 5 ∧ i = .int .i64 (k : Int) ∧ Aa (Below w8.heap.size w8 wr)) (fun i _ => (5 - intOf i).toNat)
 case atStart => exact ⟨0,by decide,rfl,⟨Below.refl _ _⟩⟩
 case round =>
  obtain ⟨k,hk,rfl,HW⟩:=hrel
  have HXW:=As (bj HS8.out HW.out)
  have HQX:=As (HQ8.out.up HW.out)
  have x0:=HQX.out.c0
  have x1:=HQX.out.c1
  have x2:=HQX.out.c2
  have x3:=HQX.out.c3
  have x4:=HQX.out.c4
  have HCX:=As (HXC.out.up HXW.out)
  have HM5:=As HXI.out.mlen
  by_cases hlt : k < 5
  rotate_left
  ·have hki : ¬ (k : Int) < 5:=by omega
   rw [HXD.out] at x4
   go_wp2
   go_ret
   exact ⟨rfl,bj HB1.out (bj HB3.out (bj HG8.out HW.out))⟩
  have hki : (k : Int) < 5:=by omega
  have hkx : (k : Int) < (X.mem.length : Int):=by rw [HM5.out];omega
  obtain ⟨ad,A2,c2,rfl,QX, -, -⟩:=Di HCX.out.m k (by rw [HM5.out];exact hlt)
  obtain ⟨m0,m1,m2⟩:=QX
  rcases BQ (pg X.mem k).owner 0 with ⟨e3,b3,c3⟩ | ⟨e3,b3,c3⟩
  rotate_left
  ·go_wp2
   go_roundw
   case rel => exact ⟨k + 1,by omega,by go_num,HW⟩
   case measure => simp [intOf];omega
  rcases lts 60 (X.log.length : Int) with ⟨e4,b4,c4⟩ | ⟨e4,b4,c4⟩
  ·go_wp2
   go_roundw
   case rel => exact ⟨k + 1,by omega,by go_num,HW⟩
   case measure => simp [intOf];omega
  obtain ⟨Y1,Y2,HM⟩:=Xo HXI.out (by omega) HXD.out HX0.out HTR.out hlt e3.out
  have HMO:=As HM
  obtain ⟨Y3,hy3⟩ : ∃ y3,Dg Y2 tx = y3:=⟨_,rfl⟩
  obtain ⟨Z,hZ⟩ : ∃ Z,KC Y3 0 = Z:=⟨_,rfl⟩
  have h3:=HM.i3
  rw [hy3] at h3
  have hzh:=h3.Oj (n:=0) (by decide)
  rw [hZ] at hzh
  have hzp:=hzh.2 k hlt
  rw [HM.owner] at hzp
  have hv8 : iv (pg Z.mem k).vals 1 = 8:=by rw [hzp.2];exact HM.val
  have hv3 : (pg Z.mem k).vals.length = 3:=by rw [hzp.2];exact HM.vlen
  have HZL:=As hzh.1
  have HZO:=As hzp.1
  have HZV:=As hv8
  have HZ3:=As hv3
  have HI3:=As h3
  have HOWN:=As HM.own
  have HPUT:=As HM.put
  have HDON:=As (show Cz Y2 tx (Dg Y2 tx) = (Y3,true) by rw [HM.done,hy3])
  have HZ:=As hZ
  clear hy3 hZ h3 hzh hzp hv8 hv3 HM
  have L0 : True:=trivial
  go_wp2_with (first | (clear L0;go_at_call 25;refine (JY (w0:=wr) (cd:=x1_) (cm:=x2_) (cl:=x3_) tx (k : Int) 2 HXI.out (by omega) HXL.out (Below.refl _ _) HCX.out).mono ?_;rw [HOWN.out];rintro x w11 ⟨ud,um,ul,rfl,ho,hb5⟩;obtain ⟨Fd,k1,Fm,k2,Fl,k3,rfl,rfl,rfl,hcl,hc⟩:=ho.reads;have HF11:=As hc;have HFL:=As hcl;have HT11:=As hb5;clear ho hb5 hcl hc x0 x1 x2 x3 x4 m0 m1 m2;have L1 : True:=trivial) | (clear L1;refine Ag (vd:=.slice Fd Y1.disk.length k1) (vm:=.slice Fm Y1.mem.length k2) (vl:=.slice Fl Y1.log.length k3) Y1 ?_;intro w12 hb8 hz8 hq8;have HQ12:=As hq8;have HF12:=As (HF11.out.up hb8);have HT12:=As hb8;have HG12:=As (show w11.heap.size ≤ w11.heap.size from Nat.le_refl _);have y0:=hq8.c0;have y1:=hq8.c1;have y2:=hq8.c2;have y3:=hq8.c3;have y4:=hq8.c4;clear hb8 hz8 hq8;have L2 : True:=trivial) | (clear L2;go_at_call 26;refine (JX (w0:=w12) (cd:=k1) (cm:=k2) (cl:=k3) tx (k : Int) 1 8 HMO.out.i1 (by omega) HFL.out (Below.refl _ _) HF12.out).mono ?_;rw [HPUT.out];rintro x w13 ⟨ud,um,ul,rfl,ho,hb5⟩;obtain ⟨Hd,j1,Hm,j2,Hl,j3,rfl,rfl,rfl,hcl,hc⟩:=ho.reads;have HO13:=As ho;have HHL:=As hcl;have HT13:=As hb5;have HQ13:=As (HQ12.out.up hb5);clear ho hb5 hcl hc y0 y1 y2 y3 y4;have z0:=HQ13.out.c0;have z1:=HQ13.out.c1;have z2:=HQ13.out.c2;have z3:=HQ13.out.c3;have z4:=HQ13.out.c4;have f0:=HQ13.out.frz 0;have f1:=HQ13.out.frz 1;have f2:=HQ13.out.frz 2;have f3:=HQ13.out.frz 3;have f4:=HQ13.out.frz 4;have L3 : True:=trivial) | (clear L3;with_reducible refine Rm (vd:=.slice Hd Y2.disk.length j1) (vm:=.slice Hm Y2.mem.length j2) (vl:=.slice Hl Y2.log.length j3) Y2 ?_;intro w14 hw12;have HT14 : Aa (Below w11.heap.size w11 w14):=⟨by rw [← hw12];exact Ah (bj HT12.out HT13.out) (Nat.le_refl _) Y2 _ _ _⟩;have HQ14 : Aa (Ac w14 w11.heap.size Y2 (.slice Hd Y2.disk.length j1) (.slice Hm Y2.mem.length j2) (.slice Hl Y2.log.length j3)):=⟨by rw [← hw12];exact HQ13.out.Ao Y2 _ _ _⟩;have HHC : Aa (DC w14 Y2 Hd Hm Hl):=⟨by have h:=HO13.out.Ao (f:=Y2) (xd:=.slice Hd Y2.disk.length j1) (xm:=.slice Hm Y2.mem.length j2) (xl:=.slice Hl Y2.log.length j3) HQ13.out;rw [hw12] at h;obtain ⟨_,_,_,_,_,_,h1,h2,h3, -,h4⟩:=h.reads;injection h1 with h1;injection h2 with h2;injection h3 with h3;subst h1 h2 h3;exact h4⟩;clear hw12 z0 z1 z2 z3 z4 f0 f1 f2 f3 f4;have z0:=HQ14.out.c0;have z1:=HQ14.out.c1;have z2:=HQ14.out.c2;have z3:=HQ14.out.c3;have z4:=HQ14.out.c4;have L4 : True:=trivial) | (clear L4;go_at_call 27;refine (LF (w0:=w14) (cd:=j1) (cm:=j2) (cl:=j3) tx HMO.out.i2 (by omega) HHL.out (Below.refl _ _) HHC.out).mono ?_;rw [HDON.out];rintro x w15 ⟨ud,um,ul,rfl,ho,hb5⟩;obtain ⟨Nd,i1,Nm,i2,Nl,i3,rfl,rfl,rfl,hcl,hc⟩:=ho.reads;have HO15:=As ho;have HNL:=As hcl;have HT15:=As hb5;have HQ15:=As (HQ14.out.up hb5);clear ho hb5 hcl hc z0 z1 z2 z3 z4;have z0:=HQ15.out.c0;have z1:=HQ15.out.c1;have z2:=HQ15.out.c2;have z3:=HQ15.out.c3;have z4:=HQ15.out.c4;have f0:=HQ15.out.frz 0;have f1:=HQ15.out.frz 1;have f2:=HQ15.out.frz 2;have f3:=HQ15.out.frz 3;have f4:=HQ15.out.frz 4;have L5 : True:=trivial) | (clear L5;with_reducible refine Rm (vd:=.slice Nd Y3.disk.length i1) (vm:=.slice Nm Y3.mem.length i2) (vl:=.slice Nl Y3.log.length i3) Y3 ?_;intro w16 hw12;have HT16 : Aa (Below w11.heap.size w11 w16):=⟨by rw [← hw12];exact Ah (bj HT14.out HT15.out) (Nat.le_refl _) Y3 _ _ _⟩;have HQ16 : Aa (Ac w16 w11.heap.size Y3 (.slice Nd Y3.disk.length i1) (.slice Nm Y3.mem.length i2) (.slice Nl Y3.log.length i3)):=⟨by rw [← hw12];exact HQ15.out.Ao Y3 _ _ _⟩;have HNC : Aa (DC w16 Y3 Nd Nm Nl):=⟨by have h:=HO15.out.Ao (f:=Y3) (xd:=.slice Nd Y3.disk.length i1) (xm:=.slice Nm Y3.mem.length i2) (xl:=.slice Nl Y3.log.length i3) HQ15.out;rw [hw12] at h;obtain ⟨_,_,_,_,_,_,h1,h2,h3, -,h4⟩:=h.reads;injection h1 with h1;injection h2 with h2;injection h3 with h3;subst h1 h2 h3;exact h4⟩;clear hw12 z0 z1 z2 z3 z4 f0 f1 f2 f3 f4;have z0:=HQ16.out.c0;have z1:=HQ16.out.c1;have z2:=HQ16.out.c2;have z3:=HQ16.out.c3;have z4:=HQ16.out.c4;have L6 : True:=trivial) | (clear L6;go_at_call 19;refine (Ic (w0:=w16) (cd:=i1) (cm:=i2) (cl:=i3) 0 HI3.out (by omega) HNL.out (Below.refl _ _) HNC.out).mono ?_;rw [HZ.out];rintro x w17 ⟨vd,vm,vl,rfl,ho,hb7⟩;obtain ⟨Zd,z1_,Zm,z2_,Zl,z3_,rfl,rfl,rfl, -,hc⟩:=ho.reads;have HZC:=As hc;have HT17:=As hb7;clear ho hb7 hc z0 z1 z2 z3 z4;have L7 : True:=trivial) | (clear L7;refine Ag (vd:=.slice Zd Z.disk.length z1_) (vm:=.slice Zm Z.mem.length z2_) (vl:=.slice Zl Z.log.length z3_) Z ?_;intro w18 hb8 hz8 hq8;have HT18:=As hb8;have hcz:=(HZC.out.up hb8).m;have hkz : (k : Int) < (Z.mem.length : Int):=(by rw [HZL.out];omega);obtain ⟨zd,A9,c9,rfl,QZ, -,hvz⟩:=Di hcz k (by rw [HZL.out];exact hlt);obtain ⟨n0,n1,n2⟩:=QZ;rw [HZO.out] at n1;obtain ⟨vd9,rfl,u9⟩:=Dj hvz 1 (by rw [HZ3.out];decide);rw [HZV.out] at u9;have u9' : w18.cell? ⟨vd9.block,vd9.off + 1,none⟩ = some (.int .i64 8):=(by have h:=Dq vd9 0 1 (by decide);rw [Nat.zero_add] at h;first | (rw [← h];exact u9) | (rw [h] at u9;exact u9) | exact u9);  have hz3 : (1 : Int) < ((pg Z.mem k).vals.length : Int):=(by rw [HZ3.out];decide);have z0:=hq8.c0;have z1:=hq8.c1;have z2:=hq8.c2;have z3:=hq8.c3;have z4:=hq8.c4;clear hb8 hz8 hq8 hcz hvz;have L8 : True:=trivial))
  go_roundw
  case rel => exact ⟨k + 1,by omega,by go_num,⟨bj HW.out (bj HT11.out (bj HT16.out (bj HT17.out HT18.out)))⟩⟩
  case measure => simp [intOf];omega
end Go.Proofs.YtofgeajaajfiaaaGreat
namespace Go.Proofs.YtofgeajaajfiaaaGreat
open Go.RowKit Go.Proofs.YtofgeajaajfiaaaGreatW.PrintWords Go.Proofs.YtofgeajaajfiaaaGreatW.PrintLast Go.Proofs.YtofgeajaajfiaaaGreatW.PrintMore Go.ChangeShapes Go.WideShapes Go.Deep
theorem CP {H : Type} {enc : TypeId × Value → H} {w : World} {held : Bool} {fuel : Nat} {cs : List Value} {y : DataW H × List MemPlace} (h : DataW.trod enc Tryz.prog w 0 (fun _ => true) held fuel 22 cs = some y) : ∃ xs A c,cs = [.slice A (List.length xs) c] ∧ xs.length ≤ c ∧ (Kd.int .u8).C w A xs.length xs ∧ Bytes xs:=by
 obtain ⟨xs,A,c,he,hcl,hr⟩:=Gu (d:=Kd.int .u8) Tryz.underlying22 (by kernel_rfl) (J6 Tryz.underlying5) _ _ _ h
 refine ⟨xs,A,c,he,hcl,hr,fun b hb => ?_⟩
 obtain ⟨i,hi,rfl⟩:=List.getElem_of_mem hb
 obtain ⟨ad,ha,hc⟩:=Oa hr i hi
 rcases open_ints Tryz.underlying22 Tryz.underlying5 (by kernel_rfl) h with ⟨hcs,_⟩ | ⟨x,l,c',zs,hcs,_,hl,hm,hz,_,hcell,hwz⟩
 ·rw [he,ha] at hcs
  simp at hcs
 ·rw [he,ha] at hcs
  simp only [List.cons.injEq,Value.slice.injEq,Option.some.injEq,and_true] at hcs
  obtain ⟨rfl,h2,rfl⟩:=hcs
  rw [if_pos rfl] at hz
  have h3:=hcell i (by omega)
  rw [hc] at h3
  have h4 : iv xs i = zs.getD i 0:=by simpa using h3
  have h5:=range_u8 hwz i
  have e : iv xs i = xs[i]:=by simp [iv,List.getD_eq_getElem?_getD,hi]
  rw [← e,h4,List.getD_eq_getElem?_getD]
  exact h5
end Go.Proofs.YtofgeajaajfiaaaGreat
namespace Go.Proofs.YtofgeajaajfiaaaGreat.fnPlayMore
open Go.ChangeShapes Go.WideShapes Go.ChangeAt Go.RowKit Go.Proofs.YtofgeajaajfiaaaGreat
theorem own : ownKnob Tryz.prog.godebug = none:=by kernel_rfl
theorem laidOut : laidOutB Tryz.prog = true:=by kernel_rfl
set_option maxRecDepth 100000 in
theorem lifted (os : Os) (started : os.Started) (H : Type) (enc : TypeId × Value → H) :
  ReturnsInHanded {} Tryz.checked os 5 .any (Rows.fnPlayMoreSpec.pre6 enc Tryz.prog Tryz.f5 Rows.fnPlayMoreRow.domain false) (Rows.fnPlayMoreSpec.post enc Tryz.prog Tryz.f5 false true false false):=by
 refine returnsInHanded_of_change_sized (C:=Tryz.checked) own started (by kernel_rfl) Tryz.func5
  (ChangeSpec.witness6 (enc:=enc) (C:=Tryz.checked) false ⟨#[],#[.slice none 0 0, .slice none 0 0], []⟩ 8 (by kernel_rfl) (by kernel_rfl) (by kernel_rfl) (by kernel_rfl)) ?_
 intro W base args ds gs before hval0 hW hcnd hsz0 _
 have hval : ∀ (j : Nat) t v,Tryz.f5.params[j]? = some t → args[j]? = some v → Value.okWide Tryz.prog W .any base t v:=hval0
 have hW':=hW
 obtain ⟨p,q,hA0,hV,rfl,hfz,hnd⟩:=hW
 have hA : DataW.TrodAll enc Tryz.prog W 0 (fun _ => true) true Tryz.f5.params.toList args.toList ds p:=hA0
 rw [Tryz.params5] at hA hval
 obtain ⟨v0,vs0,d0,ds0,p0,q0,hargs,rfl,rfl,h0,r0⟩:=trodAll_cons hA
 obtain ⟨v1,vs1,d1,ds1,p1,q1,rfl,rfl,rfl,h1,r1⟩:=trodAll_cons r0
 obtain ⟨rfl,rfl,rfl⟩:=trodAll_nil r1
 obtain rfl : args = #[v0,v1]:=by cases args;simp_all
 obtain ⟨rfl,rfl⟩:=trodVars_none hV
 have k0:=h0
 have lt0 : ∀ x ∈ p0,x.block < W.heap.size:=by obtain ⟨m,hm⟩:=k0;exact DataW.trod_lt m _ _ _ hm
 obtain ⟨a0,len0,cap0,rfl⟩:=okWide_slice Tryz.underlying22 (hval 0 22 v0 rfl rfl)
 obtain ⟨fuel0,hf0⟩:=h0
 obtain ⟨xs0,A0,c0,he0,hcl0,hr0,hby0⟩:=CP hf0
 obtain ⟨rfl,rfl,rfl⟩ : a0 = A0 ∧ len0 = xs0.length ∧ cap0 = c0:=by simpa [Value.cells] using he0
 have k1:=h1
 have lt1 : ∀ x ∈ p1,x.block < W.heap.size:=by obtain ⟨m,hm⟩:=k1;exact DataW.trod_lt m _ _ _ hm
 obtain ⟨a1,Oe,cap1,rfl⟩:=okWide_slice Tryz.underlying22 (hval 1 22 v1 rfl rfl)
 obtain ⟨fuel1,hf1⟩:=h1
 obtain ⟨xs1,A1,c1,he1,hcl1,hr1,hby1⟩:=CP hf1
 obtain ⟨rfl,rfl,rfl⟩ : a1 = A1 ∧ Oe = xs1.length ∧ cap1 = c1:=by simpa [Value.cells] using he1
 clear hA0 hval0 hsz0 hval hA
 refine (NE hcl0 hby0 hr0 (Cg hr1).2).mono fun e1 W' ⟨he1,bel⟩ => ?_
 subst he1
 exact ⟨_,rfl,_,_,_, [],_, [],hW',trodAll_mk1 (shut_bool Tryz.underlying4 _),(trodAll_cons_mk (Below.trod laidOut (by kernel_rfl) (of_decide_eq_true (by kernel_rfl)) k0 bel lt0) (trodAll_cons_mk (Below.trod laidOut (by kernel_rfl) (of_decide_eq_true (by kernel_rfl)) k1 bel lt1) trodAll_mk0)),rfl,bel.frame _,fun h => by cases h⟩
theorem k24b : (Rows.fnPlayMoreRow.lifted == Tryz.pinned.checked.prog.liftsFinal) = true:=by
 rw [show Tryz.pinned.checked.prog.liftsFinal = false from Gy]
 rfl
theorem k24c : (Tryz.pinned.checked.prog.make == some Rows.fnPlayMoreRow.make) = true:=by
 rw [show Tryz.pinned.checked.prog.make = some Make.cut from KA]
 rfl
set_option maxRecDepth 100000 in
set_option maxHeartbeats 8000000 in
theorem closed : joinedFacts Tryz.pinned.checked.prog 5 Tryz.f5 Rows.fnPlayMoreSpec Rows.fnPlayMoreRow = true:=by
 simp only [joinedFacts,Bool.and_eq_true]
 exact ⟨⟨⟨⟨⟨⟨⟨⟨⟨⟨⟨⟨⟨⟨⟨⟨⟨⟨⟨⟨⟨⟨⟨⟨⟨⟨⟨⟨⟨⟨⟨(by as_aux_lemma => kernel_rfl),(by as_aux_lemma => kernel_rfl)⟩,(by as_aux_lemma => kernel_rfl)⟩,(by as_aux_lemma => kernel_rfl)⟩,(by as_aux_lemma => kernel_rfl)⟩,(by as_aux_lemma => kernel_rfl)⟩,(by as_aux_lemma => kernel_rfl)⟩,(by as_aux_lemma => kernel_rfl)⟩,(by as_aux_lemma => kernel_rfl)⟩,(by as_aux_lemma => kernel_rfl)⟩,(by as_aux_lemma => kernel_rfl)⟩,(by as_aux_lemma => kernel_rfl)⟩,(by as_aux_lemma => kernel_rfl)⟩,(by as_aux_lemma => kernel_rfl)⟩,(by as_aux_lemma => kernel_rfl)⟩,(by as_aux_lemma => kernel_rfl)⟩,(by as_aux_lemma => kernel_rfl)⟩,(by as_aux_lemma => kernel_rfl)⟩,(by as_aux_lemma => kernel_rfl)⟩,(by as_aux_lemma => kernel_rfl)⟩,(by as_aux_lemma => kernel_rfl)⟩,(by as_aux_lemma => kernel_rfl)⟩,(by as_aux_lemma => kernel_rfl)⟩,(by as_aux_lemma => kernel_rfl)⟩,(by as_aux_lemma => kernel_rfl)⟩,J9⟩,k24b⟩,k24c⟩,(by as_aux_lemma => kernel_rfl)⟩,(by as_aux_lemma => kernel_rfl)⟩,(by as_aux_lemma => kernel_rfl)⟩,(by as_aux_lemma => kernel_rfl)⟩
theorem over : Rows.fnPlayMoreRow.holds Tryz.pinned (OpenSpec.ofChange Rows.fnPlayMoreSpec):=
 OpenClaim.holds_of_wide 5 Tryz.f5 rfl rfl rfl rfl rfl rfl rfl ⟨rfl,rfl,rfl,rfl,rfl⟩ rfl rfl rfl rfl rfl (by kernel_rfl) Tryz.func5 closed
  (of_decide_eq_true (by kernel_rfl)) (by unfold Func.isWrapper;first | (rw [if_pos (by decide +kernel)];kernel_rfl) | (rw [if_neg (by decide +kernel)];exact ⟨rfl,rfl⟩))
  (fun os started H enc _ => lifted os started H enc)
theorem proved : Rows.FnPlayMoreSaid:=over
end Go.Proofs.YtofgeajaajfiaaaGreat.fnPlayMore
namespace Go.Proofs.YtofgeajaajfiaaaGreat
theorem fnPlayMore_holds : Rows.FnPlayMoreSaid:=fnPlayMore.proved
end Go.Proofs.YtofgeajaajfiaaaGreat
