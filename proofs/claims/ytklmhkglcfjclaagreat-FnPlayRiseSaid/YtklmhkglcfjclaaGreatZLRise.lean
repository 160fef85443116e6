/- Proved here: for all bytes that are handed in, laws.FnPlayRise returns true (however often it falls, it rises to the same: behind a drawn play falls and risings in between change nothing of what is there in the end). Conditions: none beyond those that the given statement itself bears. -/
import Derived.Test.YtklmhkglcfjclaaGreatZF1
import Derived.Test.YtklmhkglcfjclaaGreatZA1
import Derived.Test.YtklmhkglcfjclaaGreatZV2
import Derived.WalkKit
import Derived.ProofKit
import Derived.OpenShut
import Derived.ShutString
import Derived.ChangeOld
import Derived.Below
import Derived.SizedLaws
set_option linter.unusedVariables false
set_option linter.unusedSimpArgs false
namespace Go.Proofs.YtklmhkglcfjclaaGreat
open Go.RowKit Go.Proofs.YtklmhkglcfjclaaGreatW.PrintWords Go.Proofs.YtklmhkglcfjclaaGreatW.PrintLast Go.Proofs.YtklmhkglcfjclaaGreatW.PrintMore
section
variable {P : Program} {ops : Array Oper} {l : List Oper} {Q : Exit → Act → World → Prop} {a : Act} {w : World} {g : Nat} {vd vm vl : Value}
theorem Qy (e : Eng) (h : ∀ w1,Go.Proofs.YtklmhkglcfjclaaGreat.Az w g e vd vm vl = w1 → wpList P ops Q l a w1) : wpList P ops Q l a (Go.Proofs.YtklmhkglcfjclaaGreat.Az w g e vd vm vl):=h _ rfl
end
set_option maxRecDepth 100000 in
set_option maxHeartbeats 16000000 in
theorem MS {w : World} {A : Option Addr} {c : Nat} {xs : List Int} {B : Option Addr} {d : Nat} {ys : List Int} (hcap : xs.length ≤ c) (hx : Bytes xs) (hr : Kd.C (Kd.int .u8) w A xs.length xs) (hy : ys.length ≤ 9223372036854775807) : Calls Tryz.prog 10 #[.slice A xs.length c, .slice B ys.length d] w (I5 w):=by
 have HR:=As hr
 have HCAP:=As hcap
 have HBY:=As hx
 have hmx:=(Co hr).2
 have H2 : True:=trivial
 have H3 : True:=trivial
 have H5 : True:=trivial
 clear hcap hx hr
 rcases lts 1048576 (xs.length : Int) with ⟨e1,b1,c1⟩ | ⟨e1,b1,c1⟩
 ·go_enter Tryz.func10,Tryz.ntmps10
  go_wp2
  go_ret
  exact ⟨rfl,Below.refl _ _⟩
 rcases lts 1048576 (ys.length : Int) with ⟨e2,b2,c2⟩ | ⟨e2,b2,c2⟩
 ·go_enter Tryz.func10,Tryz.ntmps10
  go_wp2
  go_ret
  exact ⟨rfl,Below.refl _ _⟩
 go_enter Tryz.func10,Tryz.ntmps10
 go_wp2_with (go_at_call 19;refine (Cv HCAP.out HBY.out (Below.refl w.heap.size w) HR.out).mono ?_;rintro x w1 ⟨V,vs,rfl,hV,hlen,hb1⟩;obtain ⟨V1,v1_,rfl,hcv,hc⟩:=Kd.Cj hV;have HVC:=As hc;have HCV:=As hcv;have HLN:=As hlen;have HB1:=As hb1;clear hV hcv hc hlen hb1)
 obtain ⟨E,bb,hE⟩ : ∃ E bb,JH vs = (E,bb):=⟨_,_,rfl⟩
 have HE:=As hE
 clear hE
 have K0 : True:=trivial
 cases bb
 ·go_wp2_with (first | (clear K0;clear H2;go_at_call 20;refine (Br (c:=v1_) (Below.refl w1.heap.size w1) HVC.out).mono ?_;rw [HE.out];rintro x w2 ⟨vd,vm,vl,rfl,ho,hb2⟩;obtain ⟨Gd,g1_,Gm,g2_,Gl,g3_,rfl,rfl,rfl,hgcl,hc⟩:=ho.reads;have HG2:=As hc;have HGL:=As hgcl;have HB2:=As hb2;clear ho hb2 hc hgcl;have K1 : True:=trivial) | (clear K1;clear H3;refine Ai (vd:=.slice Gd E.disk.length g1_) (vm:=.slice Gm E.mem.length g2_) (vl:=.slice Gl E.log.length g3_) E ?_;intro w3 hb3 hz3 hq3;have HG3:=As (HG2.out.up hb3);have HQ3:=As hq3;have HB3:=As (bj HB2.out hb3);clear hb3 hz3 hq3;have K2 : True:=trivial) | (clear K2;go_at_call 21;refine (AV (c:=v1_) HB3.out HVC.out).mono ?_;rw [HE.out];rintro x w4 ⟨vd,vm,vl,rfl,ho,hb4⟩;obtain ⟨Jd,j1_,Jm,j2_,Jl,j3_,rfl,rfl,rfl, -,hc⟩:=ho.reads;have HJ4:=As hc;have HB4:=As hb4;clear ho hb4 hc;have K3 : True:=trivial) | (clear K3;clear H5;refine Ai (vd:=.slice Jd E.disk.length j1_) (vm:=.slice Jm E.mem.length j2_) (vl:=.slice Jl E.log.length j3_) E ?_;intro w5 hb5 hz5 hq5;have HJ5:=As (HJ4.out.up hb5);have HQ5:=As hq5;have HT5:=As (bj HB4.out hb5);have HN5:=As (Below.refl w5.heap.size w5);clear hb5 hz5 hq5;have g0:=(HQ3.out.up HT5.out).c0;have g1:=(HQ3.out.up HT5.out).c1;have g2:=(HQ3.out.up HT5.out).c2;have g3:=(HQ3.out.up HT5.out).c3;have g4:=(HQ3.out.up HT5.out).c4;have s0:=(HQ5.out).c0;have s1:=(HQ5.out).c1;have s2:=(HQ5.out).c2;have s3:=(HQ5.out).c3;have s4:=(HQ5.out).c4;have K4 : True:=trivial) | (clear K4;go_at_call 22;refine (Bc (cd:=g1_) (cm:=g2_) (cl:=g3_) (dd:=j1_) (dm:=j2_) (dl:=j3_) (bj HT5.out HN5.out) HG3.out HN5.out HJ5.out).mono ?_;rintro x w6 ⟨rfl,hb6⟩;have HN6:=As (bj HN5.out hb6);clear HN5 hb6;clear g0 g1 g2 g3 g4 s0 s1 s2 s3 s4;have HN5:=HN6;clear HN6;have g0:=(HQ3.out.up (bj HT5.out HN5.out)).c0;have g1:=(HQ3.out.up (bj HT5.out HN5.out)).c1;have g2:=(HQ3.out.up (bj HT5.out HN5.out)).c2;have g3:=(HQ3.out.up (bj HT5.out HN5.out)).c3;have g4:=(HQ3.out.up (bj HT5.out HN5.out)).c4;have s0:=(HQ5.out.up HN5.out).c0;have s1:=(HQ5.out.up HN5.out).c1;have s2:=(HQ5.out.up HN5.out).c2;have s3:=(HQ5.out.up HN5.out).c3;have s4:=(HQ5.out.up HN5.out).c4;have K5 : True:=trivial) | (clear K5;go_at_call 22;refine (Bc (cd:=g1_) (cm:=g2_) (cl:=g3_) (dd:=j1_) (dm:=j2_) (dl:=j3_) (bj HT5.out HN5.out) HG3.out HN5.out HJ5.out).mono ?_;rintro x w6 ⟨rfl,hb6⟩;have HN6:=As (bj HN5.out hb6);clear HN5 hb6;clear g0 g1 g2 g3 g4 s0 s1 s2 s3 s4;have HN5:=HN6;clear HN6;have g0:=(HQ3.out.up (bj HT5.out HN5.out)).c0;have g1:=(HQ3.out.up (bj HT5.out HN5.out)).c1;have g2:=(HQ3.out.up (bj HT5.out HN5.out)).c2;have g3:=(HQ3.out.up (bj HT5.out HN5.out)).c3;have g4:=(HQ3.out.up (bj HT5.out HN5.out)).c4;have s0:=(HQ5.out.up HN5.out).c0;have s1:=(HQ5.out.up HN5.out).c1;have s2:=(HQ5.out.up HN5.out).c2;have s3:=(HQ5.out.up HN5.out).c3;have s4:=(HQ5.out.up HN5.out).c4;have K6 : True:=trivial))
  go_ret
  exact ⟨rfl,bj HB1.out (bj HB3.out (bj HT5.out HN5.out))⟩
 have HRUN:=As (Gn HE.out)
 have HINV : Ac (∃ C,Inv E C (3 * 40)):=⟨by rw [HRUN.out.2];exact inv_all vs HRUN.out.1⟩
 have hys : (ys.length : Int) ≤ 1048576:=e2.out
 obtain ⟨C,hI⟩:=HINV.out
 have HI:=As hI
 obtain ⟨A',hA⟩ : ∃ A',KO E 150 = A':=⟨_,rfl⟩
 obtain ⟨X0,hX0⟩ : ∃ X0,AP E ⟨8,0,0,0,150, []⟩ = X0:=⟨_,rfl⟩
 have HAH:=As (show Pg A'.mem C by rw [← hA];exact hI.NQ (by decide))
 have HR0:=As (show Kg C 120 X0 by rw [← hX0];exact Kg.start hI (by decide))
 have HA:=As hA
 have HX0:=As hX0
 clear hA hX0 hI
 have H6 : True:=trivial
 have H7 : True:=trivial
 have H8 : True:=trivial
 go_wp2_with (first | (clear K0;clear H2;go_at_call 20;refine (Br (c:=v1_) (Below.refl w1.heap.size w1) HVC.out).mono ?_;rw [HE.out];rintro x w2 ⟨vd,vm,vl,rfl,ho,hb2⟩;obtain ⟨Gd,g1_,Gm,g2_,Gl,g3_,rfl,rfl,rfl,hgcl,hc⟩:=ho.reads;have HG2:=As hc;have HGL:=As hgcl;have HB2:=As hb2;clear ho hb2 hc hgcl;have K1 : True:=trivial) | (clear K1;clear H3;refine Ai (vd:=.slice Gd E.disk.length g1_) (vm:=.slice Gm E.mem.length g2_) (vl:=.slice Gl E.log.length g3_) E ?_;intro w3 hb3 hz3 hq3;have HG3:=As (HG2.out.up hb3);have HQ3:=As hq3;have HB3:=As (bj HB2.out hb3);clear hb3 hz3 hq3;have K2 : True:=trivial) | (clear K2;go_at_call 21;refine (AV (c:=v1_) HB3.out HVC.out).mono ?_;rw [HE.out];rintro x w4 ⟨vd,vm,vl,rfl,ho,hb4⟩;obtain ⟨Jd,j1_,Jm,j2_,Jl,j3_,rfl,rfl,rfl, -,hc⟩:=ho.reads;have HJ4:=As hc;have HB4:=As hb4;clear ho hb4 hc;have K3 : True:=trivial) | (clear K3;clear H5;refine Ai (vd:=.slice Jd E.disk.length j1_) (vm:=.slice Jm E.mem.length j2_) (vl:=.slice Jl E.log.length j3_) E ?_;intro w5 hb5 hz5 hq5;have HJ5:=As (HJ4.out.up hb5);have HQ5:=As hq5;have HT5:=As (bj HB4.out hb5);have HN5:=As (Below.refl w5.heap.size w5);clear hb5 hz5 hq5;have g0:=(HQ3.out.up HT5.out).c0;have g1:=(HQ3.out.up HT5.out).c1;have g2:=(HQ3.out.up HT5.out).c2;have g3:=(HQ3.out.up HT5.out).c3;have g4:=(HQ3.out.up HT5.out).c4;have s0:=(HQ5.out).c0;have s1:=(HQ5.out).c1;have s2:=(HQ5.out).c2;have s3:=(HQ5.out).c3;have s4:=(HQ5.out).c4;have K4 : True:=trivial) | (clear K4;go_at_call 22;refine (Bc (cd:=g1_) (cm:=g2_) (cl:=g3_) (dd:=j1_) (dm:=j2_) (dl:=j3_) (bj HT5.out HN5.out) HG3.out HN5.out HJ5.out).mono ?_;rintro x w6 ⟨rfl,hb6⟩;have HN6:=As (bj HN5.out hb6);clear HN5 hb6;clear g0 g1 g2 g3 g4 s0 s1 s2 s3 s4;have HN5:=HN6;clear HN6;have g0:=(HQ3.out.up (bj HT5.out HN5.out)).c0;have g1:=(HQ3.out.up (bj HT5.out HN5.out)).c1;have g2:=(HQ3.out.up (bj HT5.out HN5.out)).c2;have g3:=(HQ3.out.up (bj HT5.out HN5.out)).c3;have g4:=(HQ3.out.up (bj HT5.out HN5.out)).c4;have s0:=(HQ5.out.up HN5.out).c0;have s1:=(HQ5.out.up HN5.out).c1;have s2:=(HQ5.out.up HN5.out).c2;have s3:=(HQ5.out.up HN5.out).c3;have s4:=(HQ5.out.up HN5.out).c4;have K5 : True:=trivial) | (clear K5;go_at_call 34;refine (Je (w0:=w6) (cd:=g1_) (cm:=g2_) (cl:=g3_) 150 HI.out (by omega) HGL.out (Below.refl _ _) (HG3.out.up (bj HT5.out HN5.out))).mono ?_;rw [HA.out];rintro x w7 ⟨vd,vm,vl,rfl,ho,hb7⟩;obtain ⟨Ad,a1_,Am,a2_,Al,a3_,rfl,rfl,rfl, -,hc⟩:=ho.reads;have HAC:=As hc;have HB7:=As hb7;clear ho hb7 hc;clear g0 g1 g2 g3 g4 s0 s1 s2 s3 s4;have K6 : True:=trivial) | (clear K6;refine Ai (vd:=.slice Ad A'.disk.length a1_) (vm:=.slice Am A'.mem.length a2_) (vl:=.slice Al A'.log.length a3_) A' ?_;intro w8 hb8 hz8 hq8;have HQ8:=As hq8;have HB8:=As hb8;have HGW8:=As (bj HT5.out (bj HN5.out (bj HB7.out hb8)));clear hb8 hz8 hq8;have g0:=(HQ3.out.up HGW8.out).c0;have g1:=(HQ3.out.up HGW8.out).c1;have g2:=(HQ3.out.up HGW8.out).c2;have g3:=(HQ3.out.up HGW8.out).c3;have g4:=(HQ3.out.up HGW8.out).c4;have K7 : True:=trivial) | (clear K7;go_at_call 23;refine (Ce (w0:=w8) (cd:=g1_) (cm:=g2_) (cl:=g3_) (c:=0) ⟨8,0,0,0,150, []⟩ HI.out (by omega) HGL.out (Below.refl _ _) (HG3.out.up HGW8.out) (IJ _)).mono ?_;rw [HX0.out];rintro x w9 ⟨vd,vm,vl,rfl,ho,hb9⟩;obtain ⟨Xd,x1_,Xm,x2_,Xl,x3_,rfl,rfl,rfl, -, -⟩:=ho.reads;have HO9:=As ho;have HB9:=As hb9;clear ho hb9;clear g0 g1 g2 g3 g4;have K8 : True:=trivial))
 obtain ⟨w10,hw10⟩ : ∃ w10,w9.alloc (Obj.cells #[.slice Xd X0.disk.length x1_, .slice Xm X0.mem.length x2_, .slice Xl X0.log.length x3_, .int .i64 X0.safe, .bool X0.down] 30) = w10:=⟨_,rfl⟩
 rw [hw10]
 have HEG : Ac (BU w8 w10 w9.heap.size X0):=⟨by have hb10 : Below w9.heap.size w9 w10:=by { rw [← hw10];exact Ah (Below.refl _ _) _ };have hq10 : Aj w10 w9.heap.size X0 (.slice Xd X0.disk.length x1_) (.slice Xm X0.mem.length x2_) (.slice Xl X0.log.length x3_):=by { rw [← hw10];exact Aj.mk1 _ _ _ _ _ };exact ⟨⟨_,_,_,hq10,HO9.out.below hb10⟩,bj HB9.out hb10,HB9.out.size⟩⟩
 clear hw10
 go_loopw [12] (fun i wr => ∃ (k : Nat) (X : Eng),k ≤ 3 ∧ i = .int .i64 (k : Int) ∧ Ac (Kg C 120 X) ∧ Ac (BU w8 wr w9.heap.size X)) (fun i _ => (3 - intOf i).toNat)
 case atStart => exact ⟨0,X0,by decide,rfl,HR0,HEG⟩
 case round =>
  obtain ⟨k,X,hk,rfl,HRI,HE⟩:=hrel
  obtain ⟨⟨vd,vm,vl,hq,ho⟩, -, -⟩:=HE.out
  obtain ⟨Ed,m1,Em,m2,El,m3,rfl,rfl,rfl,hcl,hrd⟩:=ho.reads
  have HRD:=As hrd
  have HQ:=As hq
  have HCL:=As hcl
  have x0:=hq.c0
  have x1:=hq.c1
  have x2:=hq.c2
  have x3:=hq.c3
  have x4:=hq.c4
  clear hq ho hrd hcl
  by_cases hlt : k < 3
  ·have hki : (k : Int) < 3:=by omega
   obtain ⟨n,hn⟩ : ∃ n : Int,((k : Int) + (ys.length : Int)) % 3 = n:=⟨_,rfl⟩
   obtain ⟨m,hm⟩ : ∃ m : Int,(ys.length : Int) % 2 = m:=⟨_,rfl⟩
   have hm1 : 0 ≤ m ∧ m ≤ 1:=by omega
   have hwr : IntKind.i64.wrap ((k : Int) + (ys.length : Int)) = (k : Int) + (ys.length : Int):=by simp (disch:=omega) only [IntWalk.i64_in]
   obtain ⟨X1,hX1⟩ : ∃ X1,AP X ⟨9,0,0,0,n, []⟩ = X1:=⟨_,rfl⟩
   obtain ⟨X2,hX2⟩ : ∃ X2,AP X1 ⟨8,0,0,0,X1.log.length - m, []⟩ = X2:=⟨_,rfl⟩
   have HR2:=As (show Kg C 120 X2 by rw [← hX2, ← hX1];exact HRI.out.round n hm1.2)
   have HI1:=As (show Inv X1 C 120 by rw [← hX1];exact HRI.out.1.TB n)
   have hl1:=Bg HI1.out.core.log
   have hws : IntKind.i64.wrap ((X1.log.length : Int) - m) = (X1.log.length : Int) - m:=by simp (disch:=omega) only [IntWalk.i64_in]
   have HX1:=As hX1
   have HX2:=As hX2
   have H6 : True:=trivial
   clear hX1 hX2
   have L0 : True:=trivial
   go_wp2_with (first | (clear L0;go_at_call 23;refine (Ce (w0:=wr) (cd:=m1) (cm:=m2) (cl:=m3) (c:=0) ⟨9,0,0,0,n, []⟩ HRI.out.1 (by omega) HCL.out (Below.refl _ _) HRD.out (IJ _)).mono ?_;rw [HX1.out];rintro x w11 ⟨ud,um,ul,rfl,ho,hb5⟩;obtain ⟨Fd,k1,Fm,k2,Fl,k3,rfl,rfl,rfl,hcl,hc⟩:=ho.reads;have HO11:=As ho;have HQ11:=As (HQ.out.up hb5);have HCL1:=As hcl;have HB11:=As (bj HE.out.bel hb5);have HS11:=As hb5.size;clear ho hb5 hcl hc x0 x1 x2 x3 x4;have y0:=HQ11.out.c0;have y1:=HQ11.out.c1;have y2:=HQ11.out.c2;have y3:=HQ11.out.c3;have y4:=HQ11.out.c4;have f0:=HQ11.out.frz 0;have f1:=HQ11.out.frz 1;have f2:=HQ11.out.frz 2;have f3:=HQ11.out.frz 3;have f4:=HQ11.out.frz 4;have L1 : True:=trivial) | (clear L1;with_reducible refine Qy (vd:=.slice Fd X1.disk.length k1) (vm:=.slice Fm X1.mem.length k2) (vl:=.slice Fl X1.log.length k3) X1 ?_;intro w12 hw12;have HE12 : Ac (BU w8 w12 w9.heap.size X1):=⟨by rw [← hw12];exact ⟨⟨_,_,_,HQ11.out.Az X1 _ _ _,(HO11.out.lower (b':=w8.heap.size) (by have:=HE.out.bel.size;omega)).Az (f:=X1) HQ11.out⟩,Ao HB11.out HE.out.ge X1 _ _ _,HE.out.ge⟩⟩;have HQ12 : Ac (Aj w12 w9.heap.size X1 (.slice Fd X1.disk.length k1) (.slice Fm X1.mem.length k2) (.slice Fl X1.log.length k3)):=⟨by rw [← hw12];exact HQ11.out.Az X1 _ _ _⟩;have HC12 : Ac (Dn w12 X1 Fd Fm Fl):=⟨by have h:=HO11.out.Az (f:=X1) (xd:=.slice Fd X1.disk.length k1) (xm:=.slice Fm X1.mem.length k2) (xl:=.slice Fl X1.log.length k3) HQ11.out;rw [hw12] at h;obtain ⟨_,_,_,_,_,_,h1,h2,h3, -,h4⟩:=h.reads;injection h1 with h1;injection h2 with h2;injection h3 with h3;subst h1 h2 h3;exact h4⟩;clear hw12 y0 y1 y2 y3 y4 f0 f1 f2 f3 f4;have y0:=HQ12.out.c0;have y1:=HQ12.out.c1;have y2:=HQ12.out.c2;have y3:=HQ12.out.c3;have y4:=HQ12.out.c4;have L2 : True:=trivial) | (clear L2;go_at_call 23;refine (Ce (w0:=w12) (cd:=k1) (cm:=k2) (cl:=k3) (c:=0) ⟨8,0,0,0,X1.log.length - m, []⟩ HI1.out (by omega) HCL1.out (Below.refl _ _) HC12.out (IJ _)).mono ?_;rw [HX2.out];rintro x w13 ⟨ud,um,ul,rfl,ho,hb5⟩;obtain ⟨Hd,j1,Hm,j2,Hl,j3,rfl,rfl,rfl, -, -⟩:=ho.reads;have HO13:=As (ho.lower (b':=w8.heap.size) HE12.out.bel.size);have HQ13:=As (HQ12.out.up hb5);have HB13:=As (bj HE12.out.bel hb5);clear ho hb5 y0 y1 y2 y3 y4;have y0:=HQ13.out.c0;have y1:=HQ13.out.c1;have y2:=HQ13.out.c2;have y3:=HQ13.out.c3;have y4:=HQ13.out.c4;have f0:=HQ13.out.frz 0;have f1:=HQ13.out.frz 1;have f2:=HQ13.out.frz 2;have f3:=HQ13.out.frz 3;have f4:=HQ13.out.frz 4;have L3 : True:=trivial))
   go_roundw
   case rel => exact ⟨k + 1,X2,by omega,by go_num,HR2,⟨⟨_,_,_,HQ13.out.Az X2 _ _ _,HO13.out.Az (f:=X2) HQ13.out⟩,Ao HB13.out HE.out.ge X2 _ _ _,HE.out.ge⟩⟩
   case measure => simp [intOf];omega
  ·have hki : ¬ (k : Int) < 3:=by omega
   obtain ⟨Y,hY⟩ : ∃ Y,AP X ⟨9,0,0,0,150, []⟩ = Y:=⟨_,rfl⟩
   have hl:=HRI.out.last
   rw [hY] at hl
   have HLS:=As hl
   have HYD:=As hl.2.1
   have HY:=As hY
   have H6 : True:=trivial
   clear hl hY
   have L0 : True:=trivial
   go_wp2_with (first | (clear L0;go_at_call 23;refine (Ce (w0:=wr) (cd:=m1) (cm:=m2) (cl:=m3) (c:=0) ⟨9,0,0,0,150, []⟩ HRI.out.1 (by omega) HCL.out (Below.refl _ _) HRD.out (IJ _)).mono ?_;rw [HY.out];rintro x w11 ⟨ud,um,ul,rfl,ho,hb5⟩;obtain ⟨Fd,k1,Fm,k2,Fl,k3,rfl,rfl,rfl,hcl,hc⟩:=ho.reads;have HO11:=As ho;have HQ11:=As (HQ.out.up hb5);have HB11:=As (bj HE.out.bel hb5);clear ho hb5 hcl hc x0 x1 x2 x3 x4;have y0:=HQ11.out.c0;have y1:=HQ11.out.c1;have y2:=HQ11.out.c2;have y3:=HQ11.out.c3;have y4:=HQ11.out.c4;have f0:=HQ11.out.frz 0;have f1:=HQ11.out.frz 1;have f2:=HQ11.out.frz 2;have f3:=HQ11.out.frz 3;have f4:=HQ11.out.frz 4;have L1 : True:=trivial) | (clear L1;with_reducible refine Qy (vd:=.slice Fd Y.disk.length k1) (vm:=.slice Fm Y.mem.length k2) (vl:=.slice Fl Y.log.length k3) Y ?_;intro w12 hw12;have HB12 : Ac (Below w8.heap.size w8 w12):=⟨by rw [← hw12];exact Ao HB11.out HE.out.ge Y _ _ _⟩;have HQ12 : Ac (Aj w12 w9.heap.size Y (.slice Fd Y.disk.length k1) (.slice Fm Y.mem.length k2) (.slice Fl Y.log.length k3)):=⟨by rw [← hw12];exact HQ11.out.Az Y _ _ _⟩;have HC12 : Ac (Dn w12 Y Fd Fm Fl):=⟨by have h:=HO11.out.Az (f:=Y) (xd:=.slice Fd Y.disk.length k1) (xm:=.slice Fm Y.mem.length k2) (xl:=.slice Fl Y.log.length k3) HQ11.out;rw [hw12] at h;obtain ⟨_,_,_,_,_,_,h1,h2,h3, -,h4⟩:=h.reads;injection h1 with h1;injection h2 with h2;injection h3 with h3;subst h1 h2 h3;exact h4⟩;clear hw12 y0 y1 y2 y3 y4 f0 f1 f2 f3 f4;have y0:=HQ12.out.c0;have y1:=HQ12.out.c1;have y2:=HQ12.out.c2;have y3:=HQ12.out.c3;have y4:=HQ12.out.c4;rw [HYD.out] at y4;have a0:=(HQ8.out.up HB12.out).c0;have a1:=(HQ8.out.up HB12.out).c1;have a2:=(HQ8.out.up HB12.out).c2;have a3:=(HQ8.out.up HB12.out).c3;have a4:=(HQ8.out.up HB12.out).c4;have L2 : True:=trivial) | (clear L2;go_at_call 35;refine (K4 (c:=k2) (d:=a2_) (HLS.out.2.2.same HAH.out) (Below.refl w12.heap.size w12) HC12.out.m (bj HB8.out HB12.out) HAC.out.m).mono ?_;rintro x w13 ⟨rfl,hb13⟩;have HB13:=As (bj HB12.out hb13);replace y4:=bc hb13 y4;clear hb13 y0 y1 y2 y3 a0 a1 a2 a3 a4;have L3 : True:=trivial))
   go_ret
   exact ⟨rfl,bj HB1.out (bj HB3.out (bj HGW8.out HB13.out))⟩
end Go.Proofs.YtklmhkglcfjclaaGreat
namespace Go.Proofs.YtklmhkglcfjclaaGreat
open Go.RowKit Go.Proofs.YtklmhkglcfjclaaGreatW.PrintWords Go.Proofs.YtklmhkglcfjclaaGreatW.PrintLast Go.Proofs.YtklmhkglcfjclaaGreatW.PrintMore Go.ChangeShapes Go.WideShapes Go.Deep
theorem BS {H : Type} {enc : TypeId × Value → H} {w : World} {held : Bool} {fuel : Nat} {cs : List Value} {y : DataW H × List MemPlace} (h : DataW.trod enc Tryz.prog w 0 (fun _ => true) held fuel 37 cs = some y) : ∃ xs A c,cs = [.slice A (List.length xs) c] ∧ xs.length ≤ c ∧ (Kd.int .u8).C w A xs.length xs ∧ Bytes xs:=by
 obtain ⟨xs,A,c,he,hcl,hr⟩:=E9 (d:=Kd.int .u8) Tryz.underlying37 (by kernel_rfl) (FB Tryz.underlying5) _ _ _ h
 refine ⟨xs,A,c,he,hcl,hr,fun b hb => ?_⟩
 obtain ⟨i,hi,rfl⟩:=List.getElem_of_mem hb
 obtain ⟨ad,ha,hc⟩:=Kb hr i hi
 rcases open_ints Tryz.underlying37 Tryz.underlying5 (by kernel_rfl) h with ⟨hcs,_⟩ | ⟨x,l,c',zs,hcs,_,hl,hm,hz,_,hcell,hwz⟩
 ·rw [he,ha] at hcs
  simp at hcs
 ·rw [he,ha] at hcs
  simp only [List.cons.injEq,Value.slice.injEq,Option.some.injEq,and_true] at hcs
  obtain ⟨rfl,h2,rfl⟩:=hcs
  rw [if_pos rfl] at hz
  have h3:=hcell i (by omega)
  rw [hc] at h3
  have h4 : iv xs i = zs.getD i 0:=by simpa using h3
  have h5:=range_u8 hwz i
  have e : iv xs i = xs[i]:=by simp [iv,List.getD_eq_getElem?_getD,hi]
  rw [← e,h4,List.getD_eq_getElem?_getD]
  exact h5
end Go.Proofs.YtklmhkglcfjclaaGreat
namespace Go.Proofs.YtklmhkglcfjclaaGreat.fnPlayRise
open Go.ChangeShapes Go.WideShapes Go.ChangeAt Go.RowKit Go.Proofs.YtklmhkglcfjclaaGreat
theorem own : ownKnob Tryz.prog.godebug = none:=by kernel_rfl
theorem laidOut : laidOutB Tryz.prog = true:=by kernel_rfl
set_option maxRecDepth 100000 in
theorem lifted (os : Os) (started : os.Started) (H : Type) (enc : TypeId × Value → H) :
  ReturnsInHanded {} Tryz.checked os 10 .any (Rows.fnPlayRiseSpec.pre6 enc Tryz.prog Tryz.f10 Rows.fnPlayRiseRow.domain false) (Rows.fnPlayRiseSpec.post enc Tryz.prog Tryz.f10 false true false false):=by
 refine returnsInHanded_of_change_sized (C:=Tryz.checked) own started (by kernel_rfl) Tryz.func10
  (ChangeSpec.witness6 (enc:=enc) (C:=Tryz.checked) false ⟨#[],#[.slice none 0 0, .slice none 0 0], []⟩ 8 (by kernel_rfl) (by kernel_rfl) (by kernel_rfl) (by kernel_rfl)) ?_
 intro W base args ds gs before hval0 hW hcnd hsz0 _
 have hval : ∀ (j : Nat) t v,Tryz.f10.params[j]? = some t → args[j]? = some v → Value.okWide Tryz.prog W .any base t v:=hval0
 have hW':=hW
 obtain ⟨p,q,hA0,hV,rfl,hfz,hnd⟩:=hW
 have hA : DataW.TrodAll enc Tryz.prog W 0 (fun _ => true) true Tryz.f10.params.toList args.toList ds p:=hA0
 rw [Tryz.params10] at hA hval
 obtain ⟨v0,vs0,d0,ds0,p0,q0,hargs,rfl,rfl,h0,r0⟩:=trodAll_cons hA
 obtain ⟨v1,vs1,d1,ds1,p1,q1,rfl,rfl,rfl,h1,r1⟩:=trodAll_cons r0
 obtain ⟨rfl,rfl,rfl⟩:=trodAll_nil r1
 obtain rfl : args = #[v0,v1]:=by cases args;simp_all
 obtain ⟨rfl,rfl⟩:=trodVars_none hV
 have k0:=h0
 have lt0 : ∀ x ∈ p0,x.block < W.heap.size:=by obtain ⟨m,hm⟩:=k0;exact DataW.trod_lt m _ _ _ hm
 obtain ⟨a0,len0,cap0,rfl⟩:=okWide_slice Tryz.underlying37 (hval 0 37 v0 rfl rfl)
 obtain ⟨fuel0,hf0⟩:=h0
 obtain ⟨xs0,A0,c0,he0,hcl0,hr0,hby0⟩:=BS hf0
 obtain ⟨rfl,rfl,rfl⟩ : a0 = A0 ∧ len0 = xs0.length ∧ cap0 = c0:=by simpa [Value.cells] using he0
 have k1:=h1
 have lt1 : ∀ x ∈ p1,x.block < W.heap.size:=by obtain ⟨m,hm⟩:=k1;exact DataW.trod_lt m _ _ _ hm
 obtain ⟨a1,NF,cap1,rfl⟩:=okWide_slice Tryz.underlying37 (hval 1 37 v1 rfl rfl)
 obtain ⟨fuel1,hf1⟩:=h1
 obtain ⟨xs1,A1,c1,he1,hcl1,hr1,hby1⟩:=BS hf1
 obtain ⟨rfl,rfl,rfl⟩ : a1 = A1 ∧ NF = xs1.length ∧ cap1 = c1:=by simpa [Value.cells] using he1
 clear hA0 hval0 hsz0 hval hA
 refine (MS hcl0 hby0 hr0 (Co hr1).2).mono fun e1 W' ⟨he1,bel⟩ => ?_
 subst he1
 exact ⟨_,rfl,_,_,_, [],_, [],hW',trodAll_mk1 (shut_bool Tryz.underlying4 _),(trodAll_cons_mk (Below.trod laidOut (by kernel_rfl) (of_decide_eq_true (by kernel_rfl)) k0 bel lt0) (trodAll_cons_mk (Below.trod laidOut (by kernel_rfl) (of_decide_eq_true (by kernel_rfl)) k1 bel lt1) trodAll_mk0)),rfl,bel.frame _,fun h => by cases h⟩
theorem k24b : (Rows.fnPlayRiseRow.lifted == Tryz.pinned.checked.prog.liftsFinal) = true:=by
 rw [show Tryz.pinned.checked.prog.liftsFinal = false from Ea]
 rfl
theorem k24c : (Tryz.pinned.checked.prog.make == some Rows.fnPlayRiseRow.make) = true:=by
 rw [show Tryz.pinned.checked.prog.make = some Make.cut from Gs]
 rfl
set_option maxRecDepth 100000 in
set_option maxHeartbeats 8000000 in
theorem closed : joinedFacts Tryz.pinned.checked.prog 10 Tryz.f10 Rows.fnPlayRiseSpec Rows.fnPlayRiseRow = true:=by
 simp only [joinedFacts,Bool.and_eq_true]
 exact ⟨⟨⟨⟨⟨⟨⟨⟨⟨⟨⟨⟨⟨⟨⟨⟨⟨⟨⟨⟨⟨⟨⟨⟨⟨⟨⟨⟨⟨⟨⟨(by as_aux_lemma => kernel_rfl),(by as_aux_lemma => kernel_rfl)⟩,(by as_aux_lemma => kernel_rfl)⟩,(by as_aux_lemma => kernel_rfl)⟩,(by as_aux_lemma => kernel_rfl)⟩,(by as_aux_lemma => kernel_rfl)⟩,(by as_aux_lemma => kernel_rfl)⟩,(by as_aux_lemma => kernel_rfl)⟩,(by as_aux_lemma => kernel_rfl)⟩,(by as_aux_lemma => kernel_rfl)⟩,(by as_aux_lemma => kernel_rfl)⟩,(by as_aux_lemma => kernel_rfl)⟩,(by as_aux_lemma => kernel_rfl)⟩,(by as_aux_lemma => kernel_rfl)⟩,(by as_aux_lemma => kernel_rfl)⟩,(by as_aux_lemma => kernel_rfl)⟩,(by as_aux_lemma => kernel_rfl)⟩,(by as_aux_lemma => kernel_rfl)⟩,(by as_aux_lemma => kernel_rfl)⟩,(by as_aux_lemma => kernel_rfl)⟩,(by as_aux_lemma => kernel_rfl)⟩,(by as_aux_lemma => kernel_rfl)⟩,(by as_aux_lemma => kernel_rfl)⟩,(by as_aux_lemma => kernel_rfl)⟩,(by as_aux_lemma => kernel_rfl)⟩,FD⟩,k24b⟩,k24c⟩,(by as_aux_lemma => kernel_rfl)⟩,(by as_aux_lemma => kernel_rfl)⟩,(by as_aux_lemma => kernel_rfl)⟩,(by as_aux_lemma => kernel_rfl)⟩
theorem over : Rows.fnPlayRiseRow.holds Tryz.pinned (OpenSpec.ofChange Rows.fnPlayRiseSpec):=
 OpenClaim.holds_of_wide 10 Tryz.f10 rfl rfl rfl rfl rfl rfl rfl ⟨rfl,rfl,rfl,rfl,rfl⟩ rfl rfl rfl rfl rfl (by kernel_rfl) Tryz.func10 closed
  (of_decide_eq_true (by kernel_rfl)) (by unfold Func.isWrapper;first | (rw [if_pos (by decide +kernel)];kernel_rfl) | (rw [if_neg (by decide +kernel)];exact ⟨rfl,rfl⟩))
  (fun os started H enc _ => lifted os started H enc)
theorem proved : Rows.FnPlayRiseSaid:=over
end Go.Proofs.YtklmhkglcfjclaaGreat.fnPlayRise
namespace Go.Proofs.YtklmhkglcfjclaaGreat
theorem fnPlayRise_holds : Rows.FnPlayRiseSaid:=fnPlayRise.proved
end Go.Proofs.YtklmhkglcfjclaaGreat
