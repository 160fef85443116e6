/- Proved here: for all bytes that are handed in, laws.FnPlayDown returns true (who fell does nothing but rise: behind a drawn play, and a fall, no put, own, done, undo, write or force changes the engine). Conditions: none beyond those that the given statement itself bears. -/
import Derived.Test.YtklmhkglcfjclaaGreatZF1
import Derived.Test.YtklmhkglcfjclaaGreatZA1
import Derived.Test.YtklmhkglcfjclaaGreatZV2
import Derived.WalkKit
import Derived.ProofKit
import Derived.OpenShut
import Derived.ShutString
import Derived.ChangeOld
import Derived.Below
import Derived.SizedLaws
set_option linter.unusedVariables false
set_option linter.unusedSimpArgs false
namespace Go.Proofs.YtklmhkglcfjclaaGreat
open Go.RowKit Go.Proofs.YtklmhkglcfjclaaGreatW.PrintWords Go.Proofs.YtklmhkglcfjclaaGreatW.PrintLast Go.Proofs.YtklmhkglcfjclaaGreatW.PrintMore
theorem Ta (W : World) (cs : Array Value) (t : TypeId) (i : Nat) : (W.alloc (.cells cs t)).cell? ⟨W.heap.size,i,none⟩ = cs[i]?:=by
 have h : (W.alloc (.cells cs t)).heap[W.heap.size]? = some (.cells cs t (0,0)):=by
  show (W.heap.push _)[W.heap.size]? = _
  simp
 unfold World.cell?
 rw [h]
 rfl
def Ff (v : Evt) : List Value := [.int .i64 v.kind, .int .i64 v.tx, .int .i64 v.page, .int .i64 v.slot, .int .i64 v.n, .slice none 0 0]
theorem WL : ∀ (vs : List Evt) (i k : Nat) (p : Evt),vs[i]? = some p → k < 6 → (vs.flatMap Ff)[i * 6 + k]? = (Ff p)[k]?
 | [],i,k,p,h,_ => by simp at h
 | v :: vs,0,k,p,h,hk => by
  obtain rfl : v = p:=by simpa using h
  rw [List.flatMap_cons,Nat.zero_mul,Nat.zero_add,List.getElem?_append_left (by simpa [Ff] using hk)]
 | v :: vs,i + 1,k,p,h,hk => by
  rw [List.flatMap_cons,List.getElem?_append_right (by simp [Ff];omega)]
  rw [show (i + 1) * 6 + k - (Ff v).length = i * 6 + k by simp [Ff];omega]
  exact WL vs i k p (by simpa using h) hk
theorem XP (w : World) (x : Evt) (hx : x.vals = []) : kEvt.K w x (Ff x):=by
 have h0 : (Kd.int .i64).C w none x.vals.length x.vals:=by rw [hx];exact ⟨rfl,by simp,fun h0 => by simp at h0⟩
 have e : Ff x = [.int .i64 x.kind, .int .i64 x.tx, .int .i64 x.page, .int .i64 x.slot, .int .i64 x.n, .slice none x.vals.length 0]:=by rw [hx];rfl
 rw [e]
 exact ⟨[.int .i64 x.kind], [.int .i64 x.tx, .int .i64 x.page, .int .i64 x.slot, .int .i64 x.n, .slice none x.vals.length 0],rfl,rfl,⟨[.int .i64 x.tx], [.int .i64 x.page, .int .i64 x.slot, .int .i64 x.n, .slice none x.vals.length 0],rfl,rfl,⟨[.int .i64 x.page], [.int .i64 x.slot, .int .i64 x.n, .slice none x.vals.length 0],rfl,rfl,⟨[.int .i64 x.slot], [.int .i64 x.n, .slice none x.vals.length 0],rfl,rfl,⟨[.int .i64 x.n], [.slice none x.vals.length 0],rfl,rfl,⟨none,0,rfl,by show x.vals.length ≤ 0;rw [hx];exact Nat.le_refl _,h0⟩⟩⟩⟩⟩⟩
theorem XQ (W : World) (vs : List Evt) (hv : ∀ v ∈ vs,v.vals = []) (hl : vs.length ≤ 1000) : Kd.C kEvt (W.alloc (.cells (vs.flatMap Ff).toArray 44)) (some ⟨W.heap.size,0,none⟩) vs.length vs:=by
 refine ⟨rfl,by omega,fun _ => ⟨_,rfl,fun i p hp => ⟨Ff p,rfl,XP _ p (hv p (List.mem_of_getElem? hp)),fun k u hu => ?_⟩⟩⟩
 have hk : k < 6:=by have:=(List.getElem?_eq_some_iff.1 hu).1;simpa [Ff] using this
 have h:=Ta W (vs.flatMap Ff).toArray 44 (i * 6 + k)
 rw [List.getElem?_toArray,WL vs i k p hp hk,hu] at h
 have hz : kEvt.sz = 6:=by kernel_rfl
 rw [hz]
 have ha : (⟨W.heap.size,0,none⟩ : Addr).add (i * 6 + k) = ⟨W.heap.size,0 + (i * 6 + k),none⟩:=by simp [Addr.add];omega
 rw [ha]
 rw [Nat.zero_add]
 exact h
def PX (tx pg' : Int) : List Evt := [⟨1,tx,pg',0,1, []⟩,⟨2,tx,pg',0,1, []⟩,⟨4,tx,0,0,0, []⟩,⟨5,tx,0,0,0, []⟩,⟨6,0,pg',0,0, []⟩,⟨7,0,0,0,0, []⟩]
theorem Uk (tx pg' : Int) (k : Nat) (h : k < 6) : (ev (PX tx pg') k).kind ≠ 8 ∧ (ev (PX tx pg') k).kind ≠ 9 ∧ (ev (PX tx pg') k).vals = []:=by
 match k,h with
 | 0,_ => exact ⟨by show (1 : Int) ≠ 8;decide,by show (1 : Int) ≠ 9;decide,rfl⟩
 | 1,_ => exact ⟨by show (2 : Int) ≠ 8;decide,by show (2 : Int) ≠ 9;decide,rfl⟩
 | 2,_ => exact ⟨by show (4 : Int) ≠ 8;decide,by show (4 : Int) ≠ 9;decide,rfl⟩
 | 3,_ => exact ⟨by show (5 : Int) ≠ 8;decide,by show (5 : Int) ≠ 9;decide,rfl⟩
 | 4,_ => exact ⟨by show (6 : Int) ≠ 8;decide,by show (6 : Int) ≠ 9;decide,rfl⟩
 | 5,_ => exact ⟨by show (7 : Int) ≠ 8;decide,by show (7 : Int) ≠ 9;decide,rfl⟩
theorem X4 (W : World) (tx pg' : Int) : Kd.C kEvt (W.alloc (.cells #[.int .i64 1, .int .i64 tx, .int .i64 pg', .int .i64 0, .int .i64 1, .slice none 0 0, .int .i64 2, .int .i64 tx, .int .i64 pg', .int .i64 0, .int .i64 1, .slice none 0 0, .int .i64 4, .int .i64 tx, .int .i64 0, .int .i64 0, .int .i64 0, .slice none 0 0, .int .i64 5, .int .i64 tx, .int .i64 0, .int .i64 0, .int .i64 0, .slice none 0 0, .int .i64 6, .int .i64 0, .int .i64 pg', .int .i64 0, .int .i64 0, .slice none 0 0, .int .i64 7, .int .i64 0, .int .i64 0, .int .i64 0, .int .i64 0, .slice none 0 0] 44)) (some ⟨W.heap.size,0,none⟩) 6 (PX tx pg'):=
 XQ W (PX tx pg') (by simp [PX]) (by simp [PX])
set_option maxRecDepth 100000 in
set_option maxHeartbeats 16000000 in
theorem MV {w : World} {A : Option Addr} {c : Nat} {xs : List Int} {B : Option Addr} {d : Nat} {ys : List Int} (hcap : xs.length ≤ c) (hx : Bytes xs) (hr : Kd.C (Kd.int .u8) w A xs.length xs) (hy : ys.length ≤ 9223372036854775807) : Calls Tryz.prog 4 #[.slice A xs.length c, .slice B ys.length d] w (I5 w):=by
 have HR:=As hr
 have HCAP:=As hcap
 have HBY:=As hx
 have hmx:=(Co hr).2
 have H2 : True:=trivial
 have H3 : True:=trivial
 have H5 : True:=trivial
 clear hcap hx hr
 rcases lts 1048576 (xs.length : Int) with ⟨e1,b1,c1⟩ | ⟨e1,b1,c1⟩
 ·go_enter Tryz.func4,Tryz.ntmps4
  go_wp2
  go_ret
  exact ⟨rfl,Below.refl _ _⟩
 rcases lts 1048576 (ys.length : Int) with ⟨e2,b2,c2⟩ | ⟨e2,b2,c2⟩
 ·go_enter Tryz.func4,Tryz.ntmps4
  go_wp2
  go_ret
  exact ⟨rfl,Below.refl _ _⟩
 go_enter Tryz.func4,Tryz.ntmps4
 go_wp2_with (go_at_call 19;refine (Cv HCAP.out HBY.out (Below.refl w.heap.size w) HR.out).mono ?_;rintro x w1 ⟨V,vs,rfl,hV,hlen,hb1⟩;obtain ⟨V1,v1_,rfl,hcv,hc⟩:=Kd.Cj hV;have HVC:=As hc;have HCV:=As hcv;have HLN:=As hlen;have HB1:=As hb1;clear hV hcv hc hlen hb1)
 obtain ⟨E,bb,hE⟩ : ∃ E bb,JH vs = (E,bb):=⟨_,_,rfl⟩
 have HE:=As hE
 clear hE
 have K0 : True:=trivial
 cases bb
 ·go_wp2_with (first | (clear K0;clear H2;go_at_call 20;refine (Br (c:=v1_) (Below.refl w1.heap.size w1) HVC.out).mono ?_;rw [HE.out];rintro x w2 ⟨vd,vm,vl,rfl,ho,hb2⟩;obtain ⟨Gd,g1_,Gm,g2_,Gl,g3_,rfl,rfl,rfl,hgcl,hc⟩:=ho.reads;have HG2:=As hc;have HGL:=As hgcl;have HB2:=As hb2;clear ho hb2 hc hgcl;have K1 : True:=trivial) | (clear K1;clear H3;refine Ai (vd:=.slice Gd E.disk.length g1_) (vm:=.slice Gm E.mem.length g2_) (vl:=.slice Gl E.log.length g3_) E ?_;intro w3 hb3 hz3 hq3;have HG3:=As (HG2.out.up hb3);have HQ3:=As hq3;have HB3:=As (bj HB2.out hb3);clear hb3 hz3 hq3;have K2 : True:=trivial) | (clear K2;go_at_call 21;refine (AV (c:=v1_) HB3.out HVC.out).mono ?_;rw [HE.out];rintro x w4 ⟨vd,vm,vl,rfl,ho,hb4⟩;obtain ⟨Jd,j1_,Jm,j2_,Jl,j3_,rfl,rfl,rfl, -,hc⟩:=ho.reads;have HJ4:=As hc;have HB4:=As hb4;clear ho hb4 hc;have K3 : True:=trivial) | (clear K3;clear H5;refine Ai (vd:=.slice Jd E.disk.length j1_) (vm:=.slice Jm E.mem.length j2_) (vl:=.slice Jl E.log.length j3_) E ?_;intro w5 hb5 hz5 hq5;have HJ5:=As (HJ4.out.up hb5);have HQ5:=As hq5;have HT5:=As (bj HB4.out hb5);have HN5:=As (Below.refl w5.heap.size w5);clear hb5 hz5 hq5;have g0:=(HQ3.out.up HT5.out).c0;have g1:=(HQ3.out.up HT5.out).c1;have g2:=(HQ3.out.up HT5.out).c2;have g3:=(HQ3.out.up HT5.out).c3;have g4:=(HQ3.out.up HT5.out).c4;have s0:=(HQ5.out).c0;have s1:=(HQ5.out).c1;have s2:=(HQ5.out).c2;have s3:=(HQ5.out).c3;have s4:=(HQ5.out).c4;have K4 : True:=trivial) | (clear K4;go_at_call 22;refine (Bc (cd:=g1_) (cm:=g2_) (cl:=g3_) (dd:=j1_) (dm:=j2_) (dl:=j3_) (bj HT5.out HN5.out) HG3.out HN5.out HJ5.out).mono ?_;rintro x w6 ⟨rfl,hb6⟩;have HN6:=As (bj HN5.out hb6);clear HN5 hb6;clear g0 g1 g2 g3 g4 s0 s1 s2 s3 s4;have HN5:=HN6;clear HN6;have g0:=(HQ3.out.up (bj HT5.out HN5.out)).c0;have g1:=(HQ3.out.up (bj HT5.out HN5.out)).c1;have g2:=(HQ3.out.up (bj HT5.out HN5.out)).c2;have g3:=(HQ3.out.up (bj HT5.out HN5.out)).c3;have g4:=(HQ3.out.up (bj HT5.out HN5.out)).c4;have s0:=(HQ5.out.up HN5.out).c0;have s1:=(HQ5.out.up HN5.out).c1;have s2:=(HQ5.out.up HN5.out).c2;have s3:=(HQ5.out.up HN5.out).c3;have s4:=(HQ5.out.up HN5.out).c4;have K5 : True:=trivial) | (clear K5;go_at_call 22;refine (Bc (cd:=g1_) (cm:=g2_) (cl:=g3_) (dd:=j1_) (dm:=j2_) (dl:=j3_) (bj HT5.out HN5.out) HG3.out HN5.out HJ5.out).mono ?_;rintro x w6 ⟨rfl,hb6⟩;have HN6:=As (bj HN5.out hb6);clear HN5 hb6;clear g0 g1 g2 g3 g4 s0 s1 s2 s3 s4;have HN5:=HN6;clear HN6;have g0:=(HQ3.out.up (bj HT5.out HN5.out)).c0;have g1:=(HQ3.out.up (bj HT5.out HN5.out)).c1;have g2:=(HQ3.out.up (bj HT5.out HN5.out)).c2;have g3:=(HQ3.out.up (bj HT5.out HN5.out)).c3;have g4:=(HQ3.out.up (bj HT5.out HN5.out)).c4;have s0:=(HQ5.out.up HN5.out).c0;have s1:=(HQ5.out.up HN5.out).c1;have s2:=(HQ5.out.up HN5.out).c2;have s3:=(HQ5.out.up HN5.out).c3;have s4:=(HQ5.out.up HN5.out).c4;have K6 : True:=trivial))
  go_ret
  exact ⟨rfl,bj HB1.out (bj HB3.out (bj HT5.out HN5.out))⟩
 have HRUN:=As (Gn HE.out)
 have HINV : Ac (∃ C,Inv E C (3 * 40)):=⟨by rw [HRUN.out.2];exact inv_all vs HRUN.out.1⟩
 obtain ⟨C,hI⟩:=HINV.out
 obtain ⟨tx,htx⟩ : ∃ tx : Int,1 + (ys.length : Int) % 3 = tx:=⟨_,rfl⟩
 obtain ⟨X,hX⟩ : ∃ X,AP E ⟨8,0,0,0,99, []⟩ = X:=⟨_,rfl⟩
 have HIX:=As (show Inv X _ _ by rw [← hX];exact hI.play (by omega) _)
 have HI:=As hI
 have HXD:=As (show X.down = true by rw [← hX];exact Sm E)
 have HX:=As hX
 clear hX hI
 have H6 : True:=trivial
 go_wp2_with (first | (clear K0;clear H2;go_at_call 20;refine (Br (c:=v1_) (Below.refl w1.heap.size w1) HVC.out).mono ?_;rw [HE.out];rintro x w2 ⟨vd,vm,vl,rfl,ho,hb2⟩;obtain ⟨Gd,g1_,Gm,g2_,Gl,g3_,rfl,rfl,rfl,hgcl,hc⟩:=ho.reads;have HG2:=As hc;have HGL:=As hgcl;have HB2:=As hb2;clear ho hb2 hc hgcl;have K1 : True:=trivial) | (clear K1;clear H3;refine Ai (vd:=.slice Gd E.disk.length g1_) (vm:=.slice Gm E.mem.length g2_) (vl:=.slice Gl E.log.length g3_) E ?_;intro w3 hb3 hz3 hq3;have HG3:=As (HG2.out.up hb3);have HQ3:=As hq3;have HB3:=As (bj HB2.out hb3);clear hb3 hz3 hq3;have K2 : True:=trivial) | (clear K2;go_at_call 21;refine (AV (c:=v1_) HB3.out HVC.out).mono ?_;rw [HE.out];rintro x w4 ⟨vd,vm,vl,rfl,ho,hb4⟩;obtain ⟨Jd,j1_,Jm,j2_,Jl,j3_,rfl,rfl,rfl, -,hc⟩:=ho.reads;have HJ4:=As hc;have HB4:=As hb4;clear ho hb4 hc;have K3 : True:=trivial) | (clear K3;clear H5;refine Ai (vd:=.slice Jd E.disk.length j1_) (vm:=.slice Jm E.mem.length j2_) (vl:=.slice Jl E.log.length j3_) E ?_;intro w5 hb5 hz5 hq5;have HJ5:=As (HJ4.out.up hb5);have HQ5:=As hq5;have HT5:=As (bj HB4.out hb5);have HN5:=As (Below.refl w5.heap.size w5);clear hb5 hz5 hq5;have g0:=(HQ3.out.up HT5.out).c0;have g1:=(HQ3.out.up HT5.out).c1;have g2:=(HQ3.out.up HT5.out).c2;have g3:=(HQ3.out.up HT5.out).c3;have g4:=(HQ3.out.up HT5.out).c4;have s0:=(HQ5.out).c0;have s1:=(HQ5.out).c1;have s2:=(HQ5.out).c2;have s3:=(HQ5.out).c3;have s4:=(HQ5.out).c4;have K4 : True:=trivial) | (clear K4;go_at_call 22;refine (Bc (cd:=g1_) (cm:=g2_) (cl:=g3_) (dd:=j1_) (dm:=j2_) (dl:=j3_) (bj HT5.out HN5.out) HG3.out HN5.out HJ5.out).mono ?_;rintro x w6 ⟨rfl,hb6⟩;have HN6:=As (bj HN5.out hb6);clear HN5 hb6;clear g0 g1 g2 g3 g4 s0 s1 s2 s3 s4;have HN5:=HN6;clear HN6;have g0:=(HQ3.out.up (bj HT5.out HN5.out)).c0;have g1:=(HQ3.out.up (bj HT5.out HN5.out)).c1;have g2:=(HQ3.out.up (bj HT5.out HN5.out)).c2;have g3:=(HQ3.out.up (bj HT5.out HN5.out)).c3;have g4:=(HQ3.out.up (bj HT5.out HN5.out)).c4;have s0:=(HQ5.out.up HN5.out).c0;have s1:=(HQ5.out.up HN5.out).c1;have s2:=(HQ5.out.up HN5.out).c2;have s3:=(HQ5.out.up HN5.out).c3;have s4:=(HQ5.out.up HN5.out).c4;have K5 : True:=trivial) | (clear K5;go_at_call 23;refine (Ce (w0:=w6) (cd:=g1_) (cm:=g2_) (cl:=g3_) (c:=0) ⟨8,0,0,0,99, []⟩ HI.out (by omega) HGL.out (Below.refl _ _) (HG3.out.up (bj HT5.out HN5.out)) (IJ _)).mono ?_;rw [HX.out];rintro x w7 ⟨vd,vm,vl,rfl,ho,hb7⟩;obtain ⟨Xd,x1_,Xm,x2_,Xl,x3_,rfl,rfl,rfl,hcl,hc⟩:=ho.reads;have HXL:=As hcl;have HXC:=As hc;have HB7:=As (bj HB3.out (bj HT5.out (bj HN5.out hb7)));clear ho hb7 hcl hc;clear g0 g1 g2 g3 g4 s0 s1 s2 s3 s4;have K6 : True:=trivial) | (clear K6;refine Ai (vd:=.slice Xd X.disk.length x1_) (vm:=.slice Xm X.mem.length x2_) (vl:=.slice Xl X.log.length x3_) X ?_;intro w8 hb8 hz8 hq8;have HQ8:=As hq8;have HB8:=As hb8;clear hb8 hz8 hq8;have K7 : True:=trivial))
 obtain ⟨w9,hw9⟩ : ∃ w9,w8.alloc (Obj.cells #[.int .i64 1, .int .i64 tx, .int .i64 ((ys.length : Int) % 5), .int .i64 0, .int .i64 1, .slice none 0 0, .int .i64 2, .int .i64 tx, .int .i64 ((ys.length : Int) % 5), .int .i64 0, .int .i64 1, .slice none 0 0, .int .i64 4, .int .i64 tx, .int .i64 0, .int .i64 0, .int .i64 0, .slice none 0 0, .int .i64 5, .int .i64 tx, .int .i64 0, .int .i64 0, .int .i64 0, .slice none 0 0, .int .i64 6, .int .i64 0, .int .i64 ((ys.length : Int) % 5), .int .i64 0, .int .i64 0, .slice none 0 0, .int .i64 7, .int .i64 0, .int .i64 0, .int .i64 0, .int .i64 0, .slice none 0 0] 44) = w9:=⟨_,rfl⟩
 rw [hw9]
 have HV9 : Ac (Kd.C kEvt w9 (some ⟨w8.heap.size,0,none⟩) 6 (PX tx ((ys.length : Int) % 5))):=⟨by rw [← hw9];exact X4 w8 tx ((ys.length : Int) % 5)⟩
 have HB9 : Ac (Below w8.heap.size w8 w9):=⟨by rw [← hw9];exact Ah (Below.refl _ _) _⟩
 clear hw9
 obtain ⟨bA,hbA⟩ : ∃ a : Addr,(⟨w8.heap.size,0,none⟩ : Addr) = a:=⟨_,rfl⟩
 rw [hbA] at HV9 ⊢
 go_loopw [81] (fun i wr => ∃ k : Nat,k ≤ 6 ∧ i = .int .i64 (k : Int) ∧ Ac (Below w9.heap.size w9 wr)) (fun i _ => (6 - intOf i).toNat)
 case atStart => exact ⟨0,by decide,rfl,⟨Below.refl _ _⟩⟩
 case round =>
  obtain ⟨k,hk,rfl,HW⟩:=hrel
  have HWX:=As (bj HB8.out (bj HB9.out HW.out))
  have HQX:=As (HQ8.out.up (bj HB9.out HW.out))
  have x0:=HQX.out.c0
  have x1:=HQX.out.c1
  have x2:=HQX.out.c2
  have x3:=HQX.out.c3
  have x4:=HQX.out.c4
  by_cases hlt : k < 6
  ·obtain ⟨ad,A2,c2,hA,QV, -,hv⟩:=SX (BF HV9.out HW.out) k hlt
   obtain rfl : bA = ad:=by injection hA
   obtain ⟨z0,z1,z2,z3,z4,z5⟩:=QV
   obtain ⟨n8,n9, -⟩:=Uk tx ((ys.length : Int) % 5) k hlt
   obtain ⟨v,hvv⟩ : ∃ v,ev (PX tx ((ys.length : Int) % 5)) k = v:=⟨_,rfl⟩
   rw [hvv] at z0 z1 z2 z3 z4 z5 hv n8 n9
   have HXX:=As (Sn (v:=v) HXD.out n8 n9)
   have HV:=As hv
   have hki : (k : Int) < 6:=by omega
   clear hv hvv n8 n9
   go_wp2
   obtain ⟨w10,hw10⟩ : ∃ w10,wr.alloc (Obj.cells #[.int .i64 v.kind, .int .i64 v.tx, .int .i64 v.page, .int .i64 v.slot, .int .i64 v.n, .slice A2 v.vals.length c2] 44) = w10:=⟨_,rfl⟩
   rw [hw10]
   have HB10 : Ac (Below wr.heap.size wr w10):=⟨by rw [← hw10];exact Ah (Below.refl _ _) _⟩
   have HE10 : Ac (EvBox w10 wr.heap.size v A2 c2):=⟨by rw [← hw10];exact EvBox.mk1 _ _ _ _⟩
   clear hw10 z0 z1 z2 z3 z4 z5 x0 x1 x2 x3 x4
   refine AY (fun lx a wx => Below w10.heap.size w10 wx ∧ Sl 2 87 (SlE X) lx a wx) 6 rfl (by kernel_rfl) (⟨Ak (Below.refl _ _),Bb⟩) (fun HT => ?_)
   refine Ae (i:=0) (v:=?_) HT rfl (by kernel_rfl) rfl (kA Aa (Ab rfl rfl)) (by rfl) (fun _ _ _ h => h) (fun lx ax wx hS => ?_) ?_;rotate_left;(have hq:=HQX.out.up (bj HB10.out hS.1);have x0:=hq.c0;have x1:=hq.c1;have x2:=hq.c2;have x3:=hq.c3;have x4:=hq.c4;have he:=HE10.out.up hS.1;have v0:=he.c0;have v1:=he.c1;have v2:=he.c2;have v3:=he.c3;have v4:=he.c4;have v5:=he.c5;go_simp;with_reducible rfl);rotate_left;simp only [sc0,sc1]
   refine Ae (i:=1) (v:=?_) HT rfl (by kernel_rfl) rfl (kA Aa (Ab rfl rfl)) (by rfl) (fun _ _ _ h => h) (fun lx ax wx hS => ?_) ?_;rotate_left;(have hq:=HQX.out.up (bj HB10.out hS.1);have x0:=hq.c0;have x1:=hq.c1;have x2:=hq.c2;have x3:=hq.c3;have x4:=hq.c4;have he:=HE10.out.up hS.1;have v0:=he.c0;have v1:=he.c1;have v2:=he.c2;have v3:=he.c3;have v4:=he.c4;have v5:=he.c5;go_simp;with_reducible rfl);rotate_left;simp only [sc0,sc1]
   refine Ae (i:=3) (v:=?_) HT rfl (by kernel_rfl) rfl (kA Aa (Ab rfl rfl)) (by rfl) (fun _ _ _ h => h) (fun lx ax wx hS => ?_) ?_;rotate_left;(have hq:=HQX.out.up (bj HB10.out hS.1);have x0:=hq.c0;have x1:=hq.c1;have x2:=hq.c2;have x3:=hq.c3;have x4:=hq.c4;have he:=HE10.out.up hS.1;have v0:=he.c0;have v1:=he.c1;have v2:=he.c2;have v3:=he.c3;have v4:=he.c4;have v5:=he.c5;go_simp;with_reducible rfl);rotate_left;simp only [sc0,sc1]
   refine BL (i:=2) (f:=23) (args:=#[X.val Xd Xm Xl x1_ x2_ x3_,v.val A2 c2]) (fun v => ∃ D1 D2 D3 k1 k2 k3,v = X.val D1 D2 D3 k1 k2 k3) rfl (by kernel_rfl) rfl Tryz.func23 (by kernel_rfl) rfl rfl (by rfl) (by simp only [List.map_toArray,List.map_cons,List.map_nil];rfl) (fun wx hS => (Ce (w0:=w10) (cd:=x1_) (cm:=x2_) (cl:=x3_) (c:=c2) v HIX.out (by omega) HXL.out hS.1 (HXC.out.up (bj HWX.out HB10.out)) (BF HV.out HB10.out)).mono (by rw [HXX.out];rintro y w9 ⟨vd,vm,vl,rfl,ho,hb⟩;obtain ⟨D1,k1,D2,k2,D3,k3,rfl,rfl,rfl, -,hc⟩:=ho.reads;exact ⟨_,rfl,⟨D1,D2,D3,k1,k2,k3,rfl⟩,bj hS.1 hb,fun _ => ⟨D1,D2,D3,k1,k2,k3,rfl,hc⟩⟩)) (fun vx hg => ?_);simp only [sc0,sc1]
   obtain ⟨D1,D2,D3,dk1,dk2,dk3,rfl⟩:=hg
   refine BL (i:=4) (f:=22) (args:=#[X.val D1 D2 D3 dk1 dk2 dk3,X.val Xd Xm Xl x1_ x2_ x3_]) (fun v => v = .bool true) rfl (by kernel_rfl) rfl Tryz.func22 (by kernel_rfl) rfl rfl (by rfl) (by simp only [List.map_toArray,List.map_cons,List.map_nil];rfl) (fun wx hS => (by obtain ⟨E1,E2,E3,j1,j2,j3,e3,hC⟩:=hS.2 (by kernel_rfl);obtain ⟨rfl,rfl,rfl,rfl,rfl,rfl⟩:=Eng.val_inj e3;exact (Bc (Below.refl _ _) hC (bj HWX.out (bj HB10.out hS.1)) HXC.out).mono (by rintro x wz ⟨rfl,hb⟩;exact ⟨_,rfl,rfl,bj hS.1 hb,fun hl => (hS.2 hl).up hb⟩))) (fun vx hg => ?_);simp only [sc0,sc1]
   subst hg
   refine Ae (i:=5) (v:=?_) HT rfl (by kernel_rfl) rfl (kA Aa (Ab rfl rfl)) (by rfl) (fun _ _ _ h => h) (fun lx ax wx hS => ?_) ?_;rotate_left;(go_simp;with_reducible rfl);rotate_left;simp only [sc0,sc1]
   refine DL (by kernel_rfl) (fun wx hS => ?_)
   have HZ:=As (bj HW.out (bj HB10.out hS.1))
   clear hS
   go_wp2
   go_roundw
   case rel => exact ⟨k + 1,by omega,by go_num,HZ⟩
   case measure => simp [intOf];omega
  ·have hki : ¬ (k : Int) < 6:=by omega
   rw [HXD.out] at x4
   go_wp2
   go_ret
   exact ⟨rfl,bj HB1.out (bj HB7.out HWX.out)⟩
open Go.RowKit Go.Proofs.YtklmhkglcfjclaaGreatW.PrintWords Go.Proofs.YtklmhkglcfjclaaGreatW.PrintLast Go.Proofs.YtklmhkglcfjclaaGreatW.PrintMore Go.ChangeShapes Go.WideShapes Go.Deep
theorem BS {H : Type} {enc : TypeId × Value → H} {w : World} {held : Bool} {fuel : Nat} {cs : List Value} {y : DataW H × List MemPlace} (h : DataW.trod enc Tryz.prog w 0 (fun _ => true) held fuel 37 cs = some y) : ∃ xs A c,cs = [.slice A (List.length xs) c] ∧ xs.length ≤ c ∧ (Kd.int .u8).C w A xs.length xs ∧ Bytes xs:=by
 obtain ⟨xs,A,c,he,hcl,hr⟩:=E9 (d:=Kd.int .u8) Tryz.underlying37 (by kernel_rfl) (FB Tryz.underlying5) _ _ _ h
 refine ⟨xs,A,c,he,hcl,hr,fun b hb => ?_⟩
 obtain ⟨i,hi,rfl⟩:=List.getElem_of_mem hb
 obtain ⟨ad,ha,hc⟩:=Kb hr i hi
 rcases open_ints Tryz.underlying37 Tryz.underlying5 (by kernel_rfl) h with ⟨hcs,_⟩ | ⟨x,l,c',zs,hcs,_,hl,hm,hz,_,hcell,hwz⟩
 ·rw [he,ha] at hcs
  simp at hcs
 ·rw [he,ha] at hcs
  simp only [List.cons.injEq,Value.slice.injEq,Option.some.injEq,and_true] at hcs
  obtain ⟨rfl,h2,rfl⟩:=hcs
  rw [if_pos rfl] at hz
  have h3:=hcell i (by omega)
  rw [hc] at h3
  have h4 : iv xs i = zs.getD i 0:=by simpa using h3
  have h5:=range_u8 hwz i
  have e : iv xs i = xs[i]:=by simp [iv,List.getD_eq_getElem?_getD,hi]
  rw [← e,h4,List.getD_eq_getElem?_getD]
  exact h5
end Go.Proofs.YtklmhkglcfjclaaGreat
namespace Go.Proofs.YtklmhkglcfjclaaGreat.fnPlayDown
open Go.ChangeShapes Go.WideShapes Go.ChangeAt Go.RowKit Go.Proofs.YtklmhkglcfjclaaGreat
theorem own : ownKnob Tryz.prog.godebug = none:=by kernel_rfl
theorem laidOut : laidOutB Tryz.prog = true:=by kernel_rfl
set_option maxRecDepth 100000 in
theorem lifted (os : Os) (started : os.Started) (H : Type) (enc : TypeId × Value → H) :
  ReturnsInHanded {} Tryz.checked os 4 .any (Rows.fnPlayDownSpec.pre6 enc Tryz.prog Tryz.f4 Rows.fnPlayDownRow.domain false) (Rows.fnPlayDownSpec.post enc Tryz.prog Tryz.f4 false true false false):=by
 refine returnsInHanded_of_change_sized (C:=Tryz.checked) own started (by kernel_rfl) Tryz.func4
  (ChangeSpec.witness6 (enc:=enc) (C:=Tryz.checked) false ⟨#[],#[.slice none 0 0, .slice none 0 0], []⟩ 8 (by kernel_rfl) (by kernel_rfl) (by kernel_rfl) (by kernel_rfl)) ?_
 intro W base args ds gs before hval0 hW hcnd hsz0 _
 have hval : ∀ (j : Nat) t v,Tryz.f4.params[j]? = some t → args[j]? = some v → Value.okWide Tryz.prog W .any base t v:=hval0
 have hW':=hW
 obtain ⟨p,q,hA0,hV,rfl,hfz,hnd⟩:=hW
 have hA : DataW.TrodAll enc Tryz.prog W 0 (fun _ => true) true Tryz.f4.params.toList args.toList ds p:=hA0
 rw [Tryz.params4] at hA hval
 obtain ⟨v0,vs0,d0,ds0,p0,q0,hargs,rfl,rfl,h0,r0⟩:=trodAll_cons hA
 obtain ⟨v1,vs1,d1,ds1,p1,q1,rfl,rfl,rfl,h1,r1⟩:=trodAll_cons r0
 obtain ⟨rfl,rfl,rfl⟩:=trodAll_nil r1
 obtain rfl : args = #[v0,v1]:=by cases args;simp_all
 obtain ⟨rfl,rfl⟩:=trodVars_none hV
 have k0:=h0
 have lt0 : ∀ x ∈ p0,x.block < W.heap.size:=by obtain ⟨m,hm⟩:=k0;exact DataW.trod_lt m _ _ _ hm
 obtain ⟨a0,len0,cap0,rfl⟩:=okWide_slice Tryz.underlying37 (hval 0 37 v0 rfl rfl)
 obtain ⟨fuel0,hf0⟩:=h0
 obtain ⟨xs0,A0,c0,he0,hcl0,hr0,hby0⟩:=BS hf0
 obtain ⟨rfl,rfl,rfl⟩ : a0 = A0 ∧ len0 = xs0.length ∧ cap0 = c0:=by simpa [Value.cells] using he0
 have k1:=h1
 have lt1 : ∀ x ∈ p1,x.block < W.heap.size:=by obtain ⟨m,hm⟩:=k1;exact DataW.trod_lt m _ _ _ hm
 obtain ⟨a1,NF,cap1,rfl⟩:=okWide_slice Tryz.underlying37 (hval 1 37 v1 rfl rfl)
 obtain ⟨fuel1,hf1⟩:=h1
 obtain ⟨xs1,A1,c1,he1,hcl1,hr1,hby1⟩:=BS hf1
 obtain ⟨rfl,rfl,rfl⟩ : a1 = A1 ∧ NF = xs1.length ∧ cap1 = c1:=by simpa [Value.cells] using he1
 clear hA0 hval0 hsz0 hval hA
 refine (MV hcl0 hby0 hr0 (Co hr1).2).mono fun e1 W' ⟨he1,bel⟩ => ?_
 subst he1
 exact ⟨_,rfl,_,_,_, [],_, [],hW',trodAll_mk1 (shut_bool Tryz.underlying4 _),(trodAll_cons_mk (Below.trod laidOut (by kernel_rfl) (of_decide_eq_true (by kernel_rfl)) k0 bel lt0) (trodAll_cons_mk (Below.trod laidOut (by kernel_rfl) (of_decide_eq_true (by kernel_rfl)) k1 bel lt1) trodAll_mk0)),rfl,bel.frame _,fun h => by cases h⟩
theorem k24b : (Rows.fnPlayDownRow.lifted == Tryz.pinned.checked.prog.liftsFinal) = true:=by
 rw [show Tryz.pinned.checked.prog.liftsFinal = false from Ea]
 rfl
theorem k24c : (Tryz.pinned.checked.prog.make == some Rows.fnPlayDownRow.make) = true:=by
 rw [show Tryz.pinned.checked.prog.make = some Make.cut from Gs]
 rfl
set_option maxRecDepth 100000 in
set_option maxHeartbeats 8000000 in
theorem closed : joinedFacts Tryz.pinned.checked.prog 4 Tryz.f4 Rows.fnPlayDownSpec Rows.fnPlayDownRow = true:=by
 simp only [joinedFacts,Bool.and_eq_true]
 exact ⟨⟨⟨⟨⟨⟨⟨⟨⟨⟨⟨⟨⟨⟨⟨⟨⟨⟨⟨⟨⟨⟨⟨⟨⟨⟨⟨⟨⟨⟨⟨(by as_aux_lemma => kernel_rfl),(by as_aux_lemma => kernel_rfl)⟩,(by as_aux_lemma => kernel_rfl)⟩,(by as_aux_lemma => kernel_rfl)⟩,(by as_aux_lemma => kernel_rfl)⟩,(by as_aux_lemma => kernel_rfl)⟩,(by as_aux_lemma => kernel_rfl)⟩,(by as_aux_lemma => kernel_rfl)⟩,(by as_aux_lemma => kernel_rfl)⟩,(by as_aux_lemma => kernel_rfl)⟩,(by as_aux_lemma => kernel_rfl)⟩,(by as_aux_lemma => kernel_rfl)⟩,(by as_aux_lemma => kernel_rfl)⟩,(by as_aux_lemma => kernel_rfl)⟩,(by as_aux_lemma => kernel_rfl)⟩,(by as_aux_lemma => kernel_rfl)⟩,(by as_aux_lemma => kernel_rfl)⟩,(by as_aux_lemma => kernel_rfl)⟩,(by as_aux_lemma => kernel_rfl)⟩,(by as_aux_lemma => kernel_rfl)⟩,(by as_aux_lemma => kernel_rfl)⟩,(by as_aux_lemma => kernel_rfl)⟩,(by as_aux_lemma => kernel_rfl)⟩,(by as_aux_lemma => kernel_rfl)⟩,(by as_aux_lemma => kernel_rfl)⟩,FD⟩,k24b⟩,k24c⟩,(by as_aux_lemma => kernel_rfl)⟩,(by as_aux_lemma => kernel_rfl)⟩,(by as_aux_lemma => kernel_rfl)⟩,(by as_aux_lemma => kernel_rfl)⟩
theorem over : Rows.fnPlayDownRow.holds Tryz.pinned (OpenSpec.ofChange Rows.fnPlayDownSpec):=
 OpenClaim.holds_of_wide 4 Tryz.f4 rfl rfl rfl rfl rfl rfl rfl ⟨rfl,rfl,rfl,rfl,rfl⟩ rfl rfl rfl rfl rfl (by kernel_rfl) Tryz.func4 closed
  (of_decide_eq_true (by kernel_rfl)) (by unfold Func.isWrapper;first | (rw [if_pos (by decide +kernel)];kernel_rfl) | (rw [if_neg (by decide +kernel)];exact ⟨rfl,rfl⟩))
  (fun os started H enc _ => lifted os started H enc)
theorem proved : Rows.FnPlayDownSaid:=over
end Go.Proofs.YtklmhkglcfjclaaGreat.fnPlayDown
namespace Go.Proofs.YtklmhkglcfjclaaGreat
theorem fnPlayDown_holds : Rows.FnPlayDownSaid:=fnPlayDown.proved
end Go.Proofs.YtklmhkglcfjclaaGreat
