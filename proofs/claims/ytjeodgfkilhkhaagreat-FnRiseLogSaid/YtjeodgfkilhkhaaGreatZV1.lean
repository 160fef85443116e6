/- A part of the proof: what the last text of the claim says leans on this one. -/
import Derived.Test.YtjeodgfkilhkhaaGreatZA1
import Derived.Test.YtjeodgfkilhkhaaGreatZA2
import Derived.Test.YtjeodgfkilhkhaaGreatZP1
import Derived.Lib.SliceRun
set_option linter.unusedVariables false
set_option linter.unusedSimpArgs false
namespace Go.Proofs.YtjeodgfkilhkhaaGreat
open Go.RowKit Go.Proofs.YtjeodgfkilhkhaaGreatW.PrintWords Go.Proofs.YtjeodgfkilhkhaaGreatW.PrintLast Go.Proofs.YtjeodgfkilhkhaaGreatW.PrintMore
structure Wrote (w W : World) (S : Nat → Prop) : Prop where
 os : W.os = w.os
 tape : W.tape = w.tape
 output : W.output = w.output
 kept : Kept w W S
section
variable {w W W2 : World} {S S2 : Nat → Prop}
theorem Wrote.refl (w : World) (S : Nat → Prop) : Wrote w w S:=⟨rfl,rfl,rfl,Kept.refl _ _⟩
theorem Wrote.of_below (h : Below w.heap.size w W) (S : Nat → Prop) : Wrote w W S:=⟨h.os,h.tape,h.output,Kept.of_below h S⟩
theorem Wrote.Ce (h : Wrote w W S) (k : Wrote W W2 S2) (hs : ∀ k,S2 k → S k ∨ w.heap.size ≤ k) : Wrote w W2 S:=⟨k.os.trans h.os,k.tape.trans h.tape,k.output.trans h.output,h.kept.Ce k.kept hs⟩
theorem Wrote.setCell (h : Wrote w W S) {p : Addr} (hp : S p.block ∨ w.heap.size ≤ p.block) (u : Value) : Wrote w (W.setCell p u) S:=⟨h.os,h.tape,h.output,h.kept.setCell hp u⟩
theorem Wrote.bel {N : Nat} (h : Wrote w W S) (hS : ∀ k,S k → N ≤ k) (hN : N ≤ w.heap.size) : Below N w W:=⟨h.os,h.tape,h.output,h.kept.1,fun k hk => h.kept.2 k (by omega) (fun hs => by have:=hS k hs;omega)⟩
end
abbrev RI (w : World) (b : Nat) (ok : Nat → Prop) (v : Value) (xs : List Int) : Prop:=(Kd.int .i64).R 3 w b ok v xs
theorem RI.cell {w : World} {b : Nat} {ok : Nat → Prop} {g n cap : Nat} {xs : List Int} (h : RI w b ok (.slice (some ⟨g,0,none⟩) n cap) xs) {i : Nat} (hi : i < n) : w.cell? ⟨g,i,none⟩ = some (.int .i64 (iv xs i)) ∧ w.frozen? ⟨g,i,none⟩ = false:=by
 have h1:=Kd.WH 0 h (i : Int) (by omega) (by omega)
 rw [Int.toNat_natCast] at h1
 have hn:=(Kd.Df h).1
 have e : TN 0 xs (i : Int) = iv xs i:=by simp [TN,iv]
 rw [e] at h1
 exact h1
theorem RI.put {w : World} {b : Nat} {ok : Nat → Prop} {g n cap : Nat} {xs : List Int} (h : RI w b ok (.slice (some ⟨g,0,none⟩) n cap) xs) (i : Nat) (x : Int) : RI (w.setCell ⟨g,i,none⟩ (.int .i64 x)) b ok (.slice (some ⟨g,0,none⟩) n cap) (xs.set i x):=by
 obtain rfl : n = xs.length:=(Kd.Df h).1
 have:=(Kd.Y4 h (i : Int) x).1
 rw [Int.toNat_natCast] at this
 exact this
theorem RI.len {w : World} {b : Nat} {ok : Nat → Prop} {v : Value} {xs : List Int} (h : RI w b ok v xs) : xs.length ≤ 9223372036854775807:=by
 obtain ⟨A,c,rfl, -,hc⟩:=Kd.D6 h
 exact (CY hc).2
end Go.Proofs.YtjeodgfkilhkhaaGreat
namespace Go.Proofs.YtjeodgfkilhkhaaGreat
open Go.RowKit Go.Proofs.YtjeodgfkilhkhaaGreatW.PrintWords Go.Proofs.YtjeodgfkilhkhaaGreatW.PrintLast Go.Proofs.YtjeodgfkilhkhaaGreatW.PrintMore
def BZ (w : World) (g : Nat) (A : Option Addr) (n c : Nat) (p : Int) : Prop:=w.heap[g]? = some (.cells #[.slice A n c, .int .i64 p] 77 (0,0))
section
variable {w w1 : World} {g n c : Nat} {A : Option Addr} {p : Int}
theorem BZ.c0 (h : BZ w g A n c p) : w.cell? ⟨g,0,none⟩ = some (.slice A n c):=by unfold BZ at h;simp [World.cell?,h]
theorem BZ.c1 (h : BZ w g A n c p) : w.cell? ⟨g,1,none⟩ = some (.int .i64 p):=by unfold BZ at h;simp [World.cell?,h]
theorem BZ.frz (h : BZ w g A n c p) (k : Nat) : w.frozen? ⟨g,k,none⟩ = false:=by unfold BZ at h;simp [World.frozen?,h]
theorem BZ.lt (h : BZ w g A n c p) : g < w.heap.size:=(Array.getElem?_eq_some_iff.1 h).1
theorem BZ.up (h : BZ w g A n c p) (hb : Below w.heap.size w w1) : BZ w1 g A n c p:=(hb.block g h.lt).trans h
theorem BZ.set1 (h : BZ w g A n c p) (x : Int) : BZ (w.setCell ⟨g,1,none⟩ (.int .i64 x)) g A n c x:=heap_setCell_same h _
end
theorem xor_i64 (a b : Nat) (ha : a < 4611686018427387904) (hb : b < 4611686018427387904) : bits .xor .i64 (a : Int) (b : Int) = ((a ^^^ b : Nat) : Int):=by
 have hx : a ^^^ b < 2 ^ 62:=Nat.xor_lt_two_pow (by omega) (by omega)
 have h1 : (BitVec.ofInt 64 (a : Int)).toNat = a:=by
  rw [BitVec.ofInt_natCast,BitVec.toNat_ofNat];exact Nat.mod_eq_of_lt (by omega)
 have h2 : (BitVec.ofInt 64 (b : Int)).toNat = b:=by
  rw [BitVec.ofInt_natCast,BitVec.toNat_ofNat];exact Nat.mod_eq_of_lt (by omega)
 show IntKind.i64.wrap ((BitVec.ofInt 64 (a : Int) ^^^ BitVec.ofInt 64 (b : Int)).toNat : Int) = _
 rw [BitVec.toNat_xor,h1,h2,IntWalk.i64_in _ ⟨by omega,by omega⟩]
theorem VI {x m : Int} (h0 : 0 ≤ x) (h1 : x < 4611686018427387904) (hm : 1 ≤ m) : 0 ≤ (bits .xor .i64 x (x / 64)).tmod m ∧ (bits .xor .i64 x (x / 64)).tmod m < m:=by
 obtain ⟨n,rfl⟩ : ∃ n : Nat,x = n:=⟨x.toNat,by omega⟩
 have hd : ((n : Int) / 64) = ((n / 64 : Nat) : Int):=by omega
 rw [hd,xor_i64 _ _ (by omega) (by omega),Int.tmod_eq_emod_of_nonneg (by omega)]
 exact ⟨Int.emod_nonneg _ (by omega),Int.emod_lt_of_pos _ (by omega)⟩
theorem Ti {w : World} {A : Option Addr} {n : Nat} {xs : List Int} (h : Kd.C (Kd.int .u8) w A n xs) (i : Nat) (h1 : i < n) : ∃ ad,A = some ad ∧ w.cell? (ad.add i) = some (.int .u8 (iv xs i)):=by
 obtain ⟨ad,c,e,_,hK,hc0⟩:=Kd.TA h 0 (i : Int) (by omega) (by omega)
 have hc : ∀ j u,c[j]? = some u → w.cell? (ad.add (i * 1 + j)) = some u:=hc0
 obtain rfl : c = [.int .u8 (iv xs i)]:=hK
 have:=hc 0 _ rfl
 rw [Nat.mul_one,Nat.add_zero] at this
 exact ⟨ad,e,this⟩
def Bytes (xs : List Int) : Prop := ∀ x ∈ xs,0 ≤ x ∧ x ≤ 255
theorem Bytes.at {xs : List Int} (h : Bytes xs) {i : Nat} (hi : i < xs.length) : 0 ≤ iv xs i ∧ iv xs i ≤ 255:=by
 have e : iv xs i = xs[i]:=by simp [iv,List.getD_eq_getElem?_getD,hi]
 rw [e]
 exact h _ (List.getElem_mem hi)
def WB (w : World) (g : Nat) (A : Option Addr) (n c : Nat) (p m : Int) (x : Ending) (w' : World) : Prop := ∃ k : Int,x = .returned (.int .i64 k) ∧ (1 ≤ m → 0 ≤ k ∧ k < m) ∧ BZ w' g A n c (p + 1) ∧ Wrote w w' (fun j => j = g)
set_option maxRecDepth 100000 in
set_option maxHeartbeats 8000000 in
theorem Hw {wB w : World} {g c : Nat} {A : Option Addr} {xs : List Int} {p m : Int} (hp0 : 0 ≤ p) (hp1 : p ≤ 1000000) (hm0 : 1 ≤ m) (hm1 : m ≤ 1000) (hn : xs.length ≤ 2000) (hx : Bytes xs) (hb : Below wB.heap.size wB w) (hg : wB.heap.size ≤ g) (hr : Kd.C (Kd.int .u8) wB A xs.length xs) (hq : BZ w g A xs.length c p) : Calls Tryz.prog 33 #[.pointer (some ⟨g,0,none⟩), .int .i64 m] w (WB w g A xs.length c p m):=by
 have hwr : IntKind.i64.wrap (p + 1) = p + 1:=by simp (disch:=omega) only [IntWalk.i64_in]
 have hm2 : decide (m < 1) = false:=by simp;omega
 have r0:=hq.c0
 have r1:=hq.c1
 have f1:=hq.frz 1
 have HQ:=As (hq.set1 (p + 1))
 have HW:=As ((Wrote.refl w (fun j => j = g)).setCell (p:=⟨g,1,none⟩) (.inl rfl) (.int .i64 (p + 1)))
 have HR:=As (BF hr (hb.setCell (p:=⟨g,1,none⟩) hg (.int .i64 (p + 1))))
 have s0:=HQ.out.c0
 have s1:=HQ.out.c1
 clear hr hb hq
 by_cases h0 : xs.length = 0
 ·have h1 : ((xs.length : Int) == 0) = true:=by simp [h0]
  go_enter Tryz.func33,Tryz.ntmps33
  go_wp2
  go_ret
  exact ⟨0,rfl,fun _ => ⟨Int.le_refl _,by show (0 : Int) < m;omega⟩,HQ.out,HW.out⟩
 ·have h1 : ((xs.length : Int) == 0) = false:=by rw [beq_eq_false_iff_ne];omega
  have hn0 : (0 : Int) < (xs.length : Int):=by omega
  have hsub : IntKind.i64.wrap (p + 1 - 1) = p:=by rw [Int.add_sub_cancel];simp (disch:=omega) only [IntWalk.i64_in]
  obtain ⟨k,rfl⟩ : ∃ k : Nat,p = k:=⟨p.toNat,by omega⟩
  by_cases hlt : k < xs.length
  ·obtain ⟨ad,rfl,x0⟩:=Ti HR.out k hlt
   have hk:=hx.at hlt
   have hlt2 : decide ((k : Int) < (xs.length : Int)) = true:=by simp;omega
   go_enter Tryz.func33,Tryz.ntmps33
   go_wp2
   go_ret
   exact ⟨_,rfl,fun _ => ⟨Int.emod_nonneg _ (by omega),Int.emod_lt_of_pos _ (by omega)⟩,HQ.out,HW.out⟩
  ·have hlt2 : decide ((k : Int) < (xs.length : Int)) = false:=by simp;omega
   obtain ⟨i1,hi1⟩ : ∃ i1 : Nat,(k : Int) % (xs.length : Int) = i1:=⟨(k % xs.length),by simp⟩
   have hi1' : i1 < xs.length:=by have:=Int.emod_lt_of_pos (k : Int) hn0;omega
   obtain ⟨i2,hi2⟩ : ∃ i2 : Nat,((k : Int) * 7 + 3) % (xs.length : Int) = i2:=⟨((k * 7 + 3) % xs.length),by simp⟩
   have hi2' : i2 < xs.length:=by have:=Int.emod_lt_of_pos ((k : Int) * 7 + 3) hn0;omega
   obtain ⟨ad,rfl,x1⟩:=Ti HR.out i1 hi1'
   obtain ⟨_,h,x2⟩:=Ti HR.out i2 hi2'
   injection h with h
   subst h
   have hb1:=hx.at hi1'
   have hb2:=hx.at hi2'
   obtain ⟨u1,hu1⟩ : ∃ u1,iv xs i1 = u1:=⟨_,rfl⟩
   obtain ⟨u2,hu2⟩ : ∃ u2,iv xs i2 = u2:=⟨_,rfl⟩
   rw [hu1] at x1 hb1
   rw [hu2] at x2 hb2
   have hi1n : (i1 : Int) < (xs.length : Int):=by omega
   have hi2n : (i2 : Int) < (xs.length : Int):=by omega
   have hm1' : (k : Int).tmod (xs.length : Int) = i1:=by rw [Int.tmod_eq_emod_of_nonneg (by omega),hi1]
   have hm2' : ((k : Int) * 7 + 3).tmod (xs.length : Int) = i2:=by rw [Int.tmod_eq_emod_of_nonneg (by omega),hi2]
   obtain ⟨dv,hdv⟩ : ∃ dv : Int,(k : Int) / (xs.length : Int) = dv:=⟨_,rfl⟩
   have hd0 : 0 ≤ dv:=by rw [← hdv];exact Int.ediv_nonneg (by omega) (by omega)
   have hd1 : dv ≤ 1000000:=by rw [← hdv];exact Int.le_trans (Int.ediv_le_self _ (by omega)) hp1
   have hdt : (k : Int).tdiv (xs.length : Int) = dv:=by rw [Int.tdiv_eq_ediv_of_nonneg (by omega),hdv]
   have hw0 : IntKind.i64.wrap ((k : Int) * 7) = (k : Int) * 7:=by simp (disch:=omega) only [IntWalk.i64_in]
   have hw1 : IntKind.i64.wrap ((k : Int) * 7 + 3) = (k : Int) * 7 + 3:=by simp (disch:=omega) only [IntWalk.i64_in]
   have hw2 : IntKind.i64.wrap (u1 * 131) = u1 * 131:=by simp (disch:=omega) only [IntWalk.i64_in]
   have hw3 : IntKind.i64.wrap (u2 * 1117) = u2 * 1117:=by simp (disch:=omega) only [IntWalk.i64_in]
   have hw4 : IntKind.i64.wrap (u1 * 131 + u2 * 1117) = u1 * 131 + u2 * 1117:=by simp (disch:=omega) only [IntWalk.i64_in]
   have hw5 : IntKind.i64.wrap ((k : Int) * 29) = (k : Int) * 29:=by simp (disch:=omega) only [IntWalk.i64_in]
   have hw6 : IntKind.i64.wrap (u1 * 131 + u2 * 1117 + (k : Int) * 29) = u1 * 131 + u2 * 1117 + (k : Int) * 29:=by simp (disch:=omega) only [IntWalk.i64_in]
   have hw7 : IntKind.i64.wrap (dv * 53) = dv * 53:=by simp (disch:=omega) only [IntWalk.i64_in]
   have hw8 : IntKind.i64.wrap (u1 * 131 + u2 * 1117 + (k : Int) * 29 + dv * 53) = u1 * 131 + u2 * 1117 + (k : Int) * 29 + dv * 53:=by simp (disch:=omega) only [IntWalk.i64_in]
   clear hu1 hu2
   go_enter Tryz.func33,Tryz.ntmps33
   go_wp2
   refine Aq (fun w' => Below (w.setCell ⟨g,1,none⟩ (.int .i64 ((k : Int) + 1))).heap.size (w.setCell ⟨g,1,none⟩ (.int .i64 ((k : Int) + 1))) w') rfl rfl (by kernel_rfl) (Ac (Below.refl _ _)) (fun HT => ?_)
   repeat (first
    | (refine AQ (fun wx hS => ?_))
    | (refine AB HT rfl (by rfl) (fun _ _ _ h => h) ?_;simp only [sc0,sc1])
    | (refine AP (v:=?_) HT rfl (by rfl) (fun _ _ _ h => h) (fun wx hS => ?_) ?_;rotate_left;(have s0:=bc hS s0;have s1:=bc hS s1;have x1:=bc hS x1;have x2:=bc hS x2;go_simp;with_reducible rfl);rotate_left;simp only [sc0,sc1]))
   have HX:=As hS
   clear hS
   go_wp2
   go_ret
   exact ⟨_,rfl,fun h => VI (by omega) (by omega) h,HQ.out.up HX.out,HW.out.Ce (Wrote.of_below HX.out (fun j => j = g)) (fun _ h => .inl h)⟩
end Go.Proofs.YtjeodgfkilhkhaaGreat
namespace Go.Proofs.YtjeodgfkilhkhaaGreat
open Go.RowKit Go.Proofs.YtjeodgfkilhkhaaGreatW.PrintWords Go.Proofs.YtjeodgfkilhkhaaGreatW.PrintLast Go.Proofs.YtjeodgfkilhkhaaGreatW.PrintMore
abbrev Eng.ag (e : Eng) (vd vm vl : Value) : Value:=.agg #[vd,vm,vl, .int .i64 e.safe, .bool e.down]
def Ab (w : World) (g : Nat) (e : Eng) (vd vm vl : Value) : Prop:=w.heap[g]? = some (.cells #[vd,vm,vl, .int .i64 e.safe, .bool e.down] 26 (0,0))
section
variable {w w1 : World} {g : Nat} {e : Eng} {vd vm vl : Value}
theorem Ab.c0 (h : Ab w g e vd vm vl) : w.cell? ⟨g,0,none⟩ = some vd:=by unfold Ab at h;simp [World.cell?,h]
theorem Ab.c1 (h : Ab w g e vd vm vl) : w.cell? ⟨g,1,none⟩ = some vm:=by unfold Ab at h;simp [World.cell?,h]
theorem Ab.c2 (h : Ab w g e vd vm vl) : w.cell? ⟨g,2,none⟩ = some vl:=by unfold Ab at h;simp [World.cell?,h]
theorem Ab.c3 (h : Ab w g e vd vm vl) : w.cell? ⟨g,3,none⟩ = some (.int .i64 e.safe):=by unfold Ab at h;simp [World.cell?,h]
theorem Ab.c4 (h : Ab w g e vd vm vl) : w.cell? ⟨g,4,none⟩ = some (.bool e.down):=by unfold Ab at h;simp [World.cell?,h]
theorem Ab.frz (h : Ab w g e vd vm vl) (k : Nat) : w.frozen? ⟨g,k,none⟩ = false:=by unfold Ab at h;simp [World.frozen?,h]
theorem Ab.lt (h : Ab w g e vd vm vl) : g < w.heap.size:=(Array.getElem?_eq_some_iff.1 h).1
theorem Ab.up (h : Ab w g e vd vm vl) (hb : Below w.heap.size w w1) : Ab w1 g e vd vm vl:=(hb.block g h.lt).trans h
theorem Ab.far (h : Ab w g e vd vm vl) {b : Nat} (hne : b ≠ g) (j : Nat) (u : Value) : Ab (w.setCell ⟨b,j,none⟩ u) g e vd vm vl:=(Below.heap_setCell w ⟨b,j,none⟩ u g (Ne.symm hne)).trans h
theorem Ab.mk1 (w : World) (e : Eng) (vd vm vl : Value) : Ab (w.alloc (.cells #[vd,vm,vl, .int .i64 e.safe, .bool e.down] 26)) w.heap.size e vd vm vl:=by
 show (w.heap.push _)[w.heap.size]? = _
 simp
theorem Ab.set0 (h : Ab w g e vd vm vl) (u : Value) : Ab (w.setCell ⟨g,0,none⟩ u) g e u vm vl:=heap_setCell_same h _
theorem Ab.set1 (h : Ab w g e vd vm vl) (u : Value) : Ab (w.setCell ⟨g,1,none⟩ u) g e vd u vl:=heap_setCell_same h _
theorem Ab.set2 (h : Ab w g e vd vm vl) (u : Value) : Ab (w.setCell ⟨g,2,none⟩ u) g e vd vm u:=heap_setCell_same h _
theorem Ab.CK (h : Ab w g e vd vm vl) (x : Int) : Ab (w.setCell ⟨g,3,none⟩ (.int .i64 x)) g { e with safe:=x } vd vm vl:=heap_setCell_same h _
theorem Ab.Xp (h : Ab w g e vd vm vl) (x : Bool) : Ab (w.setCell ⟨g,4,none⟩ (.bool x)) g { e with down:=x } vd vm vl:=heap_setCell_same h _
structure Ff (w : World) (e : Eng) (Ad Am Al : Option Addr) : Prop where
 d : Kd.C CJ w Ad e.disk.length e.disk
 m : Kd.C CJ w Am e.mem.length e.mem
 l : Kd.C kRec w Al e.log.length e.log
theorem Ff.up {Ad Am Al : Option Addr} (h : Ff w e Ad Am Al) (hb : Below w.heap.size w w1) : Ff w1 e Ad Am Al:=⟨BF h.d hb,BF h.m hb,BF h.l hb⟩
abbrev Eng.val (e : Eng) (Ad Am Al : Option Addr) (cd cm cl : Nat) : Value:=e.ag (.slice Ad e.disk.length cd) (.slice Am e.mem.length cm) (.slice Al e.log.length cl)
end
abbrev Eng.obox (e : Eng) (vd vm vl : Value) : Obj:=.cells #[vd,vm,vl, .int .i64 e.safe, .bool e.down] 26
theorem Ca {P : Program} {ops : Array Oper} {l : List Oper} {Q : Exit → Act → World → Prop} {a : Act} {w : World} (e : Eng) {vd vm vl : Value} (h : ∀ w1,Below w.heap.size w w1 → w1.heap.size = w.heap.size + 1 → Ab w1 w.heap.size e vd vm vl → wpList P ops Q l a w1) : wpList P ops Q l a (w.alloc (.cells #[vd,vm,vl, .int .i64 e.safe, .bool e.down] 26)):=
 h _ ((Below.refl _ _).alloc (Nat.le_refl _) _) (BD _ _) (Ab.mk1 w e vd vm vl)
theorem GU {P : Program} {ops : Array Oper} {Q : Exit → Act → World → Prop} {S : Array Bool → Act → World → Prop} {m : Nat} {done : List Nat} {a : Act} (hok : WT ops done = true) (h : ∀ w,S (lsd ops.size done) a w → Q .normal a w) : Reg P ops Q S m done a:=by
 refine ⟨?_⟩
 have hr:=beq_iff_eq.1 hok
 generalize ops.size - done.length = n
 cases n with
 | zero => exact ⟨hr,h⟩
 | succ n => exact ⟨fun _ => h,fun i hi => by rw [hr] at hi;cases hi⟩
theorem Lh (n i j : Nat) (done : List Nat) : lsd n (i :: j :: done) = lsd n (j :: i :: done):=by
 apply Array.ext
 ·simp [lsd]
 ·intro k h1 h2
  simp [lsd,or_left_comm, ← or_assoc]
abbrev ptr (B : Nat) : Value:=.pointer (some ⟨B,0,none⟩)
theorem Q8 {P : Program} {ops : Array Oper} {Q : Exit → Act → World → Prop} {S : Array Bool → Act → World → Prop} {m : Nat} {done : List Nat} {L : List Value} {D : List Deferred} {o1 o2 : Oper} {ob1 ob2 : Obj} (i j : Nat) {d1 d2 : Nat} (h1 : ops.toList[i]? = some o1) (h2 : ops.toList[j]? = some o2)
  (hok : (Region.ready .any ops (lsd ops.size done) == [i,j] && (Region.ready .any ops (lsd ops.size (i :: done)) == [j] && (Region.ready .any ops (lsd ops.size (j :: done)) == [i] && decide (done.length + 1 < ops.size)))) = true)
  (hd1 : o1.dst = some d1) (hd2 : o2.dst = some d2) (hne : (d1 == d2) = false) (hg1 : ∀ t,Region.wanted o1 t = true) (hg2 : ∀ t,Region.wanted o2 t = true)
  (hr1 : ∀ (a : Act) w,(execOp a.eval o1).run P w = .ok (.value (ptr w.heap.size)) (w.alloc ob1)) (hr2 : ∀ (a : Act) w,(execOp a.eval o2).run P w = .ok (.value (ptr w.heap.size)) (w.alloc ob2))
  (s1 : ∀ w,S (lsd ops.size done) ⟨L.toArray,D⟩ w → S (lsd ops.size (i :: done)) ⟨(L.set d1 (ptr w.heap.size)).toArray,D⟩ (w.alloc ob1))
  (s2 : ∀ w,S (lsd ops.size done) ⟨L.toArray,D⟩ w → S (lsd ops.size (j :: done)) ⟨(L.set d2 (ptr w.heap.size)).toArray,D⟩ (w.alloc ob2))
  (l1 : ∀ B w,S (lsd ops.size (i :: done)) ⟨(L.set d1 (ptr B)).toArray,D⟩ w → B < w.heap.size) (l2 : ∀ B w,S (lsd ops.size (j :: done)) ⟨(L.set d2 (ptr B)).toArray,D⟩ w → B < w.heap.size)
  (s12 : ∀ B w,S (lsd ops.size (i :: done)) ⟨(L.set d1 (ptr B)).toArray,D⟩ w → S (lsd ops.size (j :: i :: done)) ⟨((L.set d1 (ptr B)).set d2 (ptr w.heap.size)).toArray,D⟩ (w.alloc ob2))
  (s21 : ∀ B w,S (lsd ops.size (j :: done)) ⟨(L.set d2 (ptr B)).toArray,D⟩ w → S (lsd ops.size (j :: i :: done)) ⟨((L.set d1 (ptr w.heap.size)).set d2 (ptr B)).toArray,D⟩ (w.alloc ob1))
  (h : ∀ B1 B2,B1 ≠ B2 → Reg P ops Q S m (j :: i :: done) ⟨((L.set d1 (ptr B1)).set d2 (ptr B2)).toArray,D⟩) : Reg P ops Q S m done ⟨L.toArray,D⟩:=by
 simp only [Bool.and_eq_true,beq_iff_eq,decide_eq_true_eq] at hok
 obtain ⟨r0,r1,r2,hl⟩:=hok
 have hne : d1 ≠ d2:=by simpa using hne
 refine AJ [i,j] (by rw [r0];simp;omega) (fun k hk w hS => ?_)
 rcases List.mem_cons.1 hk with rfl | hk
 ·refine Hl (w1:=w.alloc ob1) (ptr w.heap.size) h1 (hg1 _) (hr1 _ _) ?_
  rw [hd1,Ck]
  refine ⟨s1 w hS,AJ [j] (by rw [r1];simp;omega) (fun k hk w' hS' => ?_)⟩
  obtain rfl:=List.mem_singleton.1 hk
  refine Hl (w1:=w'.alloc ob2) (ptr w'.heap.size) h2 (hg2 _) (hr2 _ _) ?_
  rw [hd2,Ck]
  exact ⟨s12 _ w' hS',h _ _ (by have:=l1 _ w' hS';omega)⟩
 ·obtain rfl:=List.mem_singleton.1 hk
  refine Hl (w1:=w.alloc ob2) (ptr w.heap.size) h2 (hg2 _) (hr2 _ _) ?_
  rw [hd2,Ck]
  refine ⟨s2 w hS,AJ [i] (by rw [r2];simp;omega) (fun k hk w' hS' => ?_)⟩
  obtain rfl:=List.mem_singleton.1 hk
  refine Hl (w1:=w'.alloc ob1) (ptr w'.heap.size) h1 (hg1 _) (hr1 _ _) ?_
  rw [hd1,Ck]
  have hx:=s21 _ w' hS'
  have hy:=h w'.heap.size w.heap.size (by have:=l2 _ w' hS';omega)
  rw [List.set_comm _ _ hne] at hx hy
  rw [Lh]
  refine ⟨hx,⟨?_⟩⟩
  have hz:=hy.out
  rw [Lh] at hz
  exact hz
theorem KD {w : World} {A : Option Addr} {l : List Rec} {n : Nat} (h : Kd.C kRec w A l.length l) (hn : n ≤ l.length) : Kd.C kRec w A (l.take n).length (l.take n):=by
 exact Kd.Sw h hn
end Go.Proofs.YtjeodgfkilhkhaaGreat
namespace Go.Proofs.YtjeodgfkilhkhaaGreat
open Go.RowKit Go.Proofs.YtjeodgfkilhkhaaGreatW.PrintWords Go.Proofs.YtjeodgfkilhkhaaGreatW.PrintLast Go.Proofs.YtjeodgfkilhkhaaGreatW.PrintMore
def Ei (w : World) (g : Nat) (e : Eng) (vd vm vl : Value) : Prop:=w.heap[g]? = some (.cells #[vd,vm,vl, .int .i64 e.safe, .bool e.down] 99999 (0,0))
section
variable {w w1 : World} {g : Nat} {e : Eng} {vd vm vl : Value}
theorem Ei.c0 (h : Ei w g e vd vm vl) : w.cell? ⟨g,0,none⟩ = some vd:=by unfold Ei at h;simp [World.cell?,h]
theorem Ei.c1 (h : Ei w g e vd vm vl) : w.cell? ⟨g,1,none⟩ = some vm:=by unfold Ei at h;simp [World.cell?,h]
theorem Ei.c2 (h : Ei w g e vd vm vl) : w.cell? ⟨g,2,none⟩ = some vl:=by unfold Ei at h;simp [World.cell?,h]
theorem Ei.c3 (h : Ei w g e vd vm vl) : w.cell? ⟨g,3,none⟩ = some (.int .i64 e.safe):=by unfold Ei at h;simp [World.cell?,h]
theorem Ei.c4 (h : Ei w g e vd vm vl) : w.cell? ⟨g,4,none⟩ = some (.bool e.down):=by unfold Ei at h;simp [World.cell?,h]
theorem Ei.lt (h : Ei w g e vd vm vl) : g < w.heap.size:=(Array.getElem?_eq_some_iff.1 h).1
theorem Ei.up (h : Ei w g e vd vm vl) (hb : Below w.heap.size w w1) : Ei w1 g e vd vm vl:=(hb.block g h.lt).trans h
theorem Ei.mk1 (w : World) (e : Eng) (vd vm vl : Value) : Ei (w.alloc (.cells #[vd,vm,vl, .int .i64 e.safe, .bool e.down] 99999)) w.heap.size e vd vm vl:=by
 show (w.heap.push _)[w.heap.size]? = _
 simp
end
end Go.Proofs.YtjeodgfkilhkhaaGreat
namespace Go.Proofs.YtjeodgfkilhkhaaGreat
open Go.RowKit Go.Proofs.YtjeodgfkilhkhaaGreatW.PrintWords Go.Proofs.YtjeodgfkilhkhaaGreatW.PrintLast Go.Proofs.YtjeodgfkilhkhaaGreatW.PrintMore
abbrev OwnRs (w : World) (base : Nat) (v : Value) (l : List Rec) : Prop:=Kd.R kRec 43 w base (fun _ => True) v l
def WX (w : World) (l : List Rec) (e : Ending) (w' : World) : Prop := ∃ v,e = .returned v ∧ OwnRs w' w.heap.size v l ∧ Below w.heap.size w w'
theorem Gy : (Tryz.prog.info? 43).map (fun i => (i.zero,i.size,i.bytes)) = some (some (.agg #[.int .i64 0, .int .i64 0, .int .i64 0, .int .i64 0, .int .i64 0, .int .i64 0, .int .i64 0, .int .i64 0]),8,64):=by kernel_rfl
theorem E8 : Tryz.prog.underlying 24 = some (.slice 43):=Tryz.underlying24
theorem Lp (w : World) (base : Nat) (ok : Nat → Prop) (r : Rec) : kRec.M w base ok r r.cells:=
 ⟨[.int .i64 r.kind], [.int .i64 r.tx, .int .i64 r.page, .int .i64 r.slot, .int .i64 r.old, .int .i64 r.new, .int .i64 r.prev, .int .i64 r.next],rfl,rfl,⟨[.int .i64 r.tx], [.int .i64 r.page, .int .i64 r.slot, .int .i64 r.old, .int .i64 r.new, .int .i64 r.prev, .int .i64 r.next],rfl,rfl,⟨[.int .i64 r.page], [.int .i64 r.slot, .int .i64 r.old, .int .i64 r.new, .int .i64 r.prev, .int .i64 r.next],rfl,rfl,⟨[.int .i64 r.slot], [.int .i64 r.old, .int .i64 r.new, .int .i64 r.prev, .int .i64 r.next],rfl,rfl,⟨[.int .i64 r.old], [.int .i64 r.new, .int .i64 r.prev, .int .i64 r.next],rfl,rfl,⟨[.int .i64 r.new], [.int .i64 r.prev, .int .i64 r.next],rfl,rfl,⟨[.int .i64 r.prev], [.int .i64 r.next],rfl,rfl,rfl⟩⟩⟩⟩⟩⟩⟩
theorem Jr {w w1 : World} {base : Nat} {ok : Nat → Prop} {r : Rec} {cs : List Value} (h : kRec.K w r cs) : kRec.M w1 base ok r cs:=by
 rw [Kb h]
 exact Lp _ _ _ r
section
variable {ops : Array Oper} {rest : List Oper} {o : Oper} {a : Act} {Q : Exit → Act → World → Prop}
theorem GK {w0 W : World} {v : Value} {xs ys : List Rec} {A : Option Addr} {c : Nat} (hgd : o.guard = none) (s x : Operand)
  (ho : o.op = .call { callee:=.builtin .append,args:=#[s,x],argTypes:=#[24,24] }) (hs : a.eval s = v) (hx : a.eval x = .slice A ys.length c)
  (HO : OwnRs W w0.heap.size v xs) (HR : Kd.C kRec W A ys.length ys) (HB : Below w0.heap.size w0 W) (hl : xs.length + ys.length ≤ 1000)
  (h : ∀ v1 w1,OwnRs w1 w0.heap.size v1 (xs ++ ys) → Below w0.heap.size w0 w1 → W.grownBy w1 v.ownBlock → wpList Tryz.prog ops Q rest (a.put o.dst v1) w1) :
  wpList Tryz.prog ops Q (o :: rest) a W:=
 Kd.Od kRec (Rr:=kRec.K W) w0.heap.size hgd s x 24 43 _ 64 ho E8 Gy rfl (by decide) (by decide) v xs ys A ys.length c (fun _ => True) (fun _ => False) hs hx HO HR (fun _ _ hk => Jr hk) (fun _ hk => hk.elim) (fun _ _ => trivial) HB HB.size (by omega) (fun v1 w1 h1 h2 h3 _ => h v1 w1 h1 h2 h3)
theorem Q9 {w0 W : World} {v : Value} {xs : List Rec} {r : Rec} (hgd : o.guard = none) (s x : Operand)
  (ho : o.op = .call { callee:=.builtin .append,args:=#[s,x],argTypes:=#[24,24] }) (hs : a.eval s = v) (hx : a.eval x = .slice (some ⟨W.heap.size,0,none⟩) 1 1)
  (HO : OwnRs W w0.heap.size v xs) (HB : Below w0.heap.size w0 W) (hl : xs.length ≤ 1000)
  (h : ∀ v1 w1,OwnRs w1 w0.heap.size v1 (xs ++ [r]) → Below w0.heap.size w0 w1 → W.grownBy w1 v.ownBlock → wpList Tryz.prog ops Q rest (a.put o.dst v1) w1) :
  wpList Tryz.prog ops Q (o :: rest) a (W.alloc (.cells #[.int .i64 r.kind, .int .i64 r.tx, .int .i64 r.page, .int .i64 r.slot, .int .i64 r.old, .int .i64 r.new, .int .i64 r.prev, .int .i64 r.next] 43)):=
 Kd.Rb kRec w0.heap.size hgd s x 24 43 _ 64 ho E8 Gy rfl (by decide) (by decide) v xs r r.cells (fun _ => True) (fun _ => False) hs hx (Lp _ _ _ r) (fun _ hk => hk.elim) (fun _ _ => trivial) HO HB HB.size (by omega) (fun v1 w1 h1 h2 h3 _ => h v1 w1 h1 h2 h3)
end
theorem rs_empty {W : World} {g base : Nat} (hg : g = W.heap.size) (hb : base ≤ W.heap.size) : OwnRs (W.alloc (.cells #[] 43)) base (.slice (some ⟨g,0,none⟩) 0 0) []:=⟨fun _ _ => trivial, [],own_none' _ 8 hg hb,Reps.none _ _⟩
theorem VO (W : World) (base : Nat) : OwnRs W base (.slice none 0 0) []:=Kd.Vx _ _ _ _ _
set_option maxRecDepth 100000 in
set_option maxHeartbeats 2000000 in
theorem Lv {w0 w : World} {A : Option Addr} {c : Nat} {l : List Rec} (hl : l.length ≤ 150) (hb : Below w0.heap.size w0 w) (hr : Kd.C kRec w0 A l.length l) : Calls Tryz.prog 37 #[.slice A l.length c] w (WX w l):=by
 have HR:=As (BF hr hb)
 have hq : ∀ (w : World) (a : Option Addr) (n c n' c' : Nat),(binOp .eql 24 (.slice a n c) (.slice none n' c')).run Tryz.prog w = .ok (.bool a.isNone) w:=fun w a n c n' c' => Go.Lib.run_eql_slice_nil w _ _ a n c n' c' E8
 clear hr hb
 cases A with
 | none =>
  have hn : l = []:=by
   cases l with
   | nil => rfl
   | cons r t => obtain ⟨ad,h,_⟩:=Cs HR.out 0 (by simp);cases h
  subst hn
  go_enter Tryz.func37,Tryz.ntmps37
  go_wp2
  go_ret
  exact ⟨_,rfl,VO _ _,by go_grown⟩
 | some ad =>
  go_enter Tryz.func37,Tryz.ntmps37
  go_wp2_with (at_builtin;(refine GK (w0:=w) (xs := []) rfl (.tmp 5) (.tmp 6) rfl rfl rfl (rs_empty rfl (Nat.le_refl _)) (BF HR.out (Aa (Below.refl _ _) _)) (Aa (Below.refl _ _) _) (by simp;omega) ?_);intro v1 w1 hO hb1 _;have HO:=As hO;have HB:=As hb1;clear hO hb1)
  go_ret
  exact ⟨_,rfl,HO.out,HB.out⟩
structure Aw (w : World) (base : Nat) (vd vm vl : Value) (e : Eng) : Prop where
 ex : ∃ okd okm : Nat → Prop,(∀ k,okd k → okm k → False) ∧ Ci w base okd vd e.disk ∧ Ci w base okm vm e.mem
 l : OwnRs w base vl e.log
section
variable {w w1 : World} {base : Nat} {vd vm vl : Value} {e : Eng}
theorem Aw.below (h : Aw w base vd vm vl e) (hb : Below w.heap.size w w1) : Aw w1 base vd vm vl e:=by
 obtain ⟨⟨okd,okm,h1,h2,h3⟩,h4⟩:=h
 exact ⟨⟨okd,okm,h1,Kd.Bg h2 hb,Kd.Bg h3 hb⟩,Kd.C8 h4 hb⟩
theorem Aw.lower {b' : Nat} (h : Aw w base vd vm vl e) (hb : b' ≤ base) : Aw w b' vd vm vl e:=by
 obtain ⟨⟨okd,okm,h1,h2,h3⟩,h4⟩:=h
 exact ⟨⟨okd,okm,h1,Kd.Eb h2 hb,Kd.Eb h3 hb⟩,Kd.H8 h4 hb⟩
theorem Hu : ∀ q,q ∈ 47 :: CJ.E → q = 47 ∨ q = 3:=by decide
theorem Aw.set (h : Aw w base vd vm vl e) {g t : Nat} {cells : Array Value} (hb : w.heap[g]? = some (.cells cells t (0,0))) (h1 : t ≠ 47) (h2 : t ≠ 3) (h3 : t ≠ 43) (j : Nat) (u : Value) : Aw (w.setCell ⟨g,j,none⟩ u) base vd vm vl e:=by
 obtain ⟨⟨okd,okm,ha,hx,hy⟩,hz⟩:=h
 have hp : ∀ q,q ∈ 47 :: CJ.E → q ≠ t:=fun q hq => by rcases Hu q hq with rfl | rfl;exact Ne.symm h1;exact Ne.symm h2
 have hr : ∀ q,q ∈ 43 :: kRec.E → q ≠ t:=fun q hq => by
  have : q = 43:=by simpa [kRec,Kd.iso,Kd.pair,Kd.int,Kd.scalar] using hq
  rw [this];exact Ne.symm h3
 exact ⟨⟨okd,okm,ha,Kd.R8 hx hb hp j u,Kd.R8 hy hb hp j u⟩,Kd.X5 hz hb hr j u⟩
theorem Aw.reads (h : Aw w base vd vm vl e) : ∃ Ad cd Am cm Al cl,vd = .slice Ad e.disk.length cd ∧ vm = .slice Am e.mem.length cm ∧ vl = .slice Al e.log.length cl ∧ e.log.length ≤ cl ∧ Ff w e Ad Am Al:=by
 obtain ⟨⟨okd,okm,_,hx,hy⟩,hz⟩:=h
 obtain ⟨Ad,cd,h1,_,h2⟩:=Kd.CV hx
 obtain ⟨Am,cm,h3,_,h4⟩:=Kd.CV hy
 obtain ⟨Al,cl,h5,h6,h7⟩:=Kd.D6 hz
 exact ⟨Ad,cd,Am,cm,Al,cl,h1,h3,h5,h6,h2,h4,h7⟩
theorem Aw.mk2 {w0 : World} {ps qs : List Page} {l : List Rec} (hd : Ci w0 base (fun _ => True) vd ps) (hm : Ci w1 w0.heap.size (fun _ => True) vm qs) (hb : Below w0.heap.size w0 w1) (hbase : base ≤ w0.heap.size) (hl : OwnRs w1 base vl l) {s : Int} {d : Bool} : Aw w1 base vd vm vl ⟨ps,qs,l,s,d⟩:=
 ⟨⟨fun k => True ∧ k < w0.heap.size,fun k => w0.heap.size ≤ k,fun k h1 h2 => by omega,Kd.Fe hd hb,Kd.Eb (Kd.Dt (Kd.Dg hm) (fun k hk => hk.2.1)) hbase⟩,hl⟩
end
def WE (w : World) (e : Eng) (x : Ending) (w' : World) : Prop := ∃ vd vm vl,x = .returned (e.ag vd vm vl) ∧ Aw w' w.heap.size vd vm vl e ∧ Below w.heap.size w w'
end Go.Proofs.YtjeodgfkilhkhaaGreat
namespace Go.Proofs.YtjeodgfkilhkhaaGreat
open Go.RowKit Go.Proofs.YtjeodgfkilhkhaaGreatW.PrintWords Go.Proofs.YtjeodgfkilhkhaaGreatW.PrintLast Go.Proofs.YtjeodgfkilhkhaaGreatW.PrintMore
theorem take_set {α : Type} {xs ys : List α} {k : Nat} {x : α} (h : ys.take k = xs.take k) (hl : ys.length = xs.length) (hk : xs[k]? = some x) : (ys.set k x).take (k + 1) = xs.take (k + 1):=by
 have hlt : k < xs.length:=(List.getElem?_eq_some_iff.1 hk).1
 rw [List.take_add_one,List.take_add_one,hk,List.getElem?_set_self (by omega),List.take_set_of_le (Nat.le_refl _),h]
theorem AA.Zq {w : World} {b : Nat} {v : Value} {xs : List Int} (h : AA w b v xs) (hp : 0 < xs.length) : ∃ g cap,v = .slice (some ⟨g,0,none⟩) xs.length cap ∧ b ≤ g ∧ g < w.heap.size:=by
 rcases AA.form h with ⟨-,h2⟩ | ⟨g,cap,cur,h1,h2,h3, -⟩
 ·rw [h2] at hp
  simp at hp
 ·exact ⟨g,cap,h1,h2,(Array.getElem?_eq_some_iff.1 h3).1⟩
theorem YI {w : World} {b n : Nat} {ok : Nat → Prop} {v : Value} (h : (Kd.int .i64).R 3 w b ok v (List.replicate (n : Int).toNat 0)) : AA w b v (List.replicate n 0):=Kd.I4 h
def TwoPs (w : World) (base : Nat) (vd vm : Value) (ps qs : List Page) : Prop := ∃ okd okm : Nat → Prop,(∀ k,okd k → okm k → False) ∧ Ci w base okd vd ps ∧ Ci w base okm vm qs
theorem TwoPs.below {w w1 : World} {base : Nat} {vd vm : Value} {ps qs : List Page} (h : TwoPs w base vd vm ps qs) (hb : Below w.heap.size w w1) : TwoPs w1 base vd vm ps qs:=by
 obtain ⟨okd,okm,h1,h2,h3⟩:=h
 exact ⟨okd,okm,h1,Kd.Bg h2 hb,Kd.Bg h3 hb⟩
theorem TwoPs.mk {w0 w1 : World} {base : Nat} {vd vm : Value} {ps qs : List Page} (hd : Ci w0 base (fun _ => True) vd ps) (hm : Ci w1 w0.heap.size (fun _ => True) vm qs) (hb : Below w0.heap.size w0 w1) (hbase : base ≤ w0.heap.size) : TwoPs w1 base vd vm ps qs:=
 ⟨fun k => True ∧ k < w0.heap.size,fun k => w0.heap.size ≤ k,fun k h1 h2 => by omega,Kd.Fe hd hb,Kd.Eb (Kd.Dt (Kd.Dg hm) (fun k hk => hk.2.1)) hbase⟩
theorem TwoPs.eng {w : World} {base : Nat} {vd vm vl : Value} {e : Eng} (h : TwoPs w base vd vm e.disk e.mem) (hl : OwnRs w base vl e.log) : Aw w base vd vm vl e:=⟨h,hl⟩
def Sl2 (i s j t : Nat) (p : Value → Value → World → Prop) (l : Array Bool) (a : Act) (w : World) : Prop:=l.getD i false = true → l.getD j false = true → p (a.tmps.getD s undef) (a.tmps.getD t undef) w
theorem Hg {k i s j t d : Nat} {p : Value → Value → World → Prop} (h1 : (d == s) = false) (h2 : (d == t) = false) (h3 : (k == i) = false) (h4 : (k == j) = false) : Keeps (Sl2 i s j t p) k (some d):=fun l a v w => by
 have h1 : d ≠ s:=by simpa using h1
 have h2 : d ≠ t:=by simpa using h2
 have h3 : k ≠ i:=by simpa using h3
 have h4 : k ≠ j:=by simpa using h4
 have e1 : (a.put (some d) v).tmps.getD s undef = a.tmps.getD s undef:=by simp [Act.put,h1]
 have e2 : (a.put (some d) v).tmps.getD t undef = a.tmps.getD t undef:=by simp [Act.put,h2]
 have e3 : (l.setIfInBounds k true).getD i false = l.getD i false:=getD_set_ne false h3
 have e4 : (l.setIfInBounds k true).getD j false = l.getD j false:=getD_set_ne false h4
 rw [Sl2,Sl2,e1,e2,e3,e4]
theorem LU {n i s j t : Nat} {p : Value → Value → World → Prop} {a : Act} {w : World} : Sl2 i s j t p (lsd n []) a w:=fun h => by
 rw [K9] at h
 simp [Array.getD] at h
def zE : Eng:=⟨[], [], [],0,false⟩
abbrev Ap (w : World) (g : Nat) (e : Eng) (vd vm vl : Value) : World:=((((w.setCell ⟨g,0,none⟩ vd).setCell ⟨g,1,none⟩ vm).setCell ⟨g,2,none⟩ vl).setCell ⟨g,3,none⟩ (.int .i64 e.safe)).setCell ⟨g,4,none⟩ (.bool e.down)
theorem Ab.Ap {w : World} {g : Nat} {q : Eng} {ud um ul : Value} (h : Ab w g q ud um ul) (e : Eng) (vd vm vl : Value) : Ab (Ap w g e vd vm vl) g e vd vm vl:=(((((h.set0 vd).set1 vm).set2 vl).CK e.safe).Xp e.down)
theorem Ab.blk {w : World} {g : Nat} {q : Eng} {ud um ul : Value} (h : Ab w g q ud um ul) : w.heap[g]? = some (.cells #[ud,um,ul, .int .i64 q.safe, .bool q.down] 26 (0,0)):=h
theorem Aw.Ap {w : World} {b g : Nat} {vd vm vl xd xm xl ud um ul : Value} {e q f : Eng} (h : Aw w b vd vm vl e) (hg : Ab w g q ud um ul) : Aw (Ap w g f xd xm xl) b vd vm vl e:=by
 have n1 : 26 ≠ 47:=by decide
 have n2 : 26 ≠ 3:=by decide
 have n3 : 26 ≠ 43:=by decide
 exact ((((h.set hg.blk n1 n2 n3 0 xd).set (hg.set0 xd).blk n1 n2 n3 1 xm).set ((hg.set0 xd).set1 xm).blk n1 n2 n3 2 xl).set (((hg.set0 xd).set1 xm).set2 xl).blk n1 n2 n3 3 _).set ((((hg.set0 xd).set1 xm).set2 xl).CK f.safe).blk n1 n2 n3 4 _
theorem Aj {w0 w : World} {g : Nat} (h : Below w0.heap.size w0 w) (hg : w0.heap.size ≤ g) (e : Eng) (vd vm vl : Value) : Below w0.heap.size w0 (Go.Proofs.YtjeodgfkilhkhaaGreat.Ap w g e vd vm vl):=((((h.setCell (p:=⟨g,0,none⟩) hg _).setCell (p:=⟨g,1,none⟩) hg _).setCell (p:=⟨g,2,none⟩) hg _).setCell (p:=⟨g,3,none⟩) hg _).setCell (p:=⟨g,4,none⟩) hg _
set_option maxRecDepth 100000 in
set_option maxHeartbeats 8000000 in
theorem IU {w0 w : World} {e : Eng} {Ad Am Al : Option Addr} {cd cm cl : Nat} (hd : geo e.disk) (hm : geo e.mem) (hl : e.log.length ≤ 150) (hb : Below w0.heap.size w0 w) (hr : Ff w0 e Ad Am Al) : Calls Tryz.prog 47 #[e.val Ad Am Al cd cm cl] w (WE w e):=by
 have HR:=As (hr.up hb)
 have HD:=As hd
 have HM:=As hm
 have HL:=As hl
 clear hr hb hd hm hl
 obtain ⟨w1,hw1⟩ : ∃ w1,w.alloc (e.obox (.slice Ad e.disk.length cd) (.slice Am e.mem.length cm) (.slice Al e.log.length cl)) = w1:=⟨_,rfl⟩
 obtain ⟨w2,hw2⟩ : ∃ w2,w1.alloc (zE.obox (.slice none 0 0) (.slice none 0 0) (.slice none 0 0)) = w2:=⟨_,rfl⟩
 have hz1 : w1.heap.size = w.heap.size + 1:=by rw [← hw1];exact BD _ _
 have hz2 : w2.heap.size = w.heap.size + 2:=by rw [← hw2,BD,hz1]
 have hb12 : Below w1.heap.size w1 w2:=by rw [← hw2];exact Aa (Below.refl _ _) _
 have HB2 : A7 (Below w.heap.size w w2):=⟨by rw [← hw2, ← hw1];exact Aa (Aa (Below.refl _ _) _) _⟩
 have HQ2 : A7 (Ab w2 w.heap.size e (.slice Ad e.disk.length cd) (.slice Am e.mem.length cm) (.slice Al e.log.length cl)):=⟨Ab.up (by rw [← hw1];exact Ab.mk1 _ _ _ _ _) hb12⟩
 have HP2 : A7 (Ab w2 (w.heap.size + 1) zE (.slice none 0 0) (.slice none 0 0) (.slice none 0 0)):=⟨by rw [← hw2, ← hz1];exact Ab.mk1 _ _ _ _ _⟩
 have HW2 : A7 ((w.alloc (e.obox (.slice Ad e.disk.length cd) (.slice Am e.mem.length cm) (.slice Al e.log.length cl))).alloc (zE.obox (.slice none 0 0) (.slice none 0 0) (.slice none 0 0)) = w2):=⟨by rw [hw1,hw2]⟩
 have HZ2:=As hz2
 clear hw1 hw2 hz1 hz2 hb12
 go_enter Tryz.func47,Tryz.ntmps47
 go_wp2
 rw [show (w.alloc (Obj.cells #[Value.slice Ad e.disk.length cd,Value.slice Am e.mem.length cm,Value.slice Al e.log.length cl,Value.int IntKind.i64 e.safe,Value.bool e.down] 26)).alloc (Obj.cells #[Value.slice none 0 0,Value.slice none 0 0,Value.slice none 0 0,Value.int IntKind.i64 0,Value.bool false] 26) = w2 from HW2.out]
 refine Bo (fun lx a wx => (Below w.heap.size w wx ∧ w.heap.size + 2 ≤ wx.heap.size ∧ Ab wx w.heap.size e (.slice Ad e.disk.length cd) (.slice Am e.mem.length cm) (.slice Al e.log.length cl) ∧ Ab wx (w.heap.size + 1) zE (.slice none 0 0) (.slice none 0 0) (.slice none 0 0)) ∧ (Sl 2 5 (fun v wx => F3 wx (w.heap.size + 2) v e.disk) lx a wx ∧ (Sl2 2 5 5 8 (fun v u wx => TwoPs wx (w.heap.size + 2) v u e.disk e.mem) lx a wx ∧ Sl 8 11 (fun v wx => OwnRs wx (w.heap.size + 2) v e.log) lx a wx))) 14 rfl (by kernel_rfl) (⟨⟨Ac HB2.out,by have:=HZ2.out;show _ ≤ w2.heap.size;omega,HQ2.out.up (Ac (Below.refl _ _)),HP2.out.up (Ac (Below.refl _ _))⟩,Bp,LU,Bp⟩) (fun HT => ?_)
 refine Bw [0,1,3,4,6,7,9,10,11,12] ?_
 iterate 10 (refine Bq (v:=?_) HT rfl (by kernel_rfl) rfl (kA Ah (kA (Ak rfl rfl) (kA (Hg rfl rfl rfl rfl) (Ak rfl rfl)))) (by rfl) (fun _ _ _ h => h) (fun lx ax wx hS => ?_) ?_;rotate_left;(obtain ⟨⟨-, -,hq, -⟩, -⟩:=hS;have x0:=hq.c0;have x1:=hq.c1;have x2:=hq.c2;have x3:=hq.c3;have x4:=hq.c4;clear hq;go_simp;with_reducible rfl);rotate_left;simp only [sc0,sc1])
 refine Bv ?_
 refine Cr (i:=2) (f:=36) (args:=#[.slice Ad e.disk.length cd]) (fun v => ∃ A1 c1,v = .slice A1 e.disk.length c1) rfl (by kernel_rfl) rfl Tryz.func36 (by kernel_rfl) rfl rfl (by rfl) (by simp only [List.map_toArray,List.map_cons,List.map_nil];rfl) (fun wx hS => (EW (ET HD.out) (by have:=HD.out.1;omega) hS.1.1 HR.out.d).mono (by rintro x w6 ⟨v,rfl,ho,hb⟩;obtain ⟨A1,c1,rfl, -, -⟩:=Kd.CV ho;exact ⟨_,rfl,⟨A1,c1,rfl⟩,⟨bj hS.1.1 hb,Nat.le_trans hS.1.2.1 hb.size,hS.1.2.2.1.up hb,hS.1.2.2.2.up hb⟩,fun _ => Kd.Eb ho hS.1.2.1,fun _ h => (Ao h (by kernel_rfl)).elim,fun h => (Ao h (by kernel_rfl)).elim⟩)) (fun vx hg => ?_);simp only [sc0,sc1]
 obtain ⟨Bd,dd,rfl⟩:=hg
 refine Cr (i:=5) (f:=36) (args:=#[.slice Am e.mem.length cm]) (fun v => ∃ A1 c1,v = .slice A1 e.mem.length c1) rfl (by kernel_rfl) rfl Tryz.func36 (by kernel_rfl) rfl rfl (by rfl) (by simp only [List.map_toArray,List.map_cons,List.map_nil];rfl) (fun wx hS => (EW (ET HM.out) (by have:=HM.out.1;omega) hS.1.1 HR.out.m).mono (by rintro x w6 ⟨v,rfl,ho,hb⟩;obtain ⟨A1,c1,rfl, -, -⟩:=Kd.CV ho;exact ⟨_,rfl,⟨A1,c1,rfl⟩,⟨bj hS.1.1 hb,Nat.le_trans hS.1.2.1 hb.size,hS.1.2.2.1.up hb,hS.1.2.2.2.up hb⟩,fun _ => Kd.Bg (hS.2.1 (by kernel_rfl)) hb,fun _ _ => TwoPs.mk (hS.2.1 (by kernel_rfl)) ho hb hS.1.2.1,fun h => (Ao h (by kernel_rfl)).elim⟩)) (fun vx hg => ?_);simp only [sc0,sc1]
 obtain ⟨Bm,dm,rfl⟩:=hg
 refine Cr (i:=8) (f:=37) (args:=#[.slice Al e.log.length cl]) (fun v => ∃ A1 c1,v = .slice A1 e.log.length c1) rfl (by kernel_rfl) rfl Tryz.func37 (by kernel_rfl) rfl rfl (by rfl) (by simp only [List.map_toArray,List.map_cons,List.map_nil];rfl) (fun wx hS => (Lv HL.out hS.1.1 HR.out.l).mono (by rintro x w6 ⟨v,rfl,ho,hb⟩;obtain ⟨A1,c1,rfl, -, -⟩:=Kd.D6 ho;exact ⟨_,rfl,⟨A1,c1,rfl⟩,⟨bj hS.1.1 hb,Nat.le_trans hS.1.2.1 hb.size,hS.1.2.2.1.up hb,hS.1.2.2.2.up hb⟩,fun _ => Kd.Bg (hS.2.1 (by kernel_rfl)) hb,fun _ _ => (hS.2.2.1 (by kernel_rfl) (by kernel_rfl)).below hb,fun _ => Kd.H8 ho hS.1.2.1⟩)) (fun vx hg => ?_);simp only [sc0,sc1]
 obtain ⟨Bl,dl,rfl⟩:=hg
 refine CZ (i:=13) (v:=?_) HT rfl (by kernel_rfl) rfl (kA Ah (kA (Ak rfl rfl) (kA (Hg rfl rfl rfl rfl) (Ak rfl rfl)))) (by rfl) (fun _ _ _ h => h) (fun lx ax wx hS => ?_) ?_;rotate_left;(go_simp;with_reducible rfl);rotate_left;simp only [sc0,sc1]
 refine Cb (i:=14) (by kernel_rfl) rfl (fun wx hS => ?_)
 obtain ⟨⟨h1,h2, -,hy⟩, -,hs2,hs3⟩:=hS
 have ho : Aw wx (w.heap.size + 2) (.slice Bd e.disk.length dd) (.slice Bm e.mem.length dm) (.slice Bl e.log.length dl) e:=TwoPs.eng (hs2 (by kernel_rfl) (by kernel_rfl)) (hs3 (by kernel_rfl))
 clear hs2 hs3
 have y0:=hy.c0
 have y1:=hy.c1
 have y2:=hy.c2
 have y3:=hy.c3
 have y4:=hy.c4
 have f0:=hy.frz 0
 have f1:=hy.frz 1
 have f2:=hy.frz 2
 have f3:=hy.frz 3
 have f4:=hy.frz 4
 refine BH (w1:=Go.Proofs.YtjeodgfkilhkhaaGreat.Ap wx (w.heap.size + 1) e (.slice Bd e.disk.length dd) (.slice Bm e.mem.length dm) (.slice Bl e.log.length dl)) rfl (by rfl) (by go_simp) ?_
 have hy2:=hy.Ap e (.slice Bd e.disk.length dd) (.slice Bm e.mem.length dm) (.slice Bl e.log.length dl)
 have ho2:=ho.Ap (f:=e) (xd:=.slice Bd e.disk.length dd) (xm:=.slice Bm e.mem.length dm) (xl:=.slice Bl e.log.length dl) hy
 have h3:=Aj (g:=w.heap.size + 1) h1 (by omega) e (.slice Bd e.disk.length dd) (.slice Bm e.mem.length dm) (.slice Bl e.log.length dl)
 have z0:=hy2.c0
 have z1:=hy2.c1
 have z2:=hy2.c2
 have z3:=hy2.c3
 have z4:=hy2.c4
 refine BM (by kernel_rfl) ?_
 go_wp2
 exact bodyPost_ret (v:=e.ag (.slice Bd e.disk.length dd) (.slice Bm e.mem.length dm) (.slice Bl e.log.length dl)) (by simp [results,Tryz.results47,go_sem,z0,z1,z2,z3,z4]) rfl ⟨_,_,_,rfl,ho2.lower (by omega),h3⟩
def Un (i : Nat) (p : World → Prop) (l : Array Bool) (_a : Act) (w : World) : Prop:=l.getD i false = false → p w
theorem Bj {j i : Nat} {d : Option Nat} {p : World → Prop} (h : (j == i) = false) : Keeps (Un i p) j d:=fun l a v w => by
 have h : j ≠ i:=by simpa using h
 have e : (l.setIfInBounds j true).getD i false = l.getD i false:=getD_set_ne false h
 rw [Un,Un,e]
def Pre (i7 i6 s : Nat) (p : World → Prop) (q : Value → World → Prop) (l : Array Bool) (a : Act) (w : World) : Prop:=l.getD i7 false = false → p w ∧ (l.getD i6 false = true → q (a.tmps.getD s undef) w)
theorem Cf {j i7 i6 s d : Nat} {p : World → Prop} {q : Value → World → Prop} (h1 : (d == s) = false) (h2 : (j == i6) = false) (h3 : (j == i7) = false) : Keeps (Pre i7 i6 s p q) j (some d):=fun l a v w => by
 have h1 : d ≠ s:=by simpa using h1
 have h2 : j ≠ i6:=by simpa using h2
 have h3 : j ≠ i7:=by simpa using h3
 have e1 : (a.put (some d) v).tmps.getD s undef = a.tmps.getD s undef:=by simp [Act.put,h1]
 have e2 : (l.setIfInBounds j true).getD i6 false = l.getD i6 false:=getD_set_ne false h2
 have e3 : (l.setIfInBounds j true).getD i7 false = l.getD i7 false:=getD_set_ne false h3
 rw [Pre,Pre,e1,e2,e3]
theorem FE {n i7 i6 s : Nat} {p : World → Prop} {q : Value → World → Prop} {a : Act} {w : World} (h : p w) : Pre i7 i6 s p q (lsd n []) a w:=fun _ => ⟨h,fun h => by
 rw [K9] at h
 simp [Array.getD] at h⟩
theorem wpOp_step {P : Program} {ops : Array Oper} {Q : Exit → Act → World → Prop} {K : Act → World → Prop} {i : Nat} {o : Oper} {a : Act} {w : World} (hi : ops.toList[i]? = some o) (h : if Region.wanted o (yielded ops a.tmps) = true then Oper.wp P o a w K Q else K (a.put o.dst undef) w) : wpOp P ops Q i K a w:=by
 have hi' : ops[i]? = some o:=by rw [← Array.getElem?_toList];exact hi
 unfold Go.wpOp
 simp only [hi']
 split
 ·rename_i hw
  rw [if_pos hw] at h
  exact .inl h
 ·rename_i hw
  rw [if_neg hw] at h
  exact h
theorem F6 : ∀ q,q ∈ 47 :: CJ.E → q ≠ 43:=by decide
theorem Hr {w : World} {b : Nat} {v : Value} {l : List Rec} (h : OwnRs w b v l) : ∀ k,v.ownBlock = some k → ∃ cells,w.heap[k]? = some (.cells cells 43 (0,0)):=fun k hk => by
 obtain ⟨inner,ho⟩:=Kd.FZ h
 exact Co ho k hk
theorem Aw.logged {w w1 : World} {base : Nat} {vd vm vl v1 : Value} {e : Eng} {l' : List Rec} (h : Aw w base vd vm vl e) (hg : w.grownBy w1 vl.ownBlock) (hl : OwnRs w1 base v1 l') : Aw w1 base vd vm v1 { e with log:=l' }:=by
 obtain ⟨⟨okd,okm,ha,hx,hy⟩,hz⟩:=h
 exact ⟨⟨okd,okm,ha,Kd.LD hx (Hr hz) F6 hg,Kd.LD hy (Hr hz) F6 hg⟩,hl⟩
theorem Ab.XE {w : World} {b g : Nat} {q : Eng} {ud um ul v : Value} {l : List Rec} (h : Ab w g q ud um ul) (hl : OwnRs w b v l) : some g ≠ v.ownBlock:=fun e => by
 obtain ⟨cells,hc⟩:=Hr hl g e.symm
 have h1 : w.heap[g]? = _:=h
 rw [hc] at h1
 injection h1 with h1
 injection h1 with _ h2
 exact absurd h2 (by decide)
theorem Ab.grown {w w1 : World} {b g : Nat} {q : Eng} {ud um ul v : Value} {l : List Rec} (h : Ab w g q ud um ul) (hl : OwnRs w b v l) (hg : w.grownBy w1 v.ownBlock) : Ab w1 g q ud um ul:=(hg.block g h.lt (h.XE hl)).trans h
theorem RS {w w1 : World} {row : Option Nat} (hg : w.grownBy w1 row) : Kept w w1 (fun k => some k = row):=⟨hg.size,fun k hk hn => hg.block k hk hn⟩
theorem Nz (w : World) (g j : Nat) (u : Value) : Kept w (w.setCell ⟨g,j,none⟩ u) (fun k => k = g):=⟨by simp,fun k _ hn => Below.heap_setCell w ⟨g,j,none⟩ u k hn⟩
theorem Rk {W : World} {B : Nat} {r : Rec} (h : GH W ⟨B,0,none⟩ r) : Kd.C kRec W (some ⟨B,0,none⟩) 1 [r]:=by
 obtain ⟨c0,c1,c2,c3,c4,c5,c6,c7⟩:=h
 simp only [Nat.zero_add] at c1 c2 c3 c4 c5 c6 c7
 refine ⟨rfl,by omega,fun _ => ⟨⟨B,0,none⟩,rfl,fun j p hj => ?_⟩⟩
 obtain ⟨rfl,rfl⟩ : j = 0 ∧ p = r:=by
  cases j with
  | zero => simp at hj;exact ⟨rfl,hj.symm⟩
  | succ j => simp at hj
 refine ⟨p.cells,rfl,Kd.K_of_M _ (Lp W 0 (fun _ => True) p),fun i u hi => ?_⟩
 have hlt : i < 8:=(List.getElem?_eq_some_iff.1 hi).1
 have hadd : (⟨B,0,none⟩ : Addr).add (0 * kRec.sz + i) = ⟨B,i,none⟩:=by
  unfold Addr.add
  split
  ·rename_i h0
   simp only [Nat.zero_mul,Nat.zero_add] at h0
   rw [h0]
  ·simp
 rw [hadd]
 match i,hlt,hi with
 | 0,_,hi => cases hi;exact c0
 | 1,_,hi => cases hi;exact c1
 | 2,_,hi => cases hi;exact c2
 | 3,_,hi => cases hi;exact c3
 | 4,_,hi => cases hi;exact c4
 | 5,_,hi => cases hi;exact c5
 | 6,_,hi => cases hi;exact c6
 | 7,_,hi => cases hi;exact c7
def Ey (r : Rec) (k : Int) : Rec:={ r with prev:=k }
def Cg (w : World) (g : Nat) (r : Rec) : Prop:=w.heap[g]? = some (.cells #[.int .i64 r.kind, .int .i64 r.tx, .int .i64 r.page, .int .i64 r.slot, .int .i64 r.old, .int .i64 r.new, .int .i64 r.prev, .int .i64 r.next] 43 (0,0))
theorem Cg.mk1 (w : World) (r : Rec) : Cg (w.alloc r.box) w.heap.size r:=by
 show (w.heap.push _)[w.heap.size]? = _
 simp
theorem Cg.lt {w : World} {g : Nat} {r : Rec} (h : Cg w g r) : g < w.heap.size:=(Array.getElem?_eq_some_iff.1 h).1
theorem Cg.up {w w1 : World} {g : Nat} {r : Rec} (h : Cg w g r) (hb : Below w.heap.size w w1) : Cg w1 g r:=(hb.block g h.lt).trans h
theorem Cg.at {w : World} {g : Nat} {r : Rec} (h : Cg w g r) : GH w ⟨g,0,none⟩ r:=Blk.recAt (t:=43) h
theorem Cg.frz {w : World} {g : Nat} {r : Rec} (h : Cg w g r) (k : Nat) : w.frozen? ⟨g,k,none⟩ = false:=by unfold Cg at h;simp [World.frozen?,h]
theorem Cg.F5 {w : World} {g : Nat} {r : Rec} (h : Cg w g r) (k : Int) : Cg (w.setCell ⟨g,6,none⟩ (.int .i64 k)) g (Ey r k):=heap_setCell_same h _
def Y3 (w0 w : World) (g : Nat) (vd vm vl : Value) (E : Eng) (n : Int) (x : Ending) (w' : World) : Prop := ∃ vl',x = .returned (.int .i64 n) ∧ Ab w' g E vd vm vl' ∧ Aw w' w0.heap.size vd vm vl' E ∧ Below w0.heap.size w0 w' ∧ Kept w w' (fun k => k = g ∨ some k = vl.ownBlock)
set_option maxRecDepth 100000 in
set_option maxHeartbeats 8000000 in
theorem OH {w0 w : World} {g : Nat} {vd vm vl : Value} {e : Eng} (r : Rec) (hl : e.log.length ≤ 150) (hb : Below w0.heap.size w0 w) (hg : w0.heap.size ≤ g) (hq : Ab w g e vd vm vl) (hr : Aw w w0.heap.size vd vm vl e) : Calls Tryz.prog 90 #[ptr g,r.val] w (Y3 w0 w g vd vm vl { e with log:=e.log ++ [Ey r (Ae e.log r.tx e.log.length)] } ((e.log.length : Int) + 1)):=by
 obtain ⟨Ad,cd,Am,cm,Al,cl,rfl,rfl,rfl,hcl,hrd⟩:=hr.reads
 have HR:=As hrd
 have HO:=As hr
 have HB:=As hb
 have HQ:=As hq
 have HL:=As hl
 have HG:=As hg
 obtain ⟨w1,hw1⟩ : ∃ w1,w.alloc r.box = w1:=⟨_,rfl⟩
 have HW1:=As hw1
 have HB1 : A7 (Below w.heap.size w w1):=⟨by rw [← hw1];exact Aa (Below.refl _ _) _⟩
 have HRB : A7 (Cg w1 w.heap.size r):=⟨by rw [← hw1];exact Cg.mk1 _ _⟩
 have hgl : g < w.heap.size:=hq.lt
 have hne : w.heap.size ≠ g:=by omega
 obtain ⟨ln,hln⟩ : ∃ ln : Nat,Ae e.log r.tx e.log.length = ln:=⟨_,rfl⟩
 have HLN:=As hln
 rw [hln]
 clear hw1 hrd hr hb hq hl hg hln
 have hq1:=HQ.out.up HB1.out
 have x2:=hq1.c2
 have r1:=HRB.out.at.c1
 simp only [Nat.zero_add] at r1
 clear hq1
 go_enter Tryz.func90,Tryz.ntmps90
 go_wp2
 rw [HW1.out]
 refine Bo (fun lx a wx => Below w1.heap.size w1 wx) 8 rfl (by kernel_rfl) (Ac (Below.refl _ _)) (fun HT => ?_)
 refine Bw [0,1,2,3,4,5] ?_
 iterate 6 (refine Bq (v:=?_) HT rfl (by kernel_rfl) rfl (Ah) (by rfl) (fun _ _ _ h => h) (fun lx ax wx hS => ?_) ?_;rotate_left;(replace x2:=bc hS x2;replace r1:=bc hS r1;go_simp;with_reducible rfl);rotate_left;simp only [sc0,sc1])
 refine Bv ?_
 refine JH (i:=6) (f:=86) (v:=.int .i64 ln) (args:=#[.slice Al e.log.length cl, .int .i64 r.tx]) HT rfl (by kernel_rfl) rfl Tryz.func86 (by kernel_rfl) rfl rfl (Ah) (by rfl) (fun _ _ _ h => h) (by simp only [List.map_toArray,List.map_cons,List.map_nil];rfl) (fun lx ax wx hS => (HLN.out ▸ Jp r.tx (bj HB1.out hS) HR.out.l : Calls Tryz.prog 86 #[.slice Al e.log.length cl, .int .i64 r.tx] wx fun e w' => e = .returned (.int .i64 ln) ∧ Below wx.heap.size wx w').mono fun _ _ h => ⟨h.1,bj hS h.2⟩) ?_;simp only [sc0,sc1]
 refine CZ (i:=7) (v:=?_) HT rfl (by kernel_rfl) rfl (Ah) (by rfl) (fun _ _ _ h => h) (fun lx ax wx hS => ?_) ?_;rotate_left;(go_simp;with_reducible rfl);rotate_left;simp only [sc0,sc1]
 refine Cb (i:=8) (by kernel_rfl) rfl (fun wx hS => ?_)
 have hrb:=HRB.out.up hS
 have p6:=hrb.at.c6
 simp only [Nat.zero_add] at p6
 have f6:=hrb.frz 6
 refine BH (w1:=wx.setCell ⟨w.heap.size,6,none⟩ (.int .i64 ln)) rfl (by rfl) (by go_simp) ?_
 refine BM (by kernel_rfl) ?_
 obtain ⟨w2,hw2⟩ : ∃ w2,wx.setCell ⟨w.heap.size,6,none⟩ (.int .i64 ln) = w2:=⟨_,rfl⟩
 have hb2 : Below w.heap.size w w2:=by rw [← hw2];exact (bj HB1.out hS).setCell (p:=⟨w.heap.size,6,none⟩) (Nat.le_refl _) _
 have hrb2 : Cg w2 w.heap.size (Ey r ln):=by rw [← hw2];exact hrb.F5 ln
 rw [hw2]
 have HB2:=As hb2
 have HRB2:=As hrb2
 have HQ2:=As (HQ.out.up hb2)
 have HO2:=As (HO.out.below hb2)
 clear hS hrb p6 f6 hw2 hb2 hrb2 x2 r1
 go_wp2
 obtain ⟨l',hl'⟩ : ∃ l',e.log ++ [Ey r ln] = l':=⟨_,rfl⟩
 have HLL:=As hl'
 have hll : l'.length = e.log.length + 1:=by rw [← hl'];simp
 have HLE:=As hll
 have hB02 : Below w0.heap.size w0 w2:=bj HB.out HB2.out
 have HB02:=As hB02
 clear hl' hll hB02
 refine Bo (fun lx a wx => (Below w0.heap.size w0 wx ∧ Kept w2 wx (fun k => some k = (Value.slice Al e.log.length cl).ownBlock) ∧ Ab wx g e (.slice Ad e.disk.length cd) (.slice Am e.mem.length cm) (.slice Al e.log.length cl) ∧ Cg wx w.heap.size (Ey r ln)) ∧ (Pre 7 6 19 (fun wx => Below w2.heap.size w2 wx) (fun v wx => ∃ B,v = .slice (some ⟨B,0,none⟩) 1 1 ∧ Kd.C kRec wx (some ⟨B,0,none⟩) 1 [Ey r ln]) lx a wx ∧ Sl 7 20 (fun v wx => ∃ A1 c1,v = .slice A1 (e.log.length + 1) c1 ∧ Aw wx w0.heap.size (.slice Ad e.disk.length cd) (.slice Am e.mem.length cm) v { e with log:=l' }) lx a wx)) 8 rfl (by kernel_rfl) (⟨⟨Ac HB02.out,Kept.of_below (Ac (Below.refl _ _)) _,HQ2.out.up (Ac (Below.refl _ _)),HRB2.out.up (Ac (Below.refl _ _))⟩,FE (Ac (Below.refl _ _)),Bp⟩) (fun HT => ?_)
 refine Bw [0,1,2,3,4,5] ?_
 iterate 6 (refine Bq (v:=?_) HT rfl (by kernel_rfl) rfl (kA Ah (kA (Cf rfl rfl rfl) (Ak rfl rfl))) (by rfl) (fun _ _ _ h => h) (fun lx ax wx hS => ?_) ?_;rotate_left;(obtain ⟨⟨-, -,hq,hrb⟩, -⟩:=hS;have x2:=hq.c2;obtain ⟨z0,z1,z2,z3,z4,z5,z6,z7⟩:=hrb.at;simp only [Nat.zero_add] at z1 z2 z3 z4 z5 z6 z7;clear hq hrb;go_simp;with_reducible rfl);rotate_left;simp only [sc0,sc1])
 refine Bv ?_
 refine AJ [6] (by kernel_rfl) (fun i hi wx hS => ?_)
 obtain rfl:=List.mem_singleton.1 hi
 refine BG (w1:=wx.alloc (Ey r ln).box) (.slice (some ⟨wx.heap.size,0,none⟩) 1 1) rfl rfl (by rfl) (by go_simp) ?_
 have hbx : Below wx.heap.size wx (wx.alloc (Ey r ln).box):=Aa (Below.refl _ _) _
 refine ⟨⟨⟨bj hS.1.1 hbx,hS.1.2.1.Ce (Kept.of_below hbx (fun _ => False)) (fun k hk => hk.elim),hS.1.2.2.1.up hbx,hS.1.2.2.2.up hbx⟩,fun h => ⟨bj (hS.2.1 (by kernel_rfl)).1 hbx,fun _ => ⟨wx.heap.size,rfl,Rk (GV wx (Ey r ln))⟩⟩,fun h => (Ao h (by kernel_rfl)).elim⟩,?_⟩
 clear hS hbx
 simp only [sc0,sc1]
 refine AJ [7] (by kernel_rfl) (fun i hi w3 hS => ?_)
 obtain rfl:=List.mem_singleton.1 hi
 obtain ⟨⟨h1,h2,h3,h4⟩,hpre, -⟩:=hS
 obtain ⟨hb3,hq3⟩:=hpre (by kernel_rfl)
 obtain ⟨B,hB,hC⟩:=hq3 (by kernel_rfl)
 have hB : Value.slice (some ⟨wx.heap.size,0,none⟩) 1 1 = .slice (some ⟨B,0,none⟩) 1 1:=hB
 obtain rfl : wx.heap.size = B:=by simpa using hB
 have ho3:=HO2.out.below hb3
 refine wpOp_step rfl (Kd.Cy kRec (Rr:=kRec.K w3) w0.heap.size (by rfl) (.tmp 17) (.tmp 19) 24 43 _ 64 rfl E8 Gy rfl (by decide) (by decide) (.slice Al e.log.length cl) e.log [Ey r ln] (some ⟨wx.heap.size,0,none⟩) 1 1 (fun _ => True) (fun _ => False) rfl rfl ho3.l hC (fun _ _ hk => Jr hk) (fun _ hk => hk.elim) (fun _ _ => trivial) h1 h1.size (by have:=HL.out;omega) (fun v1 w4 hown hb4 hg4 _ => ?_))
 rw [HLL.out] at hown
 obtain ⟨A1,c1,rfl, -, -⟩:=Kd.D6 hown
 rw [HLE.out] at hown ⊢
 simp only [Ck,sc0,sc1]
 have hrb4 : Cg w4 w.heap.size (Ey r ln):=(hg4.block _ h4.lt (fun e => by have:=Kd.Uq HO.out.l w.heap.size e.symm;omega)).trans h4
 refine ⟨⟨⟨hb4,h2.Ce (RS hg4) (fun k hk => .inl hk),h3.grown ho3.l hg4,hrb4⟩,fun h => (Ao (by kernel_rfl) h).elim,fun _ => ⟨A1,c1,rfl,(show Aw w4 w0.heap.size (.slice Ad e.disk.length cd) (.slice Am e.mem.length cm) (.slice A1 (e.log.length + 1) c1) { e with log:=l' } from ho3.logged hg4 hown)⟩⟩,?_⟩
 clear h1 h2 h3 h4 hpre hb3 hq3 hB hC ho3 hown hb4 hg4 hrb4
 refine Cb (i:=8) (by kernel_rfl) rfl (fun w5 hS => ?_)
 obtain ⟨⟨h1,h2,h3,h4⟩, -,hpost⟩:=hS
 obtain ⟨A2,c2,hA,ho5⟩:=hpost (by kernel_rfl)
 have hA : Value.slice A1 (e.log.length + 1) c1 = .slice A2 (e.log.length + 1) c2:=hA
 obtain ⟨rfl,rfl⟩ : A1 = A2 ∧ c1 = c2:=by simpa using hA
 have x2:=h3.c2
 have f2:=h3.frz 2
 refine BG (w1:=w5) (ptr g) rfl rfl (by rfl) (by go_simp) ?_
 simp only [sc0,sc1]
 refine KF (i:=9) (by kernel_rfl) ?_
 refine BG (w1:=w5) (.pointer (some ⟨g,2,none⟩)) rfl rfl (by rfl) (by go_simp) ?_
 simp only [sc0,sc1]
 refine KF (i:=10) (by kernel_rfl) ?_
 refine BH (w1:=w5.setCell ⟨g,2,none⟩ (.slice A1 (e.log.length + 1) c1)) rfl (by rfl) (by go_simp) ?_
 refine BM (by kernel_rfl) ?_
 have hq6 : Ab (w5.setCell ⟨g,2,none⟩ (.slice A1 (e.log.length + 1) c1)) g { e with log:=l' } (.slice Ad e.disk.length cd) (.slice Am e.mem.length cm) (.slice A1 (e.log.length + 1) c1):=h3.set2 _
 have ho6 : Aw (w5.setCell ⟨g,2,none⟩ (.slice A1 (e.log.length + 1) c1)) w0.heap.size (.slice Ad e.disk.length cd) (.slice Am e.mem.length cm) (.slice A1 (e.log.length + 1) c1) { e with log:=l' }:=ho5.set h3.blk (by decide) (by decide) (by decide) 2 _
 have hb6 : Below w0.heap.size w0 (w5.setCell ⟨g,2,none⟩ (.slice A1 (e.log.length + 1) c1)):=h1.setCell (p:=⟨g,2,none⟩) HG.out _
 have hk6 : Kept w2 (w5.setCell ⟨g,2,none⟩ (.slice A1 (e.log.length + 1) c1)) (fun k => k = g ∨ some k = (Value.slice Al e.log.length cl).ownBlock):=(h2.mono (fun k hk => .inr hk)).Ce (Nz w5 g 2 _) (fun k hk => .inl (.inl hk))
 obtain ⟨w6,hw6⟩ : ∃ w6,w5.setCell ⟨g,2,none⟩ (.slice A1 (e.log.length + 1) c1) = w6:=⟨_,rfl⟩
 rw [hw6] at hq6 ho6 hb6 hk6 ⊢
 have HQ6:=As hq6
 have HO6:=As ho6
 have HB6:=As hb6
 have HK6:=As hk6
 clear h1 h2 h3 h4 hpost hA ho5 x2 f2 ho6 hb6 hk6 hw6
 have x2:=hq6.c2
 clear hq6
 go_wp2
 go_ret
 have hk0 : Kept w w2 (fun k => k = g ∨ some k = (Value.slice Al e.log.length cl).ownBlock):=Kept.of_below HB2.out _
 exact ⟨_,rfl,by rw [HLL.out];exact HQ6.out,by rw [HLL.out];exact HO6.out,HB6.out,hk0.Ce HK6.out (fun k hk => .inl hk)⟩
def WY (w : World) (p : Page) (x : Ending) (w' : World) : Prop := ∃ v,x = .returned (.tuple #[p.own v, .bool true]) ∧ AA w' w.heap.size v p.vals ∧ Below w.heap.size w w'
set_option maxRecDepth 100000 in
set_option maxHeartbeats 8000000 in
theorem Ra {w0 w : World} {A : Option Addr} {c : Nat} {p : Page} {r : Rec} {n : Int} (hv : IK p r n = true) (hb : Below w0.heap.size w0 w) (hr : Kd.C (Kd.int .i64) w0 A p.vals.length p.vals) : Calls Tryz.prog 120 #[p.val A c,r.val, .int .i64 n] w (WY w (doR p r n)):=by
 have HR:=As (BF hr hb)
 simp only [IK,Bool.and_eq_true,decide_eq_true_eq] at hv
 obtain ⟨v1,v2,v3,v4,v5,v6⟩:=hv
 have HV1:=As v1
 have HV2:=As v2
 have HV3:=As v3
 have HV6:=As v6
 have hp3:=(Be.1 v1).2.2.2.2.1
 have HP3L:=As hp3
 have hslot:=(Ic v2 v3)
 have HSL:=As (show r.slot < p.vals.length by rw [hp3];omega)
 clear hr hb v1 v2 v3 v6 hp3 hslot
 obtain ⟨W1,hW1⟩ : ∃ W1,w.alloc (p.box A c) = W1:=⟨_,rfl⟩
 obtain ⟨W2,hW2⟩ : ∃ W2,W1.alloc r.box = W2:=⟨_,rfl⟩
 obtain ⟨W3,hW3⟩ : ∃ W3,W2.alloc CX = W3:=⟨_,rfl⟩
 have Z1 : W1.heap.size = w.heap.size + 1:=by rw [← hW1,BD]
 have Z2 : W2.heap.size = w.heap.size + 2:=by rw [← hW2,BD,Z1]
 have Z3 : W3.heap.size = w.heap.size + 3:=by rw [← hW3,BD,Z2]
 have hR3 : GH W3 ⟨w.heap.size + 1,0,none⟩ r:=by
  have:=GV W1 r
  rw [Z1,hW2] at this
  rw [← hW3]
  exact this.up (Aa (Below.refl _ _) _)
 have hP3 : AU W3 (w.heap.size + 2) zp (.slice none 0 0):=by
  have:=AU.mk1 W2 zp (.slice none 0 0)
  rw [Z2] at this
  rw [← hW3]
  exact this
 have hA3 : AU W3 w.heap.size p (.slice A p.vals.length c):=by
  rw [← hW3, ← hW2, ← hW1]
  exact (AU.mk1 w p _).up (Aa (Aa (Below.refl _ _) _) _)
 have hB3 : Below w.heap.size w W3:=by
  rw [← hW3, ← hW2, ← hW1]
  exact Aa (Aa (Aa (Below.refl _ _) _) _) _
 have HW3 : A7 (((w.alloc (p.box A c)).alloc r.box).alloc CX = W3):=⟨by rw [hW1,hW2,hW3]⟩
 have HR3:=As hR3
 have HP3:=As hP3
 have HA3:=As hA3
 have HB3:=As hB3
 have HZ3:=As Z3
 clear hW1 hW2 hW3 Z1 Z2 Z3 hR3 hP3 hA3 hB3
 go_enter Tryz.func120,Tryz.ntmps120
 go_wp2_with (first | (go_at_call 72;rw [HW3.out];refine (Ec (c:=c) HV1.out HB3.out HR.out).mono ?_;rintro x w4 ⟨rfl,hb4⟩;have HB4:=As hb4;obtain ⟨-,z1,z2,z3,z4,z5,z6,z7⟩:=HR3.out.up hb4;have z0:=(HR3.out.up hb4).c0;simp only [Nat.zero_add] at z1 z2 z3 z4 z5 z6 z7;have a0:=(HA3.out.up hb4).c0;have a1:=(HA3.out.up hb4).c1;have a2:=(HA3.out.up hb4).c2;clear hb4) | (go_at_call 73;refine (EM HV2.out _).mono ?_;rintro x w5 ⟨rfl,hb5⟩;have HB5:=As (bj HB4.out hb5);replace z0:=bc hb5 z0;replace z1:=bc hb5 z1;replace z2:=bc hb5 z2;replace z3:=bc hb5 z3;replace z4:=bc hb5 z4;replace z5:=bc hb5 z5;replace z6:=bc hb5 z6;replace z7:=bc hb5 z7;replace a0:=bc hb5 a0;replace a1:=bc hb5 a1;replace a2:=bc hb5 a2;clear hb5) | (go_at_call 76;refine (Fz HV3.out _).mono ?_;rintro x w6 ⟨rfl,hb6⟩;have HB6:=As (bj HB5.out hb6);replace z0:=bc hb6 z0;replace z1:=bc hb6 z1;replace z2:=bc hb6 z2;replace z3:=bc hb6 z3;replace z4:=bc hb6 z4;replace z5:=bc hb6 z5;replace z6:=bc hb6 z6;replace z7:=bc hb6 z7;replace a0:=bc hb6 a0;replace a1:=bc hb6 a1;replace a2:=bc hb6 a2;clear hb6) | (go_at_call 77;refine (KA (w0:=w) r (by rw [HP3L.out];decide) HSL.out (bj HB3.out HB6.out) HR.out).mono ?_;rintro x w7 ⟨v,rfl,ho,hb7⟩;obtain ⟨A1,c1,rfl, -,hC⟩:=ho.reads;have HC7:=As hC;have HO:=As ho;have HB7:=As (bj HB6.out hb7);have HN7:=As hb7.size;clear ho hb7 hC) | (go_at_call 72;obtain ⟨w8,hw8⟩ : ∃ w8,w7.alloc (.cells #[.int .i64 n, .int .i64 (AV p r).owner, .slice A1 (AV p r).vals.length c1] 47) = w8:=⟨_,rfl⟩;have hx8 : Below w7.heap.size w7 w8:=(by rw [← hw8];exact Aa (Below.refl _ _) _);have hq8 : AU w8 w7.heap.size (doR p r n) (.slice A1 (AV p r).vals.length c1):=(by rw [← hw8];exact AU.mk1 w7 (doR p r n) _);rw [hw8];refine (Ec (p:=doR p r n) (A:=A1) (c:=c1) HV6.out (Below.refl w8.heap.size w8) (BF HC7.out hx8)).mono ?_;rintro x w9 ⟨rfl,hb9⟩;have q0:=(hq8.up hb9).c0;have q1:=(hq8.up hb9).c1;have q2:=(hq8.up hb9).c2;have HB9:=As (bj (bj HB7.out hx8) hb9);have HO9:=As (HO.out.below (bj hx8 hb9));have HP9:=As (HP3.out.up HB9.out);have y0:=HP9.out.c0;have y1:=HP9.out.c1;have y2:=HP9.out.c2;have f0:=HP9.out.frz 0;have f1:=HP9.out.frz 1;have f2:=HP9.out.frz 2;clear hw8 hx8 hq8 hb9))
 have hs6 : w.heap.size + 3 ≤ w6.heap.size:=by have:=HB6.out.size;have:=HZ3.out;omega
 have h1:=HO9.out.CK (g:=w.heap.size + 2) (by omega) (doR p r n) (.slice A1 (AV p r).vals.length c1)
 have h2:=CR (g:=w.heap.size + 2) (bj HB3.out HB9.out) (by omega) (doR p r n) (.slice A1 (AV p r).vals.length c1)
 have hy:=HP9.out.CK (doR p r n) (.slice A1 (AV p r).vals.length c1)
 have z0:=hy.c0
 have z1:=hy.c1
 have z2:=hy.c2
 exact bodyPost_ret (v:=.tuple #[(doR p r n).own (.slice A1 (AV p r).vals.length c1), .bool true]) (by simp [results,Tryz.results120,go_sem,z0,z1,z2]) rfl ⟨_,rfl,h1.lower (by omega),h2⟩
theorem MN {l : List Rec} (hl : Au l = true) (n : Nat) : ∀ k,k < (l.take n).length → Cv (rc (l.take n) k) = true:=fun k hk => (Ag (Fv hl n) hk).ok
set_option maxRecDepth 100000 in
set_option maxHeartbeats 4000000 in
theorem IZ {w0 w : World} {e : Eng} {Ad Am Al : Option Addr} {cd cm cl : Nat} {b : Bool} (hv : Fs e (e.log.length + 1 - e.safe.toNat) e.safe.toNat = b) (hs0 : 0 ≤ e.safe) (hs1 : e.safe ≤ e.log.length) (hg : geo e.disk) (hl : Au e.log = true) (hcl : e.log.length ≤ cl) (hb : Below w0.heap.size w0 w) (hr : Ff w0 e Ad Am Al) : Calls Tryz.prog 42 #[e.val Ad Am Al cd cm cl] w fun x w' => x = .returned (.bool b) ∧ Below w.heap.size w w':=by
 have HR:=As (hr.up hb)
 have HG:=As hg
 have HL:=As hl
 have HV:=As hv
 have hm:=BA hl
 obtain ⟨s,hs⟩ : ∃ s : Nat,e.safe = s:=⟨e.safe.toNat,by omega⟩
 have HS:=As hs
 have hs2 : s ≤ e.log.length:=by omega
 clear hr hb hg hl hv hs0 hs1 hs
 obtain ⟨w1,hw1⟩ : ∃ w1,w.alloc (e.obox (.slice Ad e.disk.length cd) (.slice Am e.mem.length cm) (.slice Al e.log.length cl)) = w1:=⟨_,rfl⟩
 have HW1:=As hw1
 have HB1 : A7 (Below w.heap.size w w1):=⟨by rw [← hw1];exact Aa (Below.refl _ _) _⟩
 have HQ1 : A7 (Ab w1 w.heap.size e (.slice Ad e.disk.length cd) (.slice Am e.mem.length cm) (.slice Al e.log.length cl)):=⟨by rw [← hw1];exact Ab.mk1 _ _ _ _ _⟩
 clear hw1
 go_enter Tryz.func42,Tryz.ntmps42
 go_wp2
 rw [HW1.out]
 go_loopw [3] (fun i wr => ∃ n : Nat,s ≤ n ∧ n ≤ e.log.length + 1 ∧ i = .int .i64 (n : Int) ∧ A7 (Fs e (e.log.length + 1 - n) n = b) ∧ A7 (Below w1.heap.size w1 wr)) (fun i _ => (e.log.length + 1 - intOf i).toNat)
 case atStart => exact ⟨s,Nat.le_refl _,by omega,by rw [HS.out],⟨by have:=HV.out;rw [HS.out] at this;exact this⟩,⟨Below.refl _ _⟩⟩
 case round =>
  obtain ⟨n,hn1,hn2,rfl,HK,HW⟩:=hrel
  have HWW:=As (bj HB1.out HW.out)
  have HQ:=As (HQ1.out.up HW.out)
  have x0:=HQ.out.c0
  have x2:=HQ.out.c2
  by_cases hlt : n ≤ e.log.length
  ·have hl : (e.log.take n).length = n:=by rw [List.length_take];omega
   obtain ⟨ps,hps⟩ : ∃ ps,BI e.disk (e.log.take n) (e.log.take n).length = ps:=⟨_,rfl⟩
   obtain ⟨ok,hok⟩ : ∃ ok,Et ps = ok:=⟨_,rfl⟩
   have hgeo : geo ps:=by rw [← hps];exact I9 HG.out (MN HL.out n) _ (Nat.le_refl _)
   have HGP:=As hgeo
   have HPS:=As (And.intro hps hok)
   have hcall : ∀ wx,Below wr.heap.size wr wx → Calls Tryz.prog 43 #[.slice Ad e.disk.length cd, .slice Al n cl] wx (WZ wx ps ok):=fun wx hb => by
    have h:=KG (c:=cd) (d:=cl) HG.out (MN HL.out n) (by omega) hb (BF HR.out.d HWW.out) (KD (BF HR.out.l HWW.out) hlt)
    rw [hps,hok,hl] at h
    exact h
   have HLn:=As hl
   clear hps hok hl hgeo
   have hncl : n ≤ cl:=Nat.le_trans hlt hcl
   go_wp2
   refine Bo (fun lx a wx => Below wr.heap.size wr wx ∧ Sl 6 22 (fun v wx => ∃ u,v = .tuple #[u, .bool ok] ∧ F3 wx wr.heap.size u ps) lx a wx) 12 rfl (by kernel_rfl) (⟨Ac (Below.refl _ _),Bp⟩) (fun HT => ?_)
   refine Bw [0,1,2,3,4,5] ?_
   iterate 6 (refine Bq (v:=?_) HT rfl (by kernel_rfl) rfl (kA Ah (Ak rfl rfl)) (by rfl) (fun _ _ _ h => h) (fun lx ax wx hS => ?_) ?_;rotate_left;(have hbx:=hS.1;clear hS;replace x0:=bc hbx x0;replace x2:=bc hbx x2;go_simp;with_reducible rfl);rotate_left;simp only [sc0,sc1])
   refine Bv ?_
   refine Cr (i:=6) (f:=43) (args:=#[.slice Ad e.disk.length cd, .slice Al n cl]) (fun v => ∃ u,v = .tuple #[u, .bool ok]) rfl (by kernel_rfl) rfl Tryz.func43 (by kernel_rfl) rfl rfl (by rfl) (by simp only [List.map_toArray,List.map_cons,List.map_nil];rfl) (fun wx hS => (hcall wx hS.1).mono (by rintro e w6 ⟨u,rfl,ho,hb⟩;exact ⟨_,rfl,⟨u,rfl⟩,bj hS.1 hb,fun _ => ⟨u,rfl,Kd.Eb ho hS.1.size⟩⟩)) (fun vx hg => ?_);simp only [sc0,sc1]
   obtain ⟨u,rfl⟩:=hg
   refine Bw [7,8,9,10,11] ?_
   iterate 5 (refine Bq (v:=?_) HT rfl (by kernel_rfl) rfl (kA Ah (Ak rfl rfl)) (by rfl) (fun _ _ _ h => h) (fun lx ax wx hS => ?_) ?_;rotate_left;(go_simp;with_reducible rfl);rotate_left;simp only [sc0,sc1])
   refine Bv ?_
   refine GU (by kernel_rfl) (fun wx hS => ?_)
   obtain ⟨h1,h2⟩:=hS
   obtain ⟨u1,hu1,hown⟩:=h2 (by kernel_rfl)
   have hu1 : Value.tuple #[u, .bool ok] = .tuple #[u1, .bool ok]:=hu1
   obtain rfl : u = u1:=by simpa using hu1
   obtain ⟨g,cap,rfl,hgb,hgl⟩:=D9 hown (by rw [HGP.out.1];omega)
   have HO:=As (Kd.S_R hown)
   have HX:=As h1
   rw [HGP.out.1] at HO ⊢
   replace x0:=bc h1 x0
   replace x2:=bc h1 x2
   clear h1 h2 hu1 hown hcall hgb hgl
   have HP:=As (show Fs e (e.log.length + 1 - n) n = (Ez e n && Fs e (e.log.length + 1 - (n + 1)) (n + 1)) by rw [show e.log.length + 1 - n = (e.log.length + 1 - (n + 1)) + 1 by omega,Fs])
   cases ok
   ·go_wp2
    go_ret
    exact ⟨Af (by rw [← HK.out,HP.out,Ez,HPS.out.1,HPS.out.2];rfl),bj HWW.out HX.out⟩
   ·obtain ⟨ub,hub⟩ : ∃ ub,DR (e.log.take n) ps = ub:=⟨_,rfl⟩
    have hcall2 : Calls Tryz.prog 75 #[.slice (some ⟨g,0,none⟩) 5 cap, .slice Al n cl] wx fun x w' => x = .returned (.bool ub) ∧ Below wr.heap.size wr w':=by
     have h:=OQ (d:=cl) hub HGP.out (Fv HL.out n) HO.out HX.out (KD (BF HR.out.l HWW.out) hlt)
     rw [HLn.out] at h
     exact h
    have HUB:=As hub
    clear hub
    cases ub
    ·go_wp2_with (go_at_call 75;refine hcall2.mono ?_;rintro x w7 ⟨rfl,hb7⟩;have HB7:=As hb7;clear hb7)
     go_ret
     exact ⟨Af (by rw [← HK.out,HP.out,Ez,HPS.out.1,HPS.out.2,HUB.out];rfl),bj HWW.out HB7.out⟩
    ·go_wp2_with (go_at_call 75;refine hcall2.mono ?_;rintro x w7 ⟨rfl,hb7⟩;have HB7:=As hb7;clear hb7)
     go_roundw
     case rel => exact ⟨n + 1,by omega,by omega,by go_num,⟨by rw [← HK.out,HP.out,Ez,HPS.out.1,HPS.out.2,HUB.out];rfl⟩,⟨bj HW.out HB7.out⟩⟩
     case measure => simp [intOf];omega
  ·go_wp2
   go_ret
   exact ⟨Af (by rw [← HK.out,show e.log.length + 1 - n = 0 by omega];rfl),HWW.out⟩
def Qq (e : Eng) (p : Nat) (q : Page) : Bool:=
 if FR e.log p 3 = true then (pg e.mem p).owner == q.owner && (pg e.mem p).lsn == AO e.log p e.log.length && (decide ((pg e.disk p).lsn < (pg e.mem p).lsn) || D8 (pg e.mem p) (pg e.disk p))
 else D8 (pg e.mem p) q
theorem Sy (w : World) : AU (w.alloc CX) w.heap.size zp (.slice none 0 0):=AU.mk1 w zp (.slice none 0 0)
set_option maxRecDepth 100000 in
set_option maxHeartbeats 8000000 in
theorem Qr {w0 w : World} {e : Eng} {Ad Am Al Ar : Option Addr} {cd cm cl cr : Nat} {p : Nat} {q : Page} {b : Bool} (hv : Qq e p q = b) (hp : p < 5) (hd : e.disk.length = 5) (hm : e.mem.length = 5) (hl : Au e.log = true) (hb : Below w0.heap.size w0 w) (hr : Ff w0 e Ad Am Al) (hq : Kd.C (Kd.int .i64) w0 Ar q.vals.length q.vals) : Calls Tryz.prog 46 #[e.val Ad Am Al cd cm cl, .int .i64 p,q.val Ar cr] w fun x w' => x = .returned (.bool b) ∧ Below w.heap.size w w':=by
 have HR:=As (hr.up hb)
 have HRq:=As (BF hq hb)
 have HL:=As hl
 have HV:=As hv
 clear hr hb hq hl hv
 obtain ⟨adm,Am2,cm2,rfl,QM, -,hmC⟩:=DT HR.out.m p (by omega)
 obtain ⟨add,Ad2,cd2,rfl,QD, -,hdC⟩:=DT HR.out.d p (by omega)
 have HQM:=As QM
 have HQD:=As QD
 have HMC:=As hmC
 have HDC:=As hdC
 obtain ⟨M,hM⟩ : ∃ M,pg e.mem p = M:=⟨_,rfl⟩
 obtain ⟨Dp,hD⟩ : ∃ Dp,pg e.disk p = Dp:=⟨_,rfl⟩
 rw [hM] at HQM HMC
 rw [hD] at HQD HDC
 have HMD:=As (And.intro hM hD)
 clear QM QD hmC hdC hM hD
 obtain ⟨w1,hw1⟩ : ∃ w1,w.alloc (e.obox (.slice (some add) e.disk.length cd) (.slice (some adm) e.mem.length cm) (.slice Al e.log.length cl)) = w1:=⟨_,rfl⟩
 obtain ⟨w2,hw2⟩ : ∃ w2,w1.alloc (q.box Ar cr) = w2:=⟨_,rfl⟩
 have hz1 : w1.heap.size = w.heap.size + 1:=by rw [← hw1];exact BD _ _
 have hz2 : w2.heap.size = w.heap.size + 2:=by rw [← hw2,BD,hz1]
 have hb1 : Below w.heap.size w w1:=by rw [← hw1];exact Aa (Below.refl _ _) _
 have hb12 : Below w1.heap.size w1 w2:=by rw [← hw2];exact Aa (Below.refl _ _) _
 have HB2:=As (bj hb1 hb12)
 have HQ2 : A7 (Ab w2 w.heap.size e (.slice (some add) e.disk.length cd) (.slice (some adm) e.mem.length cm) (.slice Al e.log.length cl)):=⟨Ab.up (by rw [← hw1];exact Ab.mk1 _ _ _ _ _) hb12⟩
 have HP2 : A7 (AU w2 (w.heap.size + 1) q (.slice Ar q.vals.length cr)):=⟨by rw [← hw2, ← hz1];exact AU.mk1 _ _ _⟩
 have HW2 : A7 ((w.alloc (e.obox (.slice (some add) e.disk.length cd) (.slice (some adm) e.mem.length cm) (.slice Al e.log.length cl))).alloc (q.box Ar cr) = w2):=⟨by rw [hw1,hw2]⟩
 have HZ2:=As hz2
 clear hw1 hw2 hz1 hz2 hb1 hb12
 have hpm : p < e.mem.length:=by omega
 have hpd : p < e.disk.length:=by omega
 clear hd hm
 go_enter Tryz.func46,Tryz.ntmps46
 go_wp2
 rw [HW2.out]
 have hQM:=HQM.out.up HB2.out
 have hQD:=HQD.out.up HB2.out
 obtain ⟨m0,m1,m2⟩:=hQM
 obtain ⟨d0,d1,d2⟩:=hQD
 have x0:=HQ2.out.c0
 have x1:=HQ2.out.c1
 refine Bo (fun lx a wx => Below w2.heap.size w2 wx ∧ (Sl 10 7 (fun v wx => ∃ B,v = ptr B ∧ w2.heap.size ≤ B ∧ ∃ p u,AU wx B p u) lx a wx ∧ (Sl 11 8 (fun v wx => ∃ B,v = ptr B ∧ w2.heap.size ≤ B ∧ ∃ p u,AU wx B p u) lx a wx ∧ Sl 12 7 (fun v wx => ∃ B,v = ptr B ∧ AU wx B M (.slice Am2 M.vals.length cm2)) lx a wx))) 13 rfl (by kernel_rfl) (⟨Ac (Below.refl _ _),Bp,Bp,Bp⟩) (fun HT => ?_)
 refine Bw [0,1,2,3,4,5,6,7,8,9] ?_
 iterate 10 (refine Bq (v:=?_) HT rfl (by kernel_rfl) rfl (kA Ah (kA (Ak rfl rfl) (kA (Ak rfl rfl) (Ak rfl rfl)))) (by rfl) (fun _ _ _ h => h) (fun lx ax wx hS => ?_) ?_;rotate_left;(have hbx:=hS.1;clear hS;replace x0:=bc hbx x0;replace x1:=bc hbx x1;replace m0:=bc hbx m0;replace m1:=bc hbx m1;replace m2:=bc hbx m2;replace d0:=bc hbx d0;replace d1:=bc hbx d1;replace d2:=bc hbx d2;go_simp;with_reducible rfl);rotate_left;simp only [sc0,sc1])
 refine Bv ?_
 refine Q8 (ob1:=CX) (ob2:=CX) 10 11 rfl rfl (by kernel_rfl) rfl rfl rfl (fun _ => rfl) (fun _ => rfl) (fun a wx => by go_simp) (fun a wx => by go_simp) (fun wx hS => ?_) (fun wx hS => ?_) (fun B wx hS => ?_) (fun B wx hS => ?_) (fun B wx hS => ?_) (fun B wx hS => ?_) (fun B1 B2 hne => ?_)
 ·exact ⟨Aa hS.1 _,fun _ => ⟨_,rfl,hS.1.size,_,_,Sy wx⟩,fun h => (Ao h (by kernel_rfl)).elim,fun h => (Ao h (by kernel_rfl)).elim⟩
 ·exact ⟨Aa hS.1 _,fun h => (Ao h (by kernel_rfl)).elim,fun _ => ⟨_,rfl,hS.1.size,_,_,Sy wx⟩,fun h => (Ao h (by kernel_rfl)).elim⟩
 ·obtain ⟨B',h1,_,p',u',h2⟩:=hS.2.1 (by kernel_rfl)
  obtain rfl : B = B':=by simpa [ptr] using h1
  exact (Array.getElem?_eq_some_iff.1 h2).1
 ·obtain ⟨B',h1,_,p',u',h2⟩:=hS.2.2.1 (by kernel_rfl)
  obtain rfl : B = B':=by simpa [ptr] using h1
  exact (Array.getElem?_eq_some_iff.1 h2).1
 ·obtain ⟨B',h1,h3,p',u',h2⟩:=hS.2.1 (by kernel_rfl)
  exact ⟨Aa hS.1 _,fun _ => ⟨B',h1,h3,p',u',h2.up (Aa (Below.refl _ _) _)⟩,fun _ => ⟨_,rfl,hS.1.size,_,_,Sy wx⟩,fun h => (Ao h (by kernel_rfl)).elim⟩
 ·obtain ⟨B',h1,h3,p',u',h2⟩:=hS.2.2.1 (by kernel_rfl)
  exact ⟨Aa hS.1 _,fun _ => ⟨_,rfl,hS.1.size,_,_,Sy wx⟩,fun _ => ⟨B',h1,h3,p',u',h2.up (Aa (Below.refl _ _) _)⟩,fun h => (Ao h (by kernel_rfl)).elim⟩
 simp only [sc0,sc1]
 refine AJ [12] (by kernel_rfl) (fun i hi w4 hS => ?_)
 obtain rfl:=List.mem_singleton.1 hi
 obtain ⟨h1,h2,h3, -⟩:=hS
 obtain ⟨B,hB,hle1,p1,u1,hbox1⟩:=h2 (by kernel_rfl)
 obtain rfl : B1 = B:=by
  have hB : ptr B1 = ptr B:=hB
  simpa [ptr] using hB
 obtain ⟨B,hB',hle2,p2,u2,hbox2⟩:=h3 (by kernel_rfl)
 obtain rfl : B2 = B:=by
  have hB : ptr B2 = ptr B:=hB'
  simpa [ptr] using hB
 have b0:=hbox1.c0
 have b1:=hbox1.c1
 have b2:=hbox1.c2
 have f0:=hbox1.frz 0
 have f1:=hbox1.frz 1
 have f2:=hbox1.frz 2
 refine BH (w1:=CK w4 B1 M (.slice Am2 M.vals.length cm2)) rfl (by rfl) (by go_simp) ?_
 have hfar2 : AU (CK w4 B1 M (.slice Am2 M.vals.length cm2)) B2 p2 u2:=((hbox2.far hne _ _).far hne _ _).far hne _ _
 refine ⟨⟨CR h1 hle1 M _,fun _ => ⟨B1,rfl,hle1,M,_,hbox1.CK M _⟩,fun _ => ⟨B2,rfl,hle2,p2,u2,hfar2⟩,fun _ => ⟨B1,rfl,hbox1.CK M _⟩⟩,?_⟩
 clear h1 h2 h3 hB hB' hbox1 hbox2 b0 b1 b2 f0 f1 f2 hfar2 p1 u1 p2 u2
 refine Cb (i:=13) (by kernel_rfl) rfl (fun w5 hS => ?_)
 obtain ⟨h1,h2,h3,h4⟩:=hS
 obtain ⟨B,hB,hbox1⟩:=h4 (by kernel_rfl)
 obtain rfl : B1 = B:=by
  have hB : ptr B1 = ptr B:=hB
  simpa [ptr] using hB
 obtain ⟨B,hB', -,p2,u2,hbox2⟩:=h3 (by kernel_rfl)
 obtain rfl : B2 = B:=by
  have hB : ptr B2 = ptr B:=hB'
  simpa [ptr] using hB
 have b0:=hbox2.c0
 have b1:=hbox2.c1
 have b2:=hbox2.c2
 have f0:=hbox2.frz 0
 have f1:=hbox2.frz 1
 have f2:=hbox2.frz 2
 refine BH (w1:=CK w5 B2 Dp (.slice Ad2 Dp.vals.length cd2)) rfl (by rfl) (by go_simp) ?_
 have hne' : B2 ≠ B1:=Ne.symm hne
 have hbM : AU (CK w5 B2 Dp (.slice Ad2 Dp.vals.length cd2)) B1 M (.slice Am2 M.vals.length cm2):=((hbox1.far hne' _ _).far hne' _ _).far hne' _ _
 have hbD:=hbox2.CK Dp (.slice Ad2 Dp.vals.length cd2)
 have hbW:=CR h1 hle2 Dp (.slice Ad2 Dp.vals.length cd2)
 refine BM (by kernel_rfl) ?_
 obtain ⟨W8,hW8⟩ : ∃ W8,CK w5 B2 Dp (.slice Ad2 Dp.vals.length cd2) = W8:=⟨_,rfl⟩
 rw [hW8] at hbM hbD hbW ⊢
 have HBM:=As hbM
 have HBD:=As hbD
 have HBW:=As hbW
 clear h1 h2 h3 h4 hB hB' hbox1 hbox2 b0 b1 b2 f0 f1 f2 p2 u2 hW8 hbM hbD hbW m0 m1 m2 d0 d1 d2 x0 x1 hle1 hle2 hi
 have HW8:=As (bj HB2.out HBW.out)
 have HQ8:=As (HQ2.out.up HBW.out)
 have HP8:=As (HP2.out.up HBW.out)
 have x2:=HQ8.out.c2
 obtain ⟨ldb,hld⟩ : ∃ ldb,FR e.log p 3 = ldb:=⟨_,rfl⟩
 have HLD:=As hld
 obtain ⟨sR,hsR⟩ : ∃ sR,D8 M q = sR:=⟨_,rfl⟩
 have HSR:=As hsR
 obtain ⟨sD,hsD⟩ : ∃ sD,D8 M Dp = sD:=⟨_,rfl⟩
 have HSD:=As hsD
 clear hld hsR hsD
 cases ldb
 ·have y0:=HP8.out.c0
  have y1:=HP8.out.c1
  have y2:=HP8.out.c2
  have z0:=HBM.out.c0
  have z1:=HBM.out.c1
  have z2:=HBM.out.c2
  go_wp2_with (first | (go_at_call 82;refine (FQ p HLD.out HW8.out HR.out.l HL.out).mono ?_;rintro x w9 ⟨rfl,hb9⟩;have HW9:=As (bj HW8.out hb9);have HB9:=As hb9;replace y0:=bc hb9 y0;replace y1:=bc hb9 y1;replace y2:=bc hb9 y2;replace z0:=bc hb9 z0;replace z1:=bc hb9 z1;replace z2:=bc hb9 z2;clear hb9) | (go_at_call 45;refine (Fp (c:=cm2) (d:=cr) HSR.out HW9.out HMC.out HRq.out).mono ?_;rintro x w10 ⟨rfl,hb10⟩;have HW10:=As (bj HW9.out hb10);clear hb10))
  go_ret
  exact ⟨Af (by rw [← HV.out,Qq,HLD.out,HMD.out.1,HSR.out];rfl),HW10.out⟩
 ·rcases BS M.owner q.owner with ⟨e1,b1,c1⟩ | ⟨e1,b1,c1⟩
  ·rcases BS M.lsn (AO e.log p e.log.length) with ⟨e2,b2,c2⟩ | ⟨e2,b2,c2⟩
   ·rcases lts Dp.lsn M.lsn with ⟨e3,k1,k2⟩ | ⟨e3,k1,k2⟩
    ·go_wp2_with (go_at_call 82;refine (FQ p HLD.out HW8.out HR.out.l HL.out).mono ?_;rintro x w9 ⟨rfl,hb9⟩;have HW9:=As (bj HW8.out hb9);have HB9:=As hb9;have y0:=bc hb9 HP8.out.c0;have y1:=bc hb9 HP8.out.c1;have y2:=bc hb9 HP8.out.c2;have z0:=bc hb9 HBM.out.c0;have z1:=bc hb9 HBM.out.c1;have z2:=bc hb9 HBM.out.c2;have v0:=bc hb9 HBD.out.c0;have v1:=bc hb9 HBD.out.c1;have v2:=bc hb9 HBD.out.c2;replace x2:=bc hb9 x2;clear hb9)
     refine Aq (fun w' => Below w9.heap.size w9 w') rfl rfl (by kernel_rfl) (Ac (Below.refl _ _)) (fun HT => ?_)
     repeat (first
      | (refine AQ (fun wx hS => ?_))
      | ((with_reducible refine Ay (f:=83) rfl ?_);refine Az (v:=.int .i64 (AO e.log p e.log.length)) (args:=#[.slice Al e.log.length cl, .int .i64 p]) HT rfl Tryz.func83 (by kernel_rfl) rfl rfl (by rfl) (fun _ _ _ h => h) (by simp only [List.map_toArray,List.map_cons,List.map_nil];rfl) (fun wx hS => (GZ p (bj HW9.out hS) HR.out.l).mono fun _ _ h => ⟨h.1,bj hS h.2⟩) ?_;simp only [sc0,sc1])
      | ((with_reducible refine Ay (f:=45) rfl ?_);refine Az (v:=.bool sD) (args:=#[M.val Am2 cm2,Dp.val Ad2 cd2]) HT rfl Tryz.func45 (by kernel_rfl) rfl rfl (by rfl) (fun _ _ _ h => h) (by simp only [List.map_toArray,List.map_cons,List.map_nil];rfl) (fun wx hS => (Fp (c:=cm2) (d:=cd2) HSD.out (bj HW9.out hS) HMC.out HDC.out).mono fun _ _ h => ⟨h.1,bj hS h.2⟩) ?_;simp only [sc0,sc1])
      | (refine AB HT rfl (by rfl) (fun _ _ _ h => h) ?_;simp only [sc0,sc1])
      | (refine AP (v:=?_) HT rfl (by rfl) (fun _ _ _ h => h) (fun wx hS => ?_) ?_;rotate_left;(replace y0:=bc hS y0;replace y1:=bc hS y1;replace y2:=bc hS y2;replace z0:=bc hS z0;replace z1:=bc hS z1;replace z2:=bc hS z2;replace v0:=bc hS v0;replace v1:=bc hS v1;replace v2:=bc hS v2;replace x2:=bc hS x2;go_simp;with_reducible rfl);rotate_left;simp only [sc0,sc1]))
     go_wp2
     go_ret
     exact ⟨Af (by rw [← HV.out,Qq,HLD.out,HMD.out.1,HMD.out.2,HSD.out];simp [b1,b2,k1]),bj HW9.out hS⟩
    ·go_wp2_with (go_at_call 82;refine (FQ p HLD.out HW8.out HR.out.l HL.out).mono ?_;rintro x w9 ⟨rfl,hb9⟩;have HW9:=As (bj HW8.out hb9);have HB9:=As hb9;have y0:=bc hb9 HP8.out.c0;have y1:=bc hb9 HP8.out.c1;have y2:=bc hb9 HP8.out.c2;have z0:=bc hb9 HBM.out.c0;have z1:=bc hb9 HBM.out.c1;have z2:=bc hb9 HBM.out.c2;have v0:=bc hb9 HBD.out.c0;have v1:=bc hb9 HBD.out.c1;have v2:=bc hb9 HBD.out.c2;replace x2:=bc hb9 x2;clear hb9)
     refine Aq (fun w' => Below w9.heap.size w9 w') rfl rfl (by kernel_rfl) (Ac (Below.refl _ _)) (fun HT => ?_)
     repeat (first
      | (refine AQ (fun wx hS => ?_))
      | ((with_reducible refine Ay (f:=83) rfl ?_);refine Az (v:=.int .i64 (AO e.log p e.log.length)) (args:=#[.slice Al e.log.length cl, .int .i64 p]) HT rfl Tryz.func83 (by kernel_rfl) rfl rfl (by rfl) (fun _ _ _ h => h) (by simp only [List.map_toArray,List.map_cons,List.map_nil];rfl) (fun wx hS => (GZ p (bj HW9.out hS) HR.out.l).mono fun _ _ h => ⟨h.1,bj hS h.2⟩) ?_;simp only [sc0,sc1])
      | ((with_reducible refine Ay (f:=45) rfl ?_);refine Az (v:=.bool sD) (args:=#[M.val Am2 cm2,Dp.val Ad2 cd2]) HT rfl Tryz.func45 (by kernel_rfl) rfl rfl (by rfl) (fun _ _ _ h => h) (by simp only [List.map_toArray,List.map_cons,List.map_nil];rfl) (fun wx hS => (Fp (c:=cm2) (d:=cd2) HSD.out (bj HW9.out hS) HMC.out HDC.out).mono fun _ _ h => ⟨h.1,bj hS h.2⟩) ?_;simp only [sc0,sc1])
      | (refine AB HT rfl (by rfl) (fun _ _ _ h => h) ?_;simp only [sc0,sc1])
      | (refine AP (v:=?_) HT rfl (by rfl) (fun _ _ _ h => h) (fun wx hS => ?_) ?_;rotate_left;(replace y0:=bc hS y0;replace y1:=bc hS y1;replace y2:=bc hS y2;replace z0:=bc hS z0;replace z1:=bc hS z1;replace z2:=bc hS z2;replace v0:=bc hS v0;replace v1:=bc hS v1;replace v2:=bc hS v2;replace x2:=bc hS x2;go_simp;with_reducible rfl);rotate_left;simp only [sc0,sc1]))
     go_wp2
     go_ret
     exact ⟨Af (by rw [← HV.out,Qq,HLD.out,HMD.out.1,HMD.out.2,HSD.out];simp [b1,b2,k1]),bj HW9.out hS⟩
   ·go_wp2_with (go_at_call 82;refine (FQ p HLD.out HW8.out HR.out.l HL.out).mono ?_;rintro x w9 ⟨rfl,hb9⟩;have HW9:=As (bj HW8.out hb9);have HB9:=As hb9;have y0:=bc hb9 HP8.out.c0;have y1:=bc hb9 HP8.out.c1;have y2:=bc hb9 HP8.out.c2;have z0:=bc hb9 HBM.out.c0;have z1:=bc hb9 HBM.out.c1;have z2:=bc hb9 HBM.out.c2;have v0:=bc hb9 HBD.out.c0;have v1:=bc hb9 HBD.out.c1;have v2:=bc hb9 HBD.out.c2;replace x2:=bc hb9 x2;clear hb9)
    refine Aq (fun w' => Below w9.heap.size w9 w') rfl rfl (by kernel_rfl) (Ac (Below.refl _ _)) (fun HT => ?_)
    repeat (first
     | (refine AQ (fun wx hS => ?_))
     | ((with_reducible refine Ay (f:=83) rfl ?_);refine Az (v:=.int .i64 (AO e.log p e.log.length)) (args:=#[.slice Al e.log.length cl, .int .i64 p]) HT rfl Tryz.func83 (by kernel_rfl) rfl rfl (by rfl) (fun _ _ _ h => h) (by simp only [List.map_toArray,List.map_cons,List.map_nil];rfl) (fun wx hS => (GZ p (bj HW9.out hS) HR.out.l).mono fun _ _ h => ⟨h.1,bj hS h.2⟩) ?_;simp only [sc0,sc1])
     | ((with_reducible refine Ay (f:=45) rfl ?_);refine Az (v:=.bool sD) (args:=#[M.val Am2 cm2,Dp.val Ad2 cd2]) HT rfl Tryz.func45 (by kernel_rfl) rfl rfl (by rfl) (fun _ _ _ h => h) (by simp only [List.map_toArray,List.map_cons,List.map_nil];rfl) (fun wx hS => (Fp (c:=cm2) (d:=cd2) HSD.out (bj HW9.out hS) HMC.out HDC.out).mono fun _ _ h => ⟨h.1,bj hS h.2⟩) ?_;simp only [sc0,sc1])
     | (refine AB HT rfl (by rfl) (fun _ _ _ h => h) ?_;simp only [sc0,sc1])
     | (refine AP (v:=?_) HT rfl (by rfl) (fun _ _ _ h => h) (fun wx hS => ?_) ?_;rotate_left;(replace y0:=bc hS y0;replace y1:=bc hS y1;replace y2:=bc hS y2;replace z0:=bc hS z0;replace z1:=bc hS z1;replace z2:=bc hS z2;replace v0:=bc hS v0;replace v1:=bc hS v1;replace v2:=bc hS v2;replace x2:=bc hS x2;go_simp;with_reducible rfl);rotate_left;simp only [sc0,sc1]))
    go_wp2
    go_ret
    exact ⟨Af (by rw [← HV.out,Qq,HLD.out,HMD.out.1,HMD.out.2,HSD.out];simp [b1,b2]),bj HW9.out hS⟩
  ·go_wp2_with (go_at_call 82;refine (FQ p HLD.out HW8.out HR.out.l HL.out).mono ?_;rintro x w9 ⟨rfl,hb9⟩;have HW9:=As (bj HW8.out hb9);have HB9:=As hb9;have y0:=bc hb9 HP8.out.c0;have y1:=bc hb9 HP8.out.c1;have y2:=bc hb9 HP8.out.c2;have z0:=bc hb9 HBM.out.c0;have z1:=bc hb9 HBM.out.c1;have z2:=bc hb9 HBM.out.c2;have v0:=bc hb9 HBD.out.c0;have v1:=bc hb9 HBD.out.c1;have v2:=bc hb9 HBD.out.c2;replace x2:=bc hb9 x2;clear hb9)
   refine Aq (fun w' => Below w9.heap.size w9 w') rfl rfl (by kernel_rfl) (Ac (Below.refl _ _)) (fun HT => ?_)
   repeat (first
    | (refine AQ (fun wx hS => ?_))
    | ((with_reducible refine Ay (f:=83) rfl ?_);refine Az (v:=.int .i64 (AO e.log p e.log.length)) (args:=#[.slice Al e.log.length cl, .int .i64 p]) HT rfl Tryz.func83 (by kernel_rfl) rfl rfl (by rfl) (fun _ _ _ h => h) (by simp only [List.map_toArray,List.map_cons,List.map_nil];rfl) (fun wx hS => (GZ p (bj HW9.out hS) HR.out.l).mono fun _ _ h => ⟨h.1,bj hS h.2⟩) ?_;simp only [sc0,sc1])
    | ((with_reducible refine Ay (f:=45) rfl ?_);refine Az (v:=.bool sD) (args:=#[M.val Am2 cm2,Dp.val Ad2 cd2]) HT rfl Tryz.func45 (by kernel_rfl) rfl rfl (by rfl) (fun _ _ _ h => h) (by simp only [List.map_toArray,List.map_cons,List.map_nil];rfl) (fun wx hS => (Fp (c:=cm2) (d:=cd2) HSD.out (bj HW9.out hS) HMC.out HDC.out).mono fun _ _ h => ⟨h.1,bj hS h.2⟩) ?_;simp only [sc0,sc1])
    | (refine AB HT rfl (by rfl) (fun _ _ _ h => h) ?_;simp only [sc0,sc1])
    | (refine AP (v:=?_) HT rfl (by rfl) (fun _ _ _ h => h) (fun wx hS => ?_) ?_;rotate_left;(replace y0:=bc hS y0;replace y1:=bc hS y1;replace y2:=bc hS y2;replace z0:=bc hS z0;replace z1:=bc hS z1;replace z2:=bc hS z2;replace v0:=bc hS v0;replace v1:=bc hS v1;replace v2:=bc hS v2;replace x2:=bc hS x2;go_simp;with_reducible rfl);rotate_left;simp only [sc0,sc1]))
   go_wp2
   go_ret
   exact ⟨Af (by rw [← HV.out,Qq,HLD.out,HMD.out.1,HMD.out.2,HSD.out];simp [b1]),bj HW9.out hS⟩
def MI (e : Eng) : Nat → Nat → Bool
 | 0,_ => true
 | j + 1,p => E5 e p && MI e j (p + 1)
theorem Qe (e : Eng) : ((List.range 5).all fun p => E5 e p) = MI e 5 0:=rfl
theorem XH (e : Eng) (p : Nat) : Kn e p = Qq e p (pg (BI e.disk e.log e.log.length) p):=rfl
set_option maxRecDepth 100000 in
set_option maxHeartbeats 16000000 in
theorem BU {w0 w : World} {e : Eng} {Ad Am Al : Option Addr} {cd cm cl : Nat} {b : Bool} (hv : eOk e = b) (hcl : e.log.length ≤ cl) (hb : Below w0.heap.size w0 w) (hr : Ff w0 e Ad Am Al) : Calls Tryz.prog 16 #[e.val Ad Am Al cd cm cl] w fun x w' => x = .returned (.bool b) ∧ Below w.heap.size w w':=by
 have HR:=As (hr.up hb)
 have HV:=As hv
 have hlm:=(CY HR.out.l).2
 clear hr hb hv
 obtain ⟨w1,hw1⟩ : ∃ w1,w.alloc (e.obox (.slice Ad e.disk.length cd) (.slice Am e.mem.length cm) (.slice Al e.log.length cl)) = w1:=⟨_,rfl⟩
 have HW1:=As hw1
 have HB1 : A7 (Below w.heap.size w w1):=⟨by rw [← hw1];exact Aa (Below.refl _ _) _⟩
 have HQ1 : A7 (Ab w1 w.heap.size e (.slice Ad e.disk.length cd) (.slice Am e.mem.length cm) (.slice Al e.log.length cl)):=⟨by rw [← hw1];exact Ab.mk1 _ _ _ _ _⟩
 clear hw1
 have HX:=As (Below.refl w1.heap.size w1)
 have x0:=HQ1.out.c0
 have x1:=HQ1.out.c1
 have x2:=HQ1.out.c2
 have x3:=HQ1.out.c3
 have x4:=HQ1.out.c4
 cases hvd : Et e.disk
 ·have HVd:=As hvd
  clear hvd
  go_enter Tryz.func16,Tryz.ntmps16
  go_wp2_with (first | (go_at_call 38;rw [HW1.out];refine (BV (c:=cd) HVd.out (bj HB1.out HX.out) HR.out.d).mono ?_;rintro x w9 ⟨rfl,hb9⟩;have HX:=As (bj HX.out hb9);replace x0:=bc hb9 x0;replace x1:=bc hb9 x1;replace x2:=bc hb9 x2;replace x3:=bc hb9 x3;replace x4:=bc hb9 x4;clear hb9))
  go_ret
  exact ⟨Af (by rw [← HV.out,eOk,HVd.out];simp),bj HB1.out HX.out⟩
 ·have HVd:=As hvd
  clear hvd
  cases hvm : Et e.mem
  ·have HVm:=As hvm
   clear hvm
   go_enter Tryz.func16,Tryz.ntmps16
   go_wp2_with (first | (go_at_call 38;rw [HW1.out];refine (BV (c:=cd) HVd.out (bj HB1.out HX.out) HR.out.d).mono ?_;rintro x w9 ⟨rfl,hb9⟩;have HX:=As (bj HX.out hb9);replace x0:=bc hb9 x0;replace x1:=bc hb9 x1;replace x2:=bc hb9 x2;replace x3:=bc hb9 x3;replace x4:=bc hb9 x4;clear hb9) | (go_at_call 38;refine (BV (c:=cm) HVm.out (bj HB1.out HX.out) HR.out.m).mono ?_;rintro x w9 ⟨rfl,hb9⟩;have HX:=As (bj HX.out hb9);replace x0:=bc hb9 x0;replace x1:=bc hb9 x1;replace x2:=bc hb9 x2;replace x3:=bc hb9 x3;replace x4:=bc hb9 x4;clear hb9))
   go_ret
   exact ⟨Af (by rw [← HV.out,eOk,HVd.out,HVm.out];simp),bj HB1.out HX.out⟩
  ·have HVm:=As hvm
   clear hvm
   cases hvl : Au e.log
   ·have HVl:=As hvl
    clear hvl
    go_enter Tryz.func16,Tryz.ntmps16
    go_wp2_with (first | (go_at_call 38;rw [HW1.out];refine (BV (c:=cd) HVd.out (bj HB1.out HX.out) HR.out.d).mono ?_;rintro x w9 ⟨rfl,hb9⟩;have HX:=As (bj HX.out hb9);replace x0:=bc hb9 x0;replace x1:=bc hb9 x1;replace x2:=bc hb9 x2;replace x3:=bc hb9 x3;replace x4:=bc hb9 x4;clear hb9) | (go_at_call 38;refine (BV (c:=cm) HVm.out (bj HB1.out HX.out) HR.out.m).mono ?_;rintro x w9 ⟨rfl,hb9⟩;have HX:=As (bj HX.out hb9);replace x0:=bc hb9 x0;replace x1:=bc hb9 x1;replace x2:=bc hb9 x2;replace x3:=bc hb9 x3;replace x4:=bc hb9 x4;clear hb9) | (go_at_call 39;refine (FL (c:=cl) HVl.out (bj HB1.out HX.out) HR.out.l).mono ?_;rintro x w9 ⟨rfl,hb9⟩;have HX:=As (bj HX.out hb9);replace x0:=bc hb9 x0;replace x1:=bc hb9 x1;replace x2:=bc hb9 x2;replace x3:=bc hb9 x3;replace x4:=bc hb9 x4;clear hb9))
    go_ret
    exact ⟨Af (by rw [← HV.out,eOk,HVd.out,HVm.out,HVl.out];simp),bj HB1.out HX.out⟩
   ·have HVl:=As hvl
    clear hvl
    have hm150:=BA HVl.out
    cases hvs : inB e.safe 0 e.log.length
    ·have HVs:=As hvs
     clear hvs
     go_enter Tryz.func16,Tryz.ntmps16
     go_wp2_with (first | (go_at_call 38;rw [HW1.out];refine (BV (c:=cd) HVd.out (bj HB1.out HX.out) HR.out.d).mono ?_;rintro x w9 ⟨rfl,hb9⟩;have HX:=As (bj HX.out hb9);replace x0:=bc hb9 x0;replace x1:=bc hb9 x1;replace x2:=bc hb9 x2;replace x3:=bc hb9 x3;replace x4:=bc hb9 x4;clear hb9) | (go_at_call 38;refine (BV (c:=cm) HVm.out (bj HB1.out HX.out) HR.out.m).mono ?_;rintro x w9 ⟨rfl,hb9⟩;have HX:=As (bj HX.out hb9);replace x0:=bc hb9 x0;replace x1:=bc hb9 x1;replace x2:=bc hb9 x2;replace x3:=bc hb9 x3;replace x4:=bc hb9 x4;clear hb9) | (go_at_call 39;refine (FL (c:=cl) HVl.out (bj HB1.out HX.out) HR.out.l).mono ?_;rintro x w9 ⟨rfl,hb9⟩;have HX:=As (bj HX.out hb9);replace x0:=bc hb9 x0;replace x1:=bc hb9 x1;replace x2:=bc hb9 x2;replace x3:=bc hb9 x3;replace x4:=bc hb9 x4;clear hb9) | (go_at_call 40;refine (SX HVs.out _).mono ?_;rintro x w9 ⟨rfl,rfl⟩))
     go_ret
     exact ⟨Af (by rw [← HV.out,eOk,HVd.out,HVm.out,HVl.out,HVs.out];simp),bj HB1.out HX.out⟩
    ·have HVs:=As hvs
     clear hvs
     have HS01:=As (CU.1 HVs.out)
     cases hvf : G6 e.log
     ·have HVf:=As hvf
      clear hvf
      go_enter Tryz.func16,Tryz.ntmps16
      go_wp2_with (first | (go_at_call 38;rw [HW1.out];refine (BV (c:=cd) HVd.out (bj HB1.out HX.out) HR.out.d).mono ?_;rintro x w9 ⟨rfl,hb9⟩;have HX:=As (bj HX.out hb9);replace x0:=bc hb9 x0;replace x1:=bc hb9 x1;replace x2:=bc hb9 x2;replace x3:=bc hb9 x3;replace x4:=bc hb9 x4;clear hb9) | (go_at_call 38;refine (BV (c:=cm) HVm.out (bj HB1.out HX.out) HR.out.m).mono ?_;rintro x w9 ⟨rfl,hb9⟩;have HX:=As (bj HX.out hb9);replace x0:=bc hb9 x0;replace x1:=bc hb9 x1;replace x2:=bc hb9 x2;replace x3:=bc hb9 x3;replace x4:=bc hb9 x4;clear hb9) | (go_at_call 39;refine (FL (c:=cl) HVl.out (bj HB1.out HX.out) HR.out.l).mono ?_;rintro x w9 ⟨rfl,hb9⟩;have HX:=As (bj HX.out hb9);replace x0:=bc hb9 x0;replace x1:=bc hb9 x1;replace x2:=bc hb9 x2;replace x3:=bc hb9 x3;replace x4:=bc hb9 x4;clear hb9) | (go_at_call 40;refine (SX HVs.out _).mono ?_;rintro x w9 ⟨rfl,rfl⟩) | (go_at_call 41;refine (KP (c:=cl) (bj HB1.out HX.out) HR.out.l HVl.out).mono ?_;rintro x w9 ⟨rfl,hb9⟩;rw [HVf.out];have HX:=As (bj HX.out hb9);replace x0:=bc hb9 x0;replace x1:=bc hb9 x1;replace x2:=bc hb9 x2;replace x3:=bc hb9 x3;replace x4:=bc hb9 x4;clear hb9))
      go_ret
      exact ⟨Af (by rw [← HV.out,eOk,HVd.out,HVm.out,HVl.out,HVs.out,HVf.out];simp),bj HB1.out HX.out⟩
     ·have HVf:=As hvf
      clear hvf
      cases hvp : Fs e (e.log.length + 1 - e.safe.toNat) e.safe.toNat
      ·have HVp:=As hvp
       clear hvp
       go_enter Tryz.func16,Tryz.ntmps16
       go_wp2_with (first | (go_at_call 38;rw [HW1.out];refine (BV (c:=cd) HVd.out (bj HB1.out HX.out) HR.out.d).mono ?_;rintro x w9 ⟨rfl,hb9⟩;have HX:=As (bj HX.out hb9);replace x0:=bc hb9 x0;replace x1:=bc hb9 x1;replace x2:=bc hb9 x2;replace x3:=bc hb9 x3;replace x4:=bc hb9 x4;clear hb9) | (go_at_call 38;refine (BV (c:=cm) HVm.out (bj HB1.out HX.out) HR.out.m).mono ?_;rintro x w9 ⟨rfl,hb9⟩;have HX:=As (bj HX.out hb9);replace x0:=bc hb9 x0;replace x1:=bc hb9 x1;replace x2:=bc hb9 x2;replace x3:=bc hb9 x3;replace x4:=bc hb9 x4;clear hb9) | (go_at_call 39;refine (FL (c:=cl) HVl.out (bj HB1.out HX.out) HR.out.l).mono ?_;rintro x w9 ⟨rfl,hb9⟩;have HX:=As (bj HX.out hb9);replace x0:=bc hb9 x0;replace x1:=bc hb9 x1;replace x2:=bc hb9 x2;replace x3:=bc hb9 x3;replace x4:=bc hb9 x4;clear hb9) | (go_at_call 40;refine (SX HVs.out _).mono ?_;rintro x w9 ⟨rfl,rfl⟩) | (go_at_call 41;refine (KP (c:=cl) (bj HB1.out HX.out) HR.out.l HVl.out).mono ?_;rintro x w9 ⟨rfl,hb9⟩;rw [HVf.out];have HX:=As (bj HX.out hb9);replace x0:=bc hb9 x0;replace x1:=bc hb9 x1;replace x2:=bc hb9 x2;replace x3:=bc hb9 x3;replace x4:=bc hb9 x4;clear hb9) | (go_at_call 42;refine (IZ (cd:=cd) (cm:=cm) (cl:=cl) HVp.out HS01.out.1 HS01.out.2 (AZ HVd.out) HVl.out hcl (bj HB1.out HX.out) HR.out).mono ?_;rintro x w9 ⟨rfl,hb9⟩;have HX:=As (bj HX.out hb9);replace x0:=bc hb9 x0;replace x1:=bc hb9 x1;replace x2:=bc hb9 x2;replace x3:=bc hb9 x3;replace x4:=bc hb9 x4;clear hb9))
       go_ret
       exact ⟨Af (by rw [← HV.out,eOk,HVd.out,HVm.out,HVl.out,HVs.out,HVf.out,HVp.out];simp),bj HB1.out HX.out⟩
      ·have HVp:=As hvp
       clear hvp
       have HGR:=As (I9 (AZ HVd.out) (fun k hk => (Ag HVl.out hk).ok) e.log.length (Nat.le_refl _))
       have HP5:=As (show MI e 5 0 = b by rw [← HV.out,eOk,HVd.out,HVm.out,HVl.out,HVs.out,HVf.out,HVp.out, ← Qe];simp)
       go_enter Tryz.func16,Tryz.ntmps16
       go_wp2_with (first | (go_at_call 38;rw [HW1.out];refine (BV (c:=cd) HVd.out (bj HB1.out HX.out) HR.out.d).mono ?_;rintro x w9 ⟨rfl,hb9⟩;have HX:=As (bj HX.out hb9);replace x0:=bc hb9 x0;replace x1:=bc hb9 x1;replace x2:=bc hb9 x2;replace x3:=bc hb9 x3;replace x4:=bc hb9 x4;clear hb9) | (go_at_call 38;refine (BV (c:=cm) HVm.out (bj HB1.out HX.out) HR.out.m).mono ?_;rintro x w9 ⟨rfl,hb9⟩;have HX:=As (bj HX.out hb9);replace x0:=bc hb9 x0;replace x1:=bc hb9 x1;replace x2:=bc hb9 x2;replace x3:=bc hb9 x3;replace x4:=bc hb9 x4;clear hb9) | (go_at_call 39;refine (FL (c:=cl) HVl.out (bj HB1.out HX.out) HR.out.l).mono ?_;rintro x w9 ⟨rfl,hb9⟩;have HX:=As (bj HX.out hb9);replace x0:=bc hb9 x0;replace x1:=bc hb9 x1;replace x2:=bc hb9 x2;replace x3:=bc hb9 x3;replace x4:=bc hb9 x4;clear hb9) | (go_at_call 40;refine (SX HVs.out _).mono ?_;rintro x w9 ⟨rfl,rfl⟩) | (go_at_call 41;refine (KP (c:=cl) (bj HB1.out HX.out) HR.out.l HVl.out).mono ?_;rintro x w9 ⟨rfl,hb9⟩;rw [HVf.out];have HX:=As (bj HX.out hb9);replace x0:=bc hb9 x0;replace x1:=bc hb9 x1;replace x2:=bc hb9 x2;replace x3:=bc hb9 x3;replace x4:=bc hb9 x4;clear hb9) | (go_at_call 42;refine (IZ (cd:=cd) (cm:=cm) (cl:=cl) HVp.out HS01.out.1 HS01.out.2 (AZ HVd.out) HVl.out hcl (bj HB1.out HX.out) HR.out).mono ?_;rintro x w9 ⟨rfl,hb9⟩;have HX:=As (bj HX.out hb9);replace x0:=bc hb9 x0;replace x1:=bc hb9 x1;replace x2:=bc hb9 x2;replace x3:=bc hb9 x3;replace x4:=bc hb9 x4;clear hb9) | (go_at_call 43;refine (KG (c:=cd) (d:=cl) (AZ HVd.out) (fun k hk => (Ag HVl.out hk).ok) hm150 (bj HB1.out HX.out) HR.out.d HR.out.l).mono ?_;rintro x w9 ⟨u,rfl,hO,hb9⟩;obtain ⟨g,cap,rfl,hgb,hgl⟩:=D9 hO (by rw [HGR.out.1];omega);rw [HGR.out.1] at hO ⊢;have HO:=As hO;have HGB:=As (And.intro hgb hgl);clear hO hgb hgl;have HX:=As (bj HX.out hb9);replace x0:=bc hb9 x0;replace x1:=bc hb9 x1;replace x2:=bc hb9 x2;replace x3:=bc hb9 x3;replace x4:=bc hb9 x4;clear hb9))
       have HL5:=As (And.intro (Bb.1 HVd.out).1 (Bb.1 HVm.out).1)
       obtain ⟨R,hRR⟩ : ∃ R,BI e.disk e.log e.log.length = R:=⟨_,rfl⟩
       rw [hRR] at HO HGR
       have HRR:=As hRR
       clear hRR
       go_loopw [52] (fun i wr => ∃ k : Nat,k ≤ 5 ∧ i = .int .i64 (k : Int) ∧ A7 (MI e (5 - k) k = b) ∧ A7 (Below w9.heap.size w9 wr)) (fun i _ => (5 - intOf i).toNat)
       case atStart => exact ⟨0,by omega,rfl,HP5,⟨Below.refl _ _⟩⟩
       case round =>
        obtain ⟨k,hk,rfl,HK,HW⟩:=hrel
        have HW2:=As (bj HX.out HW.out)
        have HWW:=As (bj HB1.out HW2.out)
        have y0:=bc HW.out x0
        have y1:=bc HW.out x1
        have y2:=bc HW.out x2
        have y3:=bc HW.out x3
        have y4:=bc HW.out x4
        clear x0 x1 x2 x3 x4
        by_cases hlt : k < 5
        ·have hpd : k < e.disk.length:=by have:=HL5.out;omega
         have hpm : k < e.mem.length:=by have:=HL5.out;omega
         obtain ⟨adm,Am2,cm2,rfl,QM, -,hmC⟩:=DT HR.out.m k hpm
         obtain ⟨add,Ad2,cd2,rfl,QD, -,hdC⟩:=DT HR.out.d k hpd
         obtain ⟨M,hM⟩ : ∃ M,pg e.mem k = M:=⟨_,rfl⟩
         obtain ⟨Dp,hD⟩ : ∃ Dp,pg e.disk k = Dp:=⟨_,rfl⟩
         obtain ⟨lr,hlk⟩ : ∃ lr,F7 e.log (k : Int) (BX e.log 3) 0 true = lr:=⟨_,rfl⟩
         obtain ⟨m0,m1,m2⟩:=QM.up HWW.out
         obtain ⟨d0,d1,d2⟩:=QD.up HWW.out
         rw [hM] at m0 m1 m2 hmC
         rw [hD] at d0 d1 d2 hdC
         have HLK:=As hlk
         have HMD:=As (And.intro hM hD)
         have HMC:=As hmC
         have HDC:=As hdC
         have HPG:=As (show MI e (5 - k) k = (E5 e k && MI e (5 - (k + 1)) (k + 1)) by rw [show 5 - k = (5 - (k + 1)) + 1 by omega,MI])
         obtain ⟨by_,lok⟩:=lr
         obtain ⟨dn,hdn⟩ : ∃ dn,e.down = dn:=⟨_,rfl⟩
         rw [hdn] at y4
         have HDN:=As hdn
         clear hM hD hlk hmC hdC QM QD hdn
         cases lok
         ·go_wp2_with (go_at_call 44;refine (Iy (c:=cl) (k : Int) HWW.out HR.out.l HVl.out).mono ?_;rintro x w10 ⟨rfl,hb10⟩;rw [HLK.out];have HX10:=As (bj HW.out hb10);clear hb10)
          refine Aq (fun w' => Below w10.heap.size w10 w') rfl rfl (by kernel_rfl) (Ac (Below.refl _ _)) (fun HT => ?_)
          repeat (first
           | (refine AQ (fun wx hS => ?_))
           | (refine AB HT rfl (by rfl) (fun _ _ _ h => h) ?_;simp only [sc0,sc1])
           | (refine AP (v:=?_) HT rfl (by rfl) (fun _ _ _ h => h) (fun wx hS => ?_) ?_;rotate_left;(skip;go_simp;with_reducible rfl);rotate_left;simp only [sc0,sc1]))
          go_wp2
          go_ret
          exact ⟨Af (by rw [← HK.out,HPG.out,E5,HLK.out];simp),bj HB1.out (bj HX.out (bj HX10.out hS))⟩
         ·rcases lts e.safe Dp.lsn with ⟨e3,k1,k2⟩ | ⟨e3,k1,k2⟩
          ·go_wp2_with (go_at_call 44;refine (Iy (c:=cl) (k : Int) HWW.out HR.out.l HVl.out).mono ?_;rintro x w10 ⟨rfl,hb10⟩;rw [HLK.out];have HX10:=As (bj HW.out hb10);replace y0:=bc hb10 y0;replace y1:=bc hb10 y1;replace y2:=bc hb10 y2;replace y3:=bc hb10 y3;replace y4:=bc hb10 y4;replace m0:=bc hb10 m0;replace m1:=bc hb10 m1;replace m2:=bc hb10 m2;replace d0:=bc hb10 d0;replace d1:=bc hb10 d1;replace d2:=bc hb10 d2;clear hb10)
           refine Aq (fun w' => Below w10.heap.size w10 w') rfl rfl (by kernel_rfl) (Ac (Below.refl _ _)) (fun HT => ?_)
           repeat (first
            | (refine AQ (fun wx hS => ?_))
            | (refine AB HT rfl (by rfl) (fun _ _ _ h => h) ?_;simp only [sc0,sc1])
            | (refine AP (v:=?_) HT rfl (by rfl) (fun _ _ _ h => h) (fun wx hS => ?_) ?_;rotate_left;(replace y0:=bc hS y0;replace y3:=bc hS y3;replace d0:=bc hS d0;go_simp;with_reducible rfl);rotate_left;simp only [sc0,sc1]))
           go_wp2
           go_ret
           exact ⟨Af (by rw [← HK.out,HPG.out,E5,HLK.out,HMD.out.2,k2];simp),bj HB1.out (bj HX.out (bj HX10.out hS))⟩
          ·obtain ⟨q,hq⟩ : ∃ q,pg R k = q:=⟨_,rfl⟩
           obtain ⟨pb,hpb⟩ : ∃ pb,(if e.down = true then D8 M Dp else Qq e k q) = pb:=⟨_,rfl⟩
           have HPB:=As hpb
           have HPK:=As (show E5 e k = pb by rw [E5,HLK.out,XH,HRR.out,hq,HMD.out.1,HMD.out.2,k2,hpb];rfl)
           have HQQ:=As hq
           clear hpb hq
           cases dn
           ·go_wp2_with (go_at_call 44;refine (Iy (c:=cl) (k : Int) HWW.out HR.out.l HVl.out).mono ?_;rintro x w10 ⟨rfl,hb10⟩;rw [HLK.out];have HX10:=As (bj HW.out hb10);replace y0:=bc hb10 y0;replace y1:=bc hb10 y1;replace y2:=bc hb10 y2;replace y3:=bc hb10 y3;replace y4:=bc hb10 y4;replace m0:=bc hb10 m0;replace m1:=bc hb10 m1;replace m2:=bc hb10 m2;replace d0:=bc hb10 d0;replace d1:=bc hb10 d1;replace d2:=bc hb10 d2;clear hb10)
            refine Aq (fun w' => Below w10.heap.size w10 w') rfl rfl (by kernel_rfl) (Ac (Below.refl _ _)) (fun HT => ?_)
            repeat (first
             | (refine AQ (fun wx hS => ?_))
             | (refine AB HT rfl (by rfl) (fun _ _ _ h => h) ?_;simp only [sc0,sc1])
             | (refine AP (v:=?_) HT rfl (by rfl) (fun _ _ _ h => h) (fun wx hS => ?_) ?_;rotate_left;(replace y0:=bc hS y0;replace y3:=bc hS y3;replace d0:=bc hS d0;go_simp;with_reducible rfl);rotate_left;simp only [sc0,sc1]))
            rename_i w11
            have HX11:=As (bj HX10.out hS)
            have HW11:=As (bj HB1.out (bj HX.out HX11.out))
            replace y0:=bc hS y0;replace y1:=bc hS y1;replace y2:=bc hS y2;replace y3:=bc hS y3;replace y4:=bc hS y4
            obtain ⟨A3,c3,q0,q1,q2,qC, -⟩:=F4 (Kd.Bg HO.out HX11.out) k hlt
            rw [HQQ.out] at q0 q1 q2 qC
            have HQC:=As qC
            have hcall : ∀ w',Below wx.heap.size wx w' → Calls Tryz.prog 46 #[.agg #[.slice (some add) e.disk.length cd, .slice (some adm) e.mem.length cm, .slice Al e.log.length cl, .int .i64 e.safe, .bool false], .int .i64 k,q.val A3 c3] w' fun x w2 => x = .returned (.bool pb) ∧ Below w'.heap.size w' w2:=fun w' hb => by
             have h:=Qr (w0:=wx) (cd:=cd) (cm:=cm) (cl:=cl) (cr:=c3) (e:=e) (b:=pb) (by rw [← HPB.out,if_neg (by rw [HDN.out];simp)]) hlt HL5.out.1 HL5.out.2 HVl.out hb (HR.out.up HW11.out) HQC.out
             unfold Eng.val Eng.ag at h
             rw [HDN.out] at h
             exact h
            clear hS qC
            go_wp2
            refine Aq (fun w' => Below wx.heap.size wx w') rfl rfl (by kernel_rfl) (Ac (Below.refl _ _)) (fun HT => ?_)
            repeat (first
             | (refine AQ (fun wx hS => ?_))
             | ((with_reducible refine Ay (f:=46) rfl ?_);refine Az (v:=.bool pb) (args:=#[.agg #[.slice (some add) e.disk.length cd, .slice (some adm) e.mem.length cm, .slice Al e.log.length cl, .int .i64 e.safe, .bool false], .int .i64 k,q.val A3 c3]) HT rfl Tryz.func46 (by kernel_rfl) rfl rfl (by rfl) (fun _ _ _ h => h) (by simp only [List.map_toArray,List.map_cons,List.map_nil];rfl) (fun wx hS => (hcall wx hS).mono fun _ _ h => ⟨h.1,bj hS h.2⟩) ?_;simp only [sc0,sc1])
             | (refine AB HT rfl (by rfl) (fun _ _ _ h => h) ?_;simp only [sc0,sc1])
             | (refine AP (v:=?_) HT rfl (by rfl) (fun _ _ _ h => h) (fun wx hS => ?_) ?_;rotate_left;(replace y0:=bc hS y0;replace y1:=bc hS y1;replace y2:=bc hS y2;replace y3:=bc hS y3;replace y4:=bc hS y4;replace q0:=bc hS q0;replace q1:=bc hS q1;replace q2:=bc hS q2;go_simp;with_reducible rfl);rotate_left;simp only [sc0,sc1]))
            cases pb
            ·go_wp2
             go_ret
             exact ⟨Af (by rw [← HK.out,HPG.out,HPK.out];rfl),bj HW11.out hS⟩
            ·go_wp2
             go_roundw
             case rel => exact ⟨k + 1,by omega,by go_num,⟨by rw [← HK.out,HPG.out,HPK.out];rfl⟩,⟨bj HX11.out hS⟩⟩
             case measure => simp [intOf];omega
           ·go_wp2_with (go_at_call 44;refine (Iy (c:=cl) (k : Int) HWW.out HR.out.l HVl.out).mono ?_;rintro x w10 ⟨rfl,hb10⟩;rw [HLK.out];have HX10:=As (bj HW.out hb10);replace y0:=bc hb10 y0;replace y1:=bc hb10 y1;replace y2:=bc hb10 y2;replace y3:=bc hb10 y3;replace y4:=bc hb10 y4;replace m0:=bc hb10 m0;replace m1:=bc hb10 m1;replace m2:=bc hb10 m2;replace d0:=bc hb10 d0;replace d1:=bc hb10 d1;replace d2:=bc hb10 d2;clear hb10)
            refine Aq (fun w' => Below w10.heap.size w10 w') rfl rfl (by kernel_rfl) (Ac (Below.refl _ _)) (fun HT => ?_)
            repeat (first
             | (refine AQ (fun wx hS => ?_))
             | (refine AB HT rfl (by rfl) (fun _ _ _ h => h) ?_;simp only [sc0,sc1])
             | (refine AP (v:=?_) HT rfl (by rfl) (fun _ _ _ h => h) (fun wx hS => ?_) ?_;rotate_left;(replace y0:=bc hS y0;replace y3:=bc hS y3;replace d0:=bc hS d0;go_simp;with_reducible rfl);rotate_left;simp only [sc0,sc1]))
            have HX11:=As (bj HX10.out hS)
            have HW11:=As (bj HB1.out (bj HX.out HX11.out))
            replace y0:=bc hS y0;replace y1:=bc hS y1;replace y4:=bc hS y4;replace m0:=bc hS m0;replace m1:=bc hS m1;replace m2:=bc hS m2;replace d0:=bc hS d0;replace d1:=bc hS d1;replace d2:=bc hS d2
            clear hS
            cases pb
            ·go_wp2
             refine Aq (fun w' => Below wx.heap.size wx w') rfl rfl (by kernel_rfl) (Ac (Below.refl _ _)) (fun HT => ?_)
             repeat (first
              | (refine AQ (fun wx hS => ?_))
              | ((with_reducible refine Ay (f:=45) rfl ?_);refine Az (v:=.bool false) (args:=#[M.val Am2 cm2,Dp.val Ad2 cd2]) HT rfl Tryz.func45 (by kernel_rfl) rfl rfl (by rfl) (fun _ _ _ h => h) (by simp only [List.map_toArray,List.map_cons,List.map_nil];rfl) (fun wx hS => (Fp (c:=cm2) (d:=cd2) (by have:=HPB.out;rw [if_pos HDN.out] at this;exact this) (bj HW11.out hS) HMC.out HDC.out).mono fun _ _ h => ⟨h.1,bj hS h.2⟩) ?_;simp only [sc0,sc1])
              | (refine AB HT rfl (by rfl) (fun _ _ _ h => h) ?_;simp only [sc0,sc1])
              | (refine AP (v:=?_) HT rfl (by rfl) (fun _ _ _ h => h) (fun wx hS => ?_) ?_;rotate_left;(replace y0:=bc hS y0;replace y1:=bc hS y1;replace y4:=bc hS y4;replace m0:=bc hS m0;replace m1:=bc hS m1;replace m2:=bc hS m2;replace d0:=bc hS d0;replace d1:=bc hS d1;replace d2:=bc hS d2;go_simp;with_reducible rfl);rotate_left;simp only [sc0,sc1]))
             go_wp2
             go_ret
             exact ⟨Af (by rw [← HK.out,HPG.out,HPK.out];rfl),bj HW11.out hS⟩
            ·go_wp2
             refine Aq (fun w' => Below wx.heap.size wx w') rfl rfl (by kernel_rfl) (Ac (Below.refl _ _)) (fun HT => ?_)
             repeat (first
              | (refine AQ (fun wx hS => ?_))
              | ((with_reducible refine Ay (f:=45) rfl ?_);refine Az (v:=.bool true) (args:=#[M.val Am2 cm2,Dp.val Ad2 cd2]) HT rfl Tryz.func45 (by kernel_rfl) rfl rfl (by rfl) (fun _ _ _ h => h) (by simp only [List.map_toArray,List.map_cons,List.map_nil];rfl) (fun wx hS => (Fp (c:=cm2) (d:=cd2) (by have:=HPB.out;rw [if_pos HDN.out] at this;exact this) (bj HW11.out hS) HMC.out HDC.out).mono fun _ _ h => ⟨h.1,bj hS h.2⟩) ?_;simp only [sc0,sc1])
              | (refine AB HT rfl (by rfl) (fun _ _ _ h => h) ?_;simp only [sc0,sc1])
              | (refine AP (v:=?_) HT rfl (by rfl) (fun _ _ _ h => h) (fun wx hS => ?_) ?_;rotate_left;(replace y0:=bc hS y0;replace y1:=bc hS y1;replace y4:=bc hS y4;replace m0:=bc hS m0;replace m1:=bc hS m1;replace m2:=bc hS m2;replace d0:=bc hS d0;replace d1:=bc hS d1;replace d2:=bc hS d2;go_simp;with_reducible rfl);rotate_left;simp only [sc0,sc1]))
             go_wp2
             go_roundw
             case rel => exact ⟨k + 1,by omega,by go_num,⟨by rw [← HK.out,HPG.out,HPK.out];rfl⟩,⟨bj HX11.out hS⟩⟩
             case measure => simp [intOf];omega
        ·go_wp2
         go_ret
         exact ⟨Af (by rw [← HK.out,show 5 - k = 0 by omega];rfl),HWW.out⟩
section
variable {P : Program} {ops : Array Oper} {Q : Exit → Act → World → Prop} {S : Array Bool → Act → World → Prop} {m i d : Nat} {o : Oper} {done : List Nat} {L : List Value} {D : List Deferred} {w w1 : World}
theorem TL {R : Option Addr → Nat → Option Addr → Nat → Nat → Prop} {G : Prop} (h1 : (∀ a b c d e,R a b c d e) → G) (h2 : ∀ a b c d e,R a b c d e) : G:=h1 h2
theorem ED {done' : List Nat} {a : Act} (hp : (lsd ops.size done == lsd ops.size done' && done.length == done'.length) = true) (h : Reg P ops Q S m done a) : Reg P ops Q S m done' a:=by
 simp only [Bool.and_eq_true,beq_iff_eq] at hp
 have h1:=h.out
 rw [hp.1,hp.2] at h1
 exact ⟨h1⟩
end
theorem TwoPs.over {w w1 : World} {b : Nat} {vd vm vl : Value} {ps qs : List Page} {l : List Rec} (h : TwoPs w b vd vm ps qs) (hl : OwnRs w b vl l) (hg : w.grownBy w1 vl.ownBlock) : TwoPs w1 b vd vm ps qs:=by
 obtain ⟨okd,okm,h1,h2,h3⟩:=h
 exact ⟨okd,okm,h1,Kd.LD h2 (Hr hl) F6 hg,Kd.LD h3 (Hr hl) F6 hg⟩
set_option maxRecDepth 100000 in
set_option maxHeartbeats 16000000 in
theorem Gr {w0 w : World} {e : Eng} {Ad Am Al : Option Addr} {cd cm cl : Nat} (hd : geo e.disk) (hm : geo e.mem) (hl : e.log.length ≤ 150) (hb : Below w0.heap.size w0 w) (hr : Ff w0 e Ad Am Al) : Calls Tryz.prog 35 #[e.val Ad Am Al cd cm cl] w (WE w e):=by
 have HR:=As (hr.up hb)
 have HD:=As hd
 have HM:=As hm
 have HL:=As hl
 clear hr hb hd hm hl
 obtain ⟨w1,hw1⟩ : ∃ w1,w.alloc (e.obox (.slice Ad e.disk.length cd) (.slice Am e.mem.length cm) (.slice Al e.log.length cl)) = w1:=⟨_,rfl⟩
 obtain ⟨w2,hw2⟩ : ∃ w2,w1.alloc (zE.obox (.slice none 0 0) (.slice none 0 0) (.slice none 0 0)) = w2:=⟨_,rfl⟩
 have hz1 : w1.heap.size = w.heap.size + 1:=by rw [← hw1];exact BD _ _
 have hz2 : w2.heap.size = w.heap.size + 2:=by rw [← hw2,BD,hz1]
 have hb12 : Below w1.heap.size w1 w2:=by rw [← hw2];exact Aa (Below.refl _ _) _
 have HB2 : A7 (Below w.heap.size w w2):=⟨by rw [← hw2, ← hw1];exact Aa (Aa (Below.refl _ _) _) _⟩
 have HQ2 : A7 (Ab w2 w.heap.size e (.slice Ad e.disk.length cd) (.slice Am e.mem.length cm) (.slice Al e.log.length cl)):=⟨Ab.up (by rw [← hw1];exact Ab.mk1 _ _ _ _ _) hb12⟩
 have HP2 : A7 (Ab w2 (w.heap.size + 1) zE (.slice none 0 0) (.slice none 0 0) (.slice none 0 0)):=⟨by rw [← hw2, ← hz1];exact Ab.mk1 _ _ _ _ _⟩
 have HW2 : A7 ((w.alloc (e.obox (.slice Ad e.disk.length cd) (.slice Am e.mem.length cm) (.slice Al e.log.length cl))).alloc (zE.obox (.slice none 0 0) (.slice none 0 0) (.slice none 0 0)) = w2):=⟨by rw [hw1,hw2]⟩
 have HZ2:=As hz2
 clear hw1 hw2 hz1 hz2 hb12
 have HCD : A7 (∀ wx,Below w.heap.size w wx → Calls Tryz.prog 68 #[.slice Ad e.disk.length cd] wx (NQ wx e.disk)):=⟨fun wx hb => Cx (ET HD.out) (by have:=HD.out.1;omega) hb HR.out.d⟩
 have HCM : A7 (∀ wx,Below w.heap.size w wx → Calls Tryz.prog 68 #[.slice Am e.mem.length cm] wx (NQ wx e.mem)):=⟨fun wx hb => Cx (ET HM.out) (by have:=HM.out.1;omega) hb HR.out.m⟩
 go_enter Tryz.func35,Tryz.ntmps35
 go_wp2
 rw [show (w.alloc (Obj.cells #[Value.slice Ad e.disk.length cd,Value.slice Am e.mem.length cm,Value.slice Al e.log.length cl,Value.int IntKind.i64 e.safe,Value.bool e.down] 26)).alloc (Obj.cells #[Value.slice none 0 0,Value.slice none 0 0,Value.slice none 0 0,Value.int IntKind.i64 0,Value.bool false] 26) = w2 from HW2.out]
 refine Bo (fun lx a wx => (Below w.heap.size w wx ∧ w.heap.size + 2 ≤ wx.heap.size ∧ Ab wx w.heap.size e (.slice Ad e.disk.length cd) (.slice Am e.mem.length cm) (.slice Al e.log.length cl) ∧ Ab wx (w.heap.size + 1) zE (.slice none 0 0) (.slice none 0 0) (.slice none 0 0)) ∧ (Sl 2 5 (fun v wx => F3 wx w.heap.size v e.disk) lx a wx ∧ (Sl2 2 5 5 8 (fun v u wx => TwoPs wx w.heap.size v u e.disk e.mem) lx a wx ∧ (Pre 9 6 9 (fun _ => True) (fun v wx => OwnRs wx w.heap.size v []) lx a wx ∧ Sl 9 12 (fun v wx => OwnRs wx w.heap.size v e.log) lx a wx)))) 15 rfl (by kernel_rfl) (⟨⟨Ac HB2.out,by have:=HZ2.out;show _ ≤ w2.heap.size;omega,HQ2.out.up (Ac (Below.refl _ _)),HP2.out.up (Ac (Below.refl _ _))⟩,Bp,LU,FE trivial,Bp⟩) (fun HT => ?_)
 refine Bw [0,1,3,4,7,8,10,11,12,13] ?_
 iterate 10 (refine Bq (v:=?_) HT rfl (by kernel_rfl) rfl (kA Ah (kA (Ak rfl rfl) (kA (Hg rfl rfl rfl rfl) (kA (Cf rfl rfl rfl) (Ak rfl rfl))))) (by rfl) (fun _ _ _ h => h) (fun lx ax wx hS => ?_) ?_;rotate_left;(obtain ⟨⟨-, -,hq, -⟩, -⟩:=hS;have x0:=hq.c0;have x1:=hq.c1;have x2:=hq.c2;have x3:=hq.c3;have x4:=hq.c4;clear hq;go_simp;with_reducible rfl);rotate_left;simp only [sc0,sc1])
 refine Bv ?_
 apply TL
 ·intro hrest
  refine AJ [2,6] (by kernel_rfl) (fun i hi wx hS => ?_)
  rcases List.mem_cons.1 hi with rfl | hi
  ·clear hi
   refine Cz (f:=68) (args:=#[.slice Ad e.disk.length cd]) rfl rfl Tryz.func68 (by kernel_rfl) rfl rfl (by rfl) (by simp only [List.map_toArray,List.map_cons,List.map_nil];rfl) ((HCD.out wx hS.1.1).mono ?_)
   rintro x w6 ⟨v,rfl,ho,hb⟩
   obtain ⟨Bd,dd,rfl, -, -⟩:=Kd.CV ho
   refine ⟨_,rfl,⟨⟨bj hS.1.1 hb,Nat.le_trans hS.1.2.1 hb.size,hS.1.2.2.1.up hb,hS.1.2.2.2.up hb⟩,fun _ => Kd.Eb ho hS.1.1.size,fun _ h => (Ao h (by kernel_rfl)).elim,fun _ => ⟨trivial,fun h => (Ao h (by kernel_rfl)).elim⟩,fun h => (Ao h (by kernel_rfl)).elim⟩,?_⟩
   clear hS ho hb
   simp only [sc0,sc1]
   refine AJ [5,6] (by kernel_rfl) (fun i hi wx hS => ?_)
   rcases List.mem_cons.1 hi with rfl | hi
   ·clear hi
    refine Cz (f:=68) (args:=#[.slice Am e.mem.length cm]) rfl rfl Tryz.func68 (by kernel_rfl) rfl rfl (by rfl) (by simp only [List.map_toArray,List.map_cons,List.map_nil];rfl) ((HCM.out wx hS.1.1).mono ?_)
    rintro x w6 ⟨v,rfl,ho,hb⟩
    obtain ⟨Bm,dm,rfl, -, -⟩:=Kd.CV ho
    refine ⟨_,rfl,⟨⟨bj hS.1.1 hb,Nat.le_trans hS.1.2.1 hb.size,hS.1.2.2.1.up hb,hS.1.2.2.2.up hb⟩,fun _ => Kd.Bg (hS.2.1 (by kernel_rfl)) hb,fun _ _ => TwoPs.mk (hS.2.1 (by kernel_rfl)) ho hb hS.1.1.size,fun _ => ⟨trivial,fun h => (Ao h (by kernel_rfl)).elim⟩,fun h => (Ao h (by kernel_rfl)).elim⟩,?_⟩
    clear hS ho hb
    simp only [sc0,sc1]
    refine AJ [6] (by kernel_rfl) (fun i hi wx hS => ?_)
    obtain rfl:=List.mem_singleton.1 hi
    clear hi
    have hb : Below wx.heap.size wx (wx.alloc (.cells #[] 43)):=Aa (Below.refl _ _) _
    refine BG (w1:=wx.alloc (.cells #[] 43)) (.slice (some ⟨wx.heap.size,0,none⟩) 0 0) rfl rfl (by rfl) (by go_simp) ?_
    refine ⟨⟨⟨bj hS.1.1 hb,Nat.le_trans hS.1.2.1 hb.size,hS.1.2.2.1.up hb,hS.1.2.2.2.up hb⟩,fun _ => Kd.Bg (hS.2.1 (by kernel_rfl)) hb,fun _ _ => (hS.2.2.1 (by kernel_rfl) (by kernel_rfl)).below hb,fun _ => ⟨trivial,fun _ => rs_empty rfl hS.1.1.size⟩,fun h => (Ao h (by kernel_rfl)).elim⟩,?_⟩
    obtain ⟨B,hB⟩ : ∃ B,wx.heap.size = B:=⟨_,rfl⟩
    clear hb
    rw [hB]
    clear hB hS
    simp only [sc0,sc1]
    exact ED (done := [6,5,2,13,12,11,10,8,7,4,3,1,0]) (by kernel_rfl) (hrest Bd dd Bm dm B)
   ·obtain rfl:=List.mem_singleton.1 hi
    clear hi
    have hb : Below wx.heap.size wx (wx.alloc (.cells #[] 43)):=Aa (Below.refl _ _) _
    refine BG (w1:=wx.alloc (.cells #[] 43)) (.slice (some ⟨wx.heap.size,0,none⟩) 0 0) rfl rfl (by rfl) (by go_simp) ?_
    refine ⟨⟨⟨bj hS.1.1 hb,Nat.le_trans hS.1.2.1 hb.size,hS.1.2.2.1.up hb,hS.1.2.2.2.up hb⟩,fun _ => Kd.Bg (hS.2.1 (by kernel_rfl)) hb,fun _ h => (Ao h (by kernel_rfl)).elim,fun _ => ⟨trivial,fun _ => rs_empty rfl hS.1.1.size⟩,fun h => (Ao h (by kernel_rfl)).elim⟩,?_⟩
    obtain ⟨B,hB⟩ : ∃ B,wx.heap.size = B:=⟨_,rfl⟩
    clear hb
    rw [hB]
    clear hB hS
    simp only [sc0,sc1]
    refine AJ [5] (by kernel_rfl) (fun i hi wx hS => ?_)
    obtain rfl:=List.mem_singleton.1 hi
    clear hi
    refine Cz (f:=68) (args:=#[.slice Am e.mem.length cm]) rfl rfl Tryz.func68 (by kernel_rfl) rfl rfl (by rfl) (by simp only [List.map_toArray,List.map_cons,List.map_nil];rfl) ((HCM.out wx hS.1.1).mono ?_)
    rintro x w6 ⟨v,rfl,ho,hb⟩
    obtain ⟨Bm,dm,rfl, -, -⟩:=Kd.CV ho
    refine ⟨_,rfl,⟨⟨bj hS.1.1 hb,Nat.le_trans hS.1.2.1 hb.size,hS.1.2.2.1.up hb,hS.1.2.2.2.up hb⟩,fun _ => Kd.Bg (hS.2.1 (by kernel_rfl)) hb,fun _ _ => TwoPs.mk (hS.2.1 (by kernel_rfl)) ho hb hS.1.1.size,fun _ => ⟨trivial,fun _ => Kd.C8 ((hS.2.2.2.1 (by kernel_rfl)).2 (by kernel_rfl)) hb⟩,fun h => (Ao h (by kernel_rfl)).elim⟩,?_⟩
    clear hS ho hb
    simp only [sc0,sc1]
    exact ED (done := [6,5,2,13,12,11,10,8,7,4,3,1,0]) (by kernel_rfl) (hrest Bd dd Bm dm B)
  ·obtain rfl:=List.mem_singleton.1 hi
   clear hi
   have hb : Below wx.heap.size wx (wx.alloc (.cells #[] 43)):=Aa (Below.refl _ _) _
   refine BG (w1:=wx.alloc (.cells #[] 43)) (.slice (some ⟨wx.heap.size,0,none⟩) 0 0) rfl rfl (by rfl) (by go_simp) ?_
   refine ⟨⟨⟨bj hS.1.1 hb,Nat.le_trans hS.1.2.1 hb.size,hS.1.2.2.1.up hb,hS.1.2.2.2.up hb⟩,fun h => (Ao h (by kernel_rfl)).elim,fun _ h => (Ao h (by kernel_rfl)).elim,fun _ => ⟨trivial,fun _ => rs_empty rfl hS.1.1.size⟩,fun h => (Ao h (by kernel_rfl)).elim⟩,?_⟩
   obtain ⟨B,hB⟩ : ∃ B,wx.heap.size = B:=⟨_,rfl⟩
   clear hb
   rw [hB]
   clear hB hS
   simp only [sc0,sc1]
   refine AJ [2] (by kernel_rfl) (fun i hi wx hS => ?_)
   obtain rfl:=List.mem_singleton.1 hi
   clear hi
   refine Cz (f:=68) (args:=#[.slice Ad e.disk.length cd]) rfl rfl Tryz.func68 (by kernel_rfl) rfl rfl (by rfl) (by simp only [List.map_toArray,List.map_cons,List.map_nil];rfl) ((HCD.out wx hS.1.1).mono ?_)
   rintro x w6 ⟨v,rfl,ho,hb⟩
   obtain ⟨Bd,dd,rfl, -, -⟩:=Kd.CV ho
   refine ⟨_,rfl,⟨⟨bj hS.1.1 hb,Nat.le_trans hS.1.2.1 hb.size,hS.1.2.2.1.up hb,hS.1.2.2.2.up hb⟩,fun _ => Kd.Eb ho hS.1.1.size,fun _ h => (Ao h (by kernel_rfl)).elim,fun _ => ⟨trivial,fun _ => Kd.C8 ((hS.2.2.2.1 (by kernel_rfl)).2 (by kernel_rfl)) hb⟩,fun h => (Ao h (by kernel_rfl)).elim⟩,?_⟩
   clear hS ho hb
   simp only [sc0,sc1]
   refine AJ [5] (by kernel_rfl) (fun i hi wx hS => ?_)
   obtain rfl:=List.mem_singleton.1 hi
   clear hi
   refine Cz (f:=68) (args:=#[.slice Am e.mem.length cm]) rfl rfl Tryz.func68 (by kernel_rfl) rfl rfl (by rfl) (by simp only [List.map_toArray,List.map_cons,List.map_nil];rfl) ((HCM.out wx hS.1.1).mono ?_)
   rintro x w6 ⟨v,rfl,ho,hb⟩
   obtain ⟨Bm,dm,rfl, -, -⟩:=Kd.CV ho
   refine ⟨_,rfl,⟨⟨bj hS.1.1 hb,Nat.le_trans hS.1.2.1 hb.size,hS.1.2.2.1.up hb,hS.1.2.2.2.up hb⟩,fun _ => Kd.Bg (hS.2.1 (by kernel_rfl)) hb,fun _ _ => TwoPs.mk (hS.2.1 (by kernel_rfl)) ho hb hS.1.1.size,fun _ => ⟨trivial,fun _ => Kd.C8 ((hS.2.2.2.1 (by kernel_rfl)).2 (by kernel_rfl)) hb⟩,fun h => (Ao h (by kernel_rfl)).elim⟩,?_⟩
   clear hS ho hb
   simp only [sc0,sc1]
   exact ED (done := [6,5,2,13,12,11,10,8,7,4,3,1,0]) (by kernel_rfl) (hrest Bd dd Bm dm B)
 ·intro Bd dd Bm dm B
  refine AJ [9] (by kernel_rfl) (fun i hi w3 hS => ?_)
  obtain rfl:=List.mem_singleton.1 hi
  clear hi
  obtain ⟨⟨h1,h2,h3,h4⟩,hc1,hc2,hc3, -⟩:=hS
  have hr0 : OwnRs w3 w.heap.size (.slice (some ⟨B,0,none⟩) 0 0) []:=(hc3 (by kernel_rfl)).2 (by kernel_rfl)
  have hd0 : F3 w3 w.heap.size (.slice Bd e.disk.length dd) e.disk:=hc1 (by kernel_rfl)
  have ht0 : TwoPs w3 w.heap.size (.slice Bd e.disk.length dd) (.slice Bm e.mem.length dm) e.disk e.mem:=hc2 (by kernel_rfl) (by kernel_rfl)
  have hlg : Kd.C kRec w3 Al e.log.length e.log:=BF HR.out.l h1
  refine wpOp_step rfl (Kd.Cy kRec (Rr:=kRec.K w3) (w0:=w) w.heap.size (by rfl) (.tmp 9) (.tmp 11) 24 43 _ 64 rfl E8 Gy rfl (by decide) (by decide) (.slice (some ⟨B,0,none⟩) 0 0) [] e.log Al e.log.length cl (fun _ => True) (fun _ => False) rfl rfl hr0 hlg (fun _ _ hk => Jr hk) (fun _ hk => hk.elim) (fun _ _ => trivial) h1 h1.size (by have:=HL.out;simp;omega) (fun v1 w4 hown hb4 hg4 _ => ?_))
  have hown : OwnRs w4 w.heap.size v1 e.log:=hown
  obtain ⟨Bl,dl,rfl, -, -⟩:=Kd.D6 hown
  simp only [Ck,sc0,sc1]
  refine ⟨⟨⟨hb4,Nat.le_trans h2 hg4.size,h3.grown hr0 hg4,h4.grown hr0 hg4⟩,fun _ => Kd.LD hd0 (Hr hr0) F6 hg4,fun _ _ => ht0.over hr0 hg4,fun h => (Ao (by kernel_rfl) h).elim,fun _ => hown⟩,?_⟩
  clear h1 h2 h3 h4 hc1 hc2 hc3 hr0 hd0 ht0 hlg hb4 hg4 hown
  refine CZ (i:=14) (v:=?_) HT rfl (by kernel_rfl) rfl (kA Ah (kA (Ak rfl rfl) (kA (Hg rfl rfl rfl rfl) (kA (Cf rfl rfl rfl) (Ak rfl rfl))))) (by rfl) (fun _ _ _ h => h) (fun lx ax wx hS => ?_) ?_
  rotate_left
  ·go_simp
   with_reducible rfl
  rotate_left
  simp only [sc0,sc1]
  refine Cb (i:=15) (by kernel_rfl) rfl (fun wx hS => ?_)
  obtain ⟨⟨h1,h2, -,hy⟩, -,hs2, -,hs4⟩:=hS
  have ho : Aw wx w.heap.size (.slice Bd e.disk.length dd) (.slice Bm e.mem.length dm) (.slice Bl e.log.length dl) e:=TwoPs.eng (hs2 (by kernel_rfl) (by kernel_rfl)) (hs4 (by kernel_rfl))
  clear hs2 hs4
  have y0:=hy.c0
  have y1:=hy.c1
  have y2:=hy.c2
  have y3:=hy.c3
  have y4:=hy.c4
  have f0:=hy.frz 0
  have f1:=hy.frz 1
  have f2:=hy.frz 2
  have f3:=hy.frz 3
  have f4:=hy.frz 4
  refine BH (w1:=Go.Proofs.YtjeodgfkilhkhaaGreat.Ap wx (w.heap.size + 1) e (.slice Bd e.disk.length dd) (.slice Bm e.mem.length dm) (.slice Bl e.log.length dl)) rfl (by rfl) (by go_simp) ?_
  have hy2:=hy.Ap e (.slice Bd e.disk.length dd) (.slice Bm e.mem.length dm) (.slice Bl e.log.length dl)
  have ho2:=ho.Ap (f:=e) (xd:=.slice Bd e.disk.length dd) (xm:=.slice Bm e.mem.length dm) (xl:=.slice Bl e.log.length dl) hy
  have h3:=Aj (g:=w.heap.size + 1) h1 (by omega) e (.slice Bd e.disk.length dd) (.slice Bm e.mem.length dm) (.slice Bl e.log.length dl)
  have z0:=hy2.c0
  have z1:=hy2.c1
  have z2:=hy2.c2
  have z3:=hy2.c3
  have z4:=hy2.c4
  refine BM (by kernel_rfl) ?_
  go_wp2
  exact bodyPost_ret (v:=e.ag (.slice Bd e.disk.length dd) (.slice Bm e.mem.length dm) (.slice Bl e.log.length dl)) (by simp [results,Tryz.results35,go_sem,z0,z1,z2,z3,z4]) rfl ⟨_,_,_,rfl,ho2,h3⟩
end Go.Proofs.YtjeodgfkilhkhaaGreat
namespace Go.Proofs.YtjeodgfkilhkhaaGreat
open Go.RowKit Go.Proofs.YtjeodgfkilhkhaaGreatW.PrintWords Go.Proofs.YtjeodgfkilhkhaaGreatW.PrintLast Go.Proofs.YtjeodgfkilhkhaaGreatW.PrintMore
section
variable {P : Program} {ops : Array Oper} {Q : Exit → Act → World → Prop} {S : Array Bool → Act → World → Prop} {m : Nat} {done : List Nat} {L : List Value} {D : List Deferred}
theorem VE {oi oj : Oper} {ob : Obj} (i j : Nat) {di dj : Nat} (hi : ops.toList[i]? = some oi) (hj : ops.toList[j]? = some oj)
    {f : FuncId} {fn : Func} {xs : Array Operand} {ts : Array TypeId} {args : Array Value} (G : Value → Prop)
    (hok : ((Region.ready .any ops (lsd ops.size done) == [j,i] || Region.ready .any ops (lsd ops.size done) == [i,j]) && (Region.ready .any ops (lsd ops.size (i :: done)) == [j] && (Region.ready .any ops (lsd ops.size (j :: done)) == [i] && decide (done.length + 1 < ops.size)))) = true)
    (hop : oj.op = .call { callee:=.value (.func f),args:=xs,argTypes:=ts }) (hf : P.funcs[f]? = some fn) (hname : (fn.name == "runtime.NumGoroutine") = false) (hb : fn.body.isSome = true)
    (hdi : oi.dst = some di) (hdj : oj.dst = some dj) (hne : (di == dj) = false) (hwi : ∀ t,Region.wanted oi t = true) (hwj : ∀ t,Region.wanted oj t = true)
    (hargs : xs.map (Act.eval ⟨L.toArray,D⟩) = args) (hargs2 : ∀ B,xs.map (Act.eval ⟨(L.set di (ptr B)).toArray,D⟩) = args)
    (hr : ∀ (a : Act) w,(execOp a.eval oi).run P w = .ok (.value (ptr w.heap.size)) (w.alloc ob))
    (c1 : ∀ w,S (lsd ops.size done) ⟨L.toArray,D⟩ w → Calls P f args w fun e w' => ∃ v,e = .returned v ∧ G v ∧ S (lsd ops.size (j :: done)) ⟨(L.set dj v).toArray,D⟩ w')
    (a1 : ∀ v w,G v → S (lsd ops.size (j :: done)) ⟨(L.set dj v).toArray,D⟩ w → S (lsd ops.size (i :: j :: done)) ⟨((L.set dj v).set di (ptr w.heap.size)).toArray,D⟩ (w.alloc ob))
    (a2 : ∀ w,S (lsd ops.size done) ⟨L.toArray,D⟩ w → S (lsd ops.size (i :: done)) ⟨(L.set di (ptr w.heap.size)).toArray,D⟩ (w.alloc ob))
    (c2 : ∀ B w,S (lsd ops.size (i :: done)) ⟨(L.set di (ptr B)).toArray,D⟩ w → Calls P f args w fun e w' => ∃ v,e = .returned v ∧ G v ∧ S (lsd ops.size (i :: j :: done)) ⟨((L.set dj v).set di (ptr B)).toArray,D⟩ w')
    (h : ∀ v B,G v → Reg P ops Q S m (i :: j :: done) ⟨((L.set dj v).set di (ptr B)).toArray,D⟩) : Reg P ops Q S m done ⟨L.toArray,D⟩:=by
  simp only [Bool.and_eq_true,Bool.or_eq_true,beq_iff_eq,decide_eq_true_eq] at hok
  obtain ⟨r0,r1,r2,hl⟩:=hok
  have hne : di ≠ dj:=by simpa using hne
  have key : ∀ k,k = i ∨ k = j → ∀ w,S (lsd ops.size done) ⟨L.toArray,D⟩ w → wpOp P ops Q k (fun a' w' => S (lsd ops.size (k :: done)) a' w' ∧ Reg P ops Q S m (k :: done) a') ⟨L.toArray,D⟩ w:=by
    rintro k hk w hS
    rcases hk with rfl | rfl
    · refine Hl (w1:=w.alloc ob) (ptr w.heap.size) hi (hwi _) (hr _ _) ?_
      rw [hdi,Ck]
      refine ⟨a2 w hS,AJ [j] (by rw [r1];simp;omega) (fun k hk w' hS' => ?_)⟩
      obtain rfl:=List.mem_singleton.1 hk
      refine Cz hj hop hf hname hb hdj (hwj _) (hargs2 _) ((c2 _ w' hS').mono fun e w2 ⟨v,he,hg,hS2⟩ => ⟨v,he,?_,?_⟩)
      · rw [List.set_comm _ _ hne,Lh]
        exact hS2
      · rw [List.set_comm _ _ hne]
        refine ED ?_ (h v _ hg)
        rw [Lh]
        simp
    · refine Cz hj hop hf hname hb hdj (hwj _) hargs ((c1 w hS).mono fun e w2 ⟨v,he,hg,hS2⟩ => ⟨v,he,hS2,AJ [i] (by rw [r2];simp;omega) (fun k hk w' hS' => ?_)⟩)
      obtain rfl:=List.mem_singleton.1 hk
      refine Hl (w1:=w'.alloc ob) (ptr w'.heap.size) hi (hwi _) (hr _ _) ?_
      rw [hdi,Ck]
      exact ⟨a1 v w' hg hS',h v _ hg⟩
  rcases r0 with r0 | r0
  · refine AJ [j,i] (by rw [r0];simp;omega) (fun k hk w hS => key k ?_ w hS)
    simp at hk
    exact hk.symm
  · refine AJ [i,j] (by rw [r0];simp;omega) (fun k hk w hS => key k ?_ w hS)
    simp at hk
    exact hk
end
theorem reg_later2 {R : Value → Nat → Prop} {G : Prop} (h1 : (∀ a b,R a b) → G) (h2 : ∀ a b,R a b) : G:=h1 h2
structure JZ (w0 w : World) (g : Nat) (e : Eng) : Prop where
 ex : ∃ vd vm vl,Ab w g e vd vm vl ∧ Aw w w0.heap.size vd vm vl e
 bel : Below w0.heap.size w0 w
 ge : w0.heap.size ≤ g
theorem JZ.up {w0 w w1 : World} {g : Nat} {e : Eng} (h : JZ w0 w g e) (hb : Below w.heap.size w w1) : JZ w0 w1 g e:=by
 obtain ⟨⟨vd,vm,vl,h1,h2⟩,h3,h4⟩:=h
 exact ⟨⟨vd,vm,vl,h1.up hb,h2.below hb⟩,bj h3 hb,h4⟩
def X3 (w0 : World) (g : Nat) (e : Eng) (x : Ending) (w' : World) : Prop:=(∃ v,x = .returned v) ∧ JZ w0 w' g e
end Go.Proofs.YtjeodgfkilhkhaaGreat
namespace Go.Proofs.YtjeodgfkilhkhaaGreat
open Go.RowKit Go.Proofs.YtjeodgfkilhkhaaGreatW.PrintWords Go.Proofs.YtjeodgfkilhkhaaGreatW.PrintLast Go.Proofs.YtjeodgfkilhkhaaGreatW.PrintMore
def OL (w : World) (e : Eng) (b : Bool) (x : Ending) (w' : World) : Prop := ∃ vd vm vl,x = .returned (.tuple #[e.ag vd vm vl, .bool b]) ∧ Aw w' w.heap.size vd vm vl e ∧ Below w.heap.size w w'
theorem Hz (w : World) (b : Nat) : Aw w b (.slice none 0 0) (.slice none 0 0) (.slice none 0 0) zE:=⟨⟨fun _ => True,fun _ => False,fun _ _ h => h,Kd.Vn _ _ _ _ _,Kd.Vn _ _ _ _ _⟩,Kd.Vx _ _ _ _ _⟩
abbrev YB (w : World) (g : Nat) : World:=((((w.setCell ⟨g,0,none⟩ (.slice none 0 0)).setCell ⟨g,1,none⟩ (.slice none 0 0)).setCell ⟨g,2,none⟩ (.slice none 0 0)).setCell ⟨g,3,none⟩ (.int .i64 0)).setCell ⟨g,4,none⟩ (.bool false)
structure WJ (w : World) (g : Nat) : Prop where
 c0 : w.cell? ⟨g,0,none⟩ = some (.slice none 0 0)
 c1 : w.cell? ⟨g,1,none⟩ = some (.slice none 0 0)
 c2 : w.cell? ⟨g,2,none⟩ = some (.slice none 0 0)
 c3 : w.cell? ⟨g,3,none⟩ = some (.int .i64 0)
 c4 : w.cell? ⟨g,4,none⟩ = some (.bool false)
theorem Ab.empty {w : World} {g : Nat} {q : Eng} {ud um ul : Value} (h : Ab w g q ud um ul) : WJ (YB w g) g:=
 have hy:=h.Ap zE (.slice none 0 0) (.slice none 0 0) (.slice none 0 0)
 ⟨hy.c0,hy.c1,hy.c2,hy.c3,hy.c4⟩
abbrev zEv : Value:=.agg #[.slice none 0 0, .slice none 0 0, .slice none 0 0, .int .i64 0, .bool false]
def Fa (e : Eng) (left : Int) : Eng × Bool:=if eOk e = true ∧ 0 ≤ left then (BL e left,true) else (zE,false)
set_option maxRecDepth 100000 in
set_option maxHeartbeats 8000000 in
theorem Vp {w0 w : World} {e : Eng} {Ad Am Al : Option Addr} {cd cm cl : Nat} (left : Int) (hcl : e.log.length ≤ cl) (hb : Below w0.heap.size w0 w) (hr : Ff w0 e Ad Am Al) : Calls Tryz.prog 12 #[e.val Ad Am Al cd cm cl, .int .i64 left] w (OL w (Fa e left).1 (Fa e left).2):=by
 have HR:=As (hr.up hb)
 clear hr hb
 obtain ⟨w1,hw1⟩ : ∃ w1,w.alloc (e.obox (.slice Ad e.disk.length cd) (.slice Am e.mem.length cm) (.slice Al e.log.length cl)) = w1:=⟨_,rfl⟩
 obtain ⟨w2,hw2⟩ : ∃ w2,w1.alloc (zE.obox (.slice none 0 0) (.slice none 0 0) (.slice none 0 0)) = w2:=⟨_,rfl⟩
 have hz1 : w1.heap.size = w.heap.size + 1:=by rw [← hw1];exact BD _ _
 have hz2 : w2.heap.size = w.heap.size + 2:=by rw [← hw2,BD,hz1]
 have hb12 : Below w1.heap.size w1 w2:=by rw [← hw2];exact Aa (Below.refl _ _) _
 have HB2 : A7 (Below w.heap.size w w2):=⟨by rw [← hw2, ← hw1];exact Aa (Aa (Below.refl _ _) _) _⟩
 have HQ2 : A7 (Ab w2 w.heap.size e (.slice Ad e.disk.length cd) (.slice Am e.mem.length cm) (.slice Al e.log.length cl)):=⟨Ab.up (by rw [← hw1];exact Ab.mk1 _ _ _ _ _) hb12⟩
 have HP2 : A7 (Ab w2 (w.heap.size + 1) zE (.slice none 0 0) (.slice none 0 0) (.slice none 0 0)):=⟨by rw [← hw2, ← hz1];exact Ab.mk1 _ _ _ _ _⟩
 have HW2 : A7 ((w.alloc (e.obox (.slice Ad e.disk.length cd) (.slice Am e.mem.length cm) (.slice Al e.log.length cl))).alloc (zE.obox (.slice none 0 0) (.slice none 0 0) (.slice none 0 0)) = w2):=⟨by rw [hw1,hw2]⟩
 have HZ2:=As hz2
 clear hw1 hw2 hz1 hz2 hb12
 have x2:=HQ2.out.c2
 have x3:=HQ2.out.c3
 cases hv : eOk e
 ·have HV:=As hv
  have hE : Fa e left = (zE,false):=by rw [Fa,if_neg (by rw [hv];simp)]
  rw [hE]
  clear hv hE
  go_enter Tryz.func12,Tryz.ntmps12
  go_wp2_with (go_at_call 16;rw [show (w.alloc (Obj.cells #[Value.slice Ad e.disk.length cd,Value.slice Am e.mem.length cm,Value.slice Al e.log.length cl,Value.int IntKind.i64 e.safe,Value.bool e.down] 26)).alloc (Obj.cells #[Value.slice none 0 0,Value.slice none 0 0,Value.slice none 0 0,Value.int IntKind.i64 0,Value.bool false] 26) = w2 from HW2.out];refine (BU (cd:=cd) (cm:=cm) HV.out hcl HB2.out HR.out).mono ?_;rintro x w3 ⟨rfl,hb3⟩;have HB3:=As (bj HB2.out hb3);have HP3:=As (HP2.out.up hb3);have y0:=HP3.out.c0;have y1:=HP3.out.c1;have y2:=HP3.out.c2;have y3:=HP3.out.c3;have y4:=HP3.out.c4;have f0:=HP3.out.frz 0;have f1:=HP3.out.frz 1;have f2:=HP3.out.frz 2;have f3:=HP3.out.frz 3;have f4:=HP3.out.frz 4;clear hb3)
  obtain ⟨z0,z1,z2,z3,z4⟩:=HP3.out.empty
  exact bodyPost_ret (v:=.tuple #[zEv, .bool false]) (by simp [results,Tryz.results12,go_sem,z0,z1,z2,z3,z4]) rfl ⟨_,_,_,rfl,Hz _ _,Aj (g:=w.heap.size + 1) HB3.out (by omega) zE _ _ _⟩
 ·have HV:=As hv
  have HF:=As (Ct.1 hv)
  clear hv
  rcases lts left 0 with ⟨e1,b1,c1⟩ | ⟨e1,b1,c1⟩
  ·have hE : Fa e left = (zE,false):=by rw [Fa,if_neg (by have:=e1.out;omega)]
   rw [hE]
   clear hE
   have hl0:=e1.out
   go_enter Tryz.func12,Tryz.ntmps12
   go_wp2_with (go_at_call 16;rw [show (w.alloc (Obj.cells #[Value.slice Ad e.disk.length cd,Value.slice Am e.mem.length cm,Value.slice Al e.log.length cl,Value.int IntKind.i64 e.safe,Value.bool e.down] 26)).alloc (Obj.cells #[Value.slice none 0 0,Value.slice none 0 0,Value.slice none 0 0,Value.int IntKind.i64 0,Value.bool false] 26) = w2 from HW2.out];refine (BU (cd:=cd) (cm:=cm) HV.out hcl HB2.out HR.out).mono ?_;rintro x w3 ⟨rfl,hb3⟩;have HB3:=As (bj HB2.out hb3);have HP3:=As (HP2.out.up hb3);have y0:=HP3.out.c0;have y1:=HP3.out.c1;have y2:=HP3.out.c2;have y3:=HP3.out.c3;have y4:=HP3.out.c4;have f0:=HP3.out.frz 0;have f1:=HP3.out.frz 1;have f2:=HP3.out.frz 2;have f3:=HP3.out.frz 3;have f4:=HP3.out.frz 4;clear hb3)
   obtain ⟨z0,z1,z2,z3,z4⟩:=HP3.out.empty
   exact bodyPost_ret (v:=.tuple #[zEv, .bool false]) (by simp [results,Tryz.results12,go_sem,z0,z1,z2,z3,z4]) rfl ⟨_,_,_,rfl,Hz _ _,Aj (g:=w.heap.size + 1) HB3.out (by omega) zE _ _ _⟩
  ·have hE : Fa e left = (BL e left,true):=by rw [Fa,if_pos ⟨HV.out,e1.out⟩]
   rw [hE]
   clear hE
   have hl0:=e1.out
   go_enter Tryz.func12,Tryz.ntmps12
   go_wp2_with (go_at_call 16;rw [show (w.alloc (Obj.cells #[Value.slice Ad e.disk.length cd,Value.slice Am e.mem.length cm,Value.slice Al e.log.length cl,Value.int IntKind.i64 e.safe,Value.bool e.down] 26)).alloc (Obj.cells #[Value.slice none 0 0,Value.slice none 0 0,Value.slice none 0 0,Value.int IntKind.i64 0,Value.bool false] 26) = w2 from HW2.out];refine (BU (cd:=cd) (cm:=cm) HV.out hcl HB2.out HR.out).mono ?_;rintro x w3 ⟨rfl,hb3⟩;have HB3:=As (bj HB2.out hb3);have HP3:=As (HP2.out.up hb3);have y0:=HP3.out.c0;have y1:=HP3.out.c1;have y2:=HP3.out.c2;have y3:=HP3.out.c3;have y4:=HP3.out.c4;have f0:=HP3.out.frz 0;have f1:=HP3.out.frz 1;have f2:=HP3.out.frz 2;have f3:=HP3.out.frz 3;have f4:=HP3.out.frz 4;replace x2:=bc hb3 x2;replace x3:=bc hb3 x3;have HX3:=As hb3;clear hb3)
   obtain ⟨n,hn⟩ : ∃ n : Nat,Dj e left = n:=⟨_,rfl⟩
   have hle:=Gw (left:=left) HF.out.s0 HF.out.s1
   rw [hn] at hle
   have hmax : max (min left (e.log.length : Int)) e.safe = (n : Int):=by rw [← hn];unfold Dj;have:=HF.out.s0;have:=HF.out.s1;omega
   rw [hmax]
   have hncl : n ≤ cl:=by omega
   have hl : (e.log.take n).length = n:=by rw [List.length_take];omega
   have HLn:=As hl
   have HE:=As (show BL e left = ⟨e.disk,e.disk,e.log.take n,e.safe,true⟩ by rw [BL,hn])
   have hgd:=AZ HF.out.disk
   have HGD:=As hgd
   have hm150:=BA HF.out.log
   have hclone : ∀ wx,Below w.heap.size w wx → Calls Tryz.prog 37 #[.slice Al n cl] wx (WX wx (e.log.take n)):=fun wx hb => by
    have h:=Lv (c:=cl) (by rw [hl];omega) hb (KD HR.out.l (by omega))
    rw [hl] at h
    exact h
   have x0:=HQ2.out.c0
   clear hgd hle hmax hl hn y0 y1 y2 y3 y4 f0 f1 f2 f3 f4
   refine Bo (fun lx a wx => (Below w.heap.size w wx ∧ w.heap.size + 2 ≤ wx.heap.size ∧ Ab wx w.heap.size e (.slice Ad e.disk.length cd) (.slice Am e.mem.length cm) (.slice Al e.log.length cl) ∧ Ab wx (w.heap.size + 1) zE (.slice none 0 0) (.slice none 0 0) (.slice none 0 0)) ∧ (Sl 2 25 (fun v wx => F3 wx (w.heap.size + 2) v e.disk) lx a wx ∧ (Sl2 2 25 5 28 (fun v u wx => TwoPs wx (w.heap.size + 2) v u e.disk e.disk) lx a wx ∧ Sl 10 33 (fun v wx => OwnRs wx (w.heap.size + 2) v (e.log.take n)) lx a wx))) 14 rfl (by kernel_rfl) (⟨⟨Ac HB3.out,by have:=HZ2.out;have:=HX3.out.size;show _ ≤ w3.heap.size;omega,HQ2.out.up (Ac HX3.out),HP2.out.up (Ac HX3.out)⟩,Bp,LU,Bp⟩) (fun HT => ?_)
   refine Bw [0,1,3,4,6,7,8,9,11,12] ?_
   iterate 10 (refine Bq (v:=?_) HT rfl (by kernel_rfl) rfl (kA Ah (kA (Ak rfl rfl) (kA (Hg rfl rfl rfl rfl) (Ak rfl rfl)))) (by rfl) (fun _ _ _ h => h) (fun lx ax wx hS => ?_) ?_;rotate_left;(obtain ⟨⟨-, -,hq, -⟩, -⟩:=hS;have x0:=hq.c0;have x1:=hq.c1;have x2:=hq.c2;have x3:=hq.c3;clear hq;go_simp;with_reducible rfl);rotate_left;simp only [sc0,sc1])
   refine Bv ?_
   refine Cr (i:=2) (f:=36) (args:=#[.slice Ad e.disk.length cd]) (fun v => ∃ A1 c1,v = .slice A1 e.disk.length c1) rfl (by kernel_rfl) rfl Tryz.func36 (by kernel_rfl) rfl rfl (by rfl) (by simp only [List.map_toArray,List.map_cons,List.map_nil];rfl) (fun wx hS => (EW (ET HGD.out) (by have:=HGD.out.1;omega) hS.1.1 HR.out.d).mono (by rintro x w6 ⟨v,rfl,ho,hb⟩;obtain ⟨A1,c1,rfl, -, -⟩:=Kd.CV ho;exact ⟨_,rfl,⟨A1,c1,rfl⟩,⟨bj hS.1.1 hb,Nat.le_trans hS.1.2.1 hb.size,hS.1.2.2.1.up hb,hS.1.2.2.2.up hb⟩,fun _ => Kd.Eb ho hS.1.2.1,fun _ h => (Ao h (by kernel_rfl)).elim,fun h => (Ao h (by kernel_rfl)).elim⟩)) (fun vx hg => ?_);simp only [sc0,sc1]
   obtain ⟨Bd,dd,rfl⟩:=hg
   refine Cr (i:=5) (f:=36) (args:=#[.slice Ad e.disk.length cd]) (fun v => ∃ A1 c1,v = .slice A1 e.disk.length c1) rfl (by kernel_rfl) rfl Tryz.func36 (by kernel_rfl) rfl rfl (by rfl) (by simp only [List.map_toArray,List.map_cons,List.map_nil];rfl) (fun wx hS => (EW (ET HGD.out) (by have:=HGD.out.1;omega) hS.1.1 HR.out.d).mono (by rintro x w6 ⟨v,rfl,ho,hb⟩;obtain ⟨A1,c1,rfl, -, -⟩:=Kd.CV ho;exact ⟨_,rfl,⟨A1,c1,rfl⟩,⟨bj hS.1.1 hb,Nat.le_trans hS.1.2.1 hb.size,hS.1.2.2.1.up hb,hS.1.2.2.2.up hb⟩,fun _ => Kd.Bg (hS.2.1 (by kernel_rfl)) hb,fun _ _ => TwoPs.mk (hS.2.1 (by kernel_rfl)) ho hb hS.1.2.1,fun h => (Ao h (by kernel_rfl)).elim⟩)) (fun vx hg => ?_);simp only [sc0,sc1]
   obtain ⟨Bm,dm,rfl⟩:=hg
   refine Cr (i:=10) (f:=37) (args:=#[.slice Al n cl]) (fun v => ∃ A1 c1,v = .slice A1 n c1) rfl (by kernel_rfl) rfl Tryz.func37 (by kernel_rfl) rfl rfl (by rfl) (by simp only [List.map_toArray,List.map_cons,List.map_nil];rfl) (fun wx hS => (hclone wx hS.1.1).mono (by rintro x w6 ⟨v,rfl,ho,hb⟩;obtain ⟨A1,c1,rfl, -, -⟩:=Kd.D6 ho;rw [HLn.out] at ho ⊢;exact ⟨_,rfl,⟨A1,c1,rfl⟩,⟨bj hS.1.1 hb,Nat.le_trans hS.1.2.1 hb.size,hS.1.2.2.1.up hb,hS.1.2.2.2.up hb⟩,fun _ => Kd.Bg (hS.2.1 (by kernel_rfl)) hb,fun _ _ => (hS.2.2.1 (by kernel_rfl) (by kernel_rfl)).below hb,fun _ => Kd.H8 ho hS.1.2.1⟩)) (fun vx hg => ?_);simp only [sc0,sc1]
   obtain ⟨Bl,dl,rfl⟩:=hg
   refine CZ (i:=13) (v:=?_) HT rfl (by kernel_rfl) rfl (kA Ah (kA (Ak rfl rfl) (kA (Hg rfl rfl rfl rfl) (Ak rfl rfl)))) (by rfl) (fun _ _ _ h => h) (fun lx ax wx hS => ?_) ?_;rotate_left;(go_simp;with_reducible rfl);rotate_left;simp only [sc0,sc1]
   refine Cb (i:=14) (by kernel_rfl) rfl (fun wx hS => ?_)
   obtain ⟨⟨h1,h2, -,hy⟩, -,hs2,hs3⟩:=hS
   obtain ⟨E,hEE⟩ : ∃ E : Eng,(⟨e.disk,e.disk,e.log.take n,e.safe,true⟩ : Eng) = E:=⟨_,rfl⟩
   have ho : Aw wx (w.heap.size + 2) (.slice Bd e.disk.length dd) (.slice Bm e.disk.length dm) (.slice Bl n dl) E:=by
    rw [← hEE]
    exact ⟨hs2 (by kernel_rfl) (by kernel_rfl),hs3 (by kernel_rfl)⟩
   have HEE:=As hEE
   clear hs2 hs3 hEE
   have y0:=hy.c0
   have y1:=hy.c1
   have y2:=hy.c2
   have y3:=hy.c3
   have y4:=hy.c4
   have f0:=hy.frz 0
   have f1:=hy.frz 1
   have f2:=hy.frz 2
   have f3:=hy.frz 3
   have f4:=hy.frz 4
   refine BH (w1:=Go.Proofs.YtjeodgfkilhkhaaGreat.Ap wx (w.heap.size + 1) ⟨e.disk,e.disk,e.log.take n,e.safe,true⟩ (.slice Bd e.disk.length dd) (.slice Bm e.disk.length dm) (.slice Bl n dl)) rfl (by rfl) (by go_simp) ?_
   have hy2:=hy.Ap ⟨e.disk,e.disk,e.log.take n,e.safe,true⟩ (.slice Bd e.disk.length dd) (.slice Bm e.disk.length dm) (.slice Bl n dl)
   have ho2:=ho.Ap (f:=⟨e.disk,e.disk,e.log.take n,e.safe,true⟩) (xd:=.slice Bd e.disk.length dd) (xm:=.slice Bm e.disk.length dm) (xl:=.slice Bl n dl) hy
   have h3:=Aj (g:=w.heap.size + 1) h1 (by omega) ⟨e.disk,e.disk,e.log.take n,e.safe,true⟩ (.slice Bd e.disk.length dd) (.slice Bm e.disk.length dm) (.slice Bl n dl)
   obtain ⟨W8,hW8⟩ : ∃ W8,Go.Proofs.YtjeodgfkilhkhaaGreat.Ap wx (w.heap.size + 1) ⟨e.disk,e.disk,e.log.take n,e.safe,true⟩ (.slice Bd e.disk.length dd) (.slice Bm e.disk.length dm) (.slice Bl n dl) = W8:=⟨_,rfl⟩
   rw [hW8] at hy2 ho2 h3 ⊢
   clear hW8
   have z0:=hy2.c0
   have z1:=hy2.c1
   have z2:=hy2.c2
   have z3:=hy2.c3
   have z4:=hy2.c4
   simp only at z0 z1 z2 z3 z4
   refine KF (i:=15) (by kernel_rfl) ?_
   refine BG (w1:=W8) (.bool true) rfl rfl (by rfl) (by go_simp) ?_
   refine BM (by kernel_rfl) ?_
   go_wp2
   exact bodyPost_ret (v:=.tuple #[.agg #[.slice Bd e.disk.length dd, .slice Bm e.disk.length dm, .slice Bl n dl, .int .i64 e.safe, .bool true], .bool true]) (by simp [results,Tryz.results12,go_sem,z0,z1,z2,z3,z4]) rfl ⟨_,_,_,by rw [HE.out],by rw [HE.out,HEE.out];exact ho2.lower (by omega),h3⟩
open Go.RowKit Go.Proofs.YtjeodgfkilhkhaaGreatW.PrintWords Go.Proofs.YtjeodgfkilhkhaaGreatW.PrintLast
section
variable {P : Program} {ops : Array Oper} {Q : Exit → Act → World → Prop} {md : Region.Mode} {S : Array Bool → Act → World → Prop} {m : Nat}
theorem NU {i k : Nat} {oi : Oper} {v : Value} {T : List Nat} (hm : Tail md ops m) (him : i < m) (hi : ops[i]? = some oi) (hk : Keeps S i oi.dst) (hsel : ∀ (j : Nat) (o : Oper) cs b,ops[j]? = some o → o.op ≠ .select cs b)
  (hQ : ∀ c a w,Q (.panic c) (a.put oi.dst v) w → Q (.panic c) a w) (hT : ∀ t ∈ T, ∀ o,ops[t]? = some o → ∃ e ∈ o.after,Region.binds md e = true ∧ (e.on = i ∨ e.on ∈ T)) (hkT : k ∈ T) :
  ∀ (fuel : Nat) (listed : Array Bool) (a : Act),
   (∀ j oj,ops[j]? = some oj → j ≠ i → listed.getD j true = false → (∀ e ∈ oj.after,Region.binds md e = true → e.on ≠ i) → oi.apart ops oj = true) →
   i ∈ Region.ready md ops listed → (∀ t ∈ T,listed.getD t true = false) → LF P ops (fun l a w => S l a w ∧ l.getD k true = false) oi v a →
   Kz P md ops Q S m fuel (listed.setIfInBounds i true) (a.put oi.dst v) → Kz P md ops Q S m (fuel + 1) listed a:=by
 intro fuel
 induction fuel with
 | zero =>
  intro listed a _ hr hl hy H
  refine ⟨fun h => (by rw [h] at hr;cases hr),fun j hj w hS => ?_⟩
  by_cases hji : j = i
  ·subst hji;exact hy.wpOp hi ⟨hS,hl k hkT⟩ (fun w' h' => .inl ⟨(hk _ a v w').2 h'.1,H⟩)
  ·have:=ready_mono hj hji
   rw [H.1] at this
   cases this
 | succ fuel ih =>
  intro listed a hfree hr hl hy H
  refine ⟨fun h => (by rw [h] at hr;cases hr),fun j hj w hS => ?_⟩
  by_cases hji : j = i
  ·subst hji;exact hy.wpOp hi ⟨hS,hl k hkT⟩ (fun w' h' => .inl ⟨(hk _ a v w').2 h'.1,H⟩)
  ·have hjm : j < m:=Nat.lt_of_not_le fun e => hm listed j e hj i hr him
   have h1:=H.2 j (ready_mono hj hji) w ((hk _ a v w).2 hS)
   obtain ⟨hjun,oj,hoj,hall⟩:=mem_ready.1 hj
   have hun : ∀ t,listed.getD t true = false → ∀ e ∈ oj.after,Region.binds md e = true → e.on ≠ t:=fun t h0 e he hb heq => by
    have h1:=hall e he hb
    rw [heq] at h1
    rcases Nat.lt_or_ge t listed.size with h' | h'
    ·simp [h'] at h0 h1;rw [h0] at h1;cases h1
    ·simp [Array.getElem?_eq_none h'] at h1
   have hnot:=hun i (mem_ready.1 hr).1
   have hjT : j ∉ T:=fun hjT => by
    obtain ⟨e,he,hb,h2⟩:=hT j hjT oj hoj
    rcases h2 with h2 | h2
    ·exact hnot e he hb h2
    ·exact hun e.on (hl _ h2) e he hb rfl
   have h2:=Oh hoj (hfree j oj hoj hji hjun hnot) (fun cs b => hsel i oi cs b hi) (fun cs b => hsel j oj cs b hoj) hQ hy h1
   have hfree' : ∀ k ok,ops[k]? = some ok → k ≠ i → (listed.setIfInBounds j true).getD k true = false →
     (∀ e ∈ ok.after,Region.binds md e = true → e.on ≠ i) → oi.apart ops ok = true:=fun k ok hk hki hun hno => by
    refine hfree k ok hk hki ?_ hno
    by_cases hjk : j = k
    ·subst hjk;exact hjun
    ·rw [getD_set_ne true hjk] at hun;exact hun
   have hl' : ∀ t ∈ T,(listed.setIfInBounds j true).getD t true = false:=fun t ht => by
    have hne : j ≠ t:=fun e => hjT (e ▸ ht)
    rw [getD_set_ne true hne]
    exact hl t ht
   refine wpOp_mono (fun a' w' h3 => ?_) h2
   rcases h3.2 with h4 | h4
   ·rw [Array.setIfInBounds_comm _ _ (Ne.symm hji)] at h4
    exact .inl ⟨(hk _ a' v w').1 h4.1,ih (listed.setIfInBounds j true) a' hfree' (ready_mono hr (Ne.symm hji)) hl' h3.1 h4.2⟩
   ·exact absurd h4.1 (by omega)
def SV (ops : Array Oper) (i k : Nat) : List Nat:=(List.range (k + 1)).foldl (fun T j => match ops[j]? with
 | none => T
 | some o => if (o.after.any fun e => Region.binds .any e && (e.on == i || T.contains e.on)) = true then j :: T else T) []
def RN (ops : Array Oper) (done : List Nat) (i k : Nat) : Bool:=(SV ops i k).contains k && (SV ops i k).all fun t => decide (t < ops.size) && (!done.contains t) && match ops[t]? with
 | none => false
 | some o => o.after.any fun e => Region.binds .any e && (e.on == i || (SV ops i k).contains e.on)
variable {i d : Nat} {o : Oper} {v : Value} {L : List Value} {D : List Deferred} {done : List Nat}
theorem UI (k : Nat) (ht : A7 (IG ops m = true)) (hi : ops.toList[i]? = some o) (hok : Fj ops m done i = true) (hlate : RN ops done i k = true) (hd : o.dst = some d) (hk : Keeps S i (some d)) (hw : Region.wanted o (yielded ops L.toArray) = true)
  (hQ : ∀ c a w,Q (.panic c) (a.put o.dst v) w → Q (.panic c) a w) (hr : ∀ l a w,l.getD k false = false → S l a w → (execOp (Act.eval ⟨L.toArray,D⟩) o).run P w = .ok (.value v) w) (h : Reg P ops Q S m (i :: done) ⟨(L.set d v).toArray,D⟩) : Reg P ops Q S m done ⟨L.toArray,D⟩:=by
 refine ⟨?_⟩
 have hi' : ops[i]? = some o:=by rw [← Array.getElem?_toList];exact hi
 simp only [Fj,Bool.and_eq_true,decide_eq_true_eq] at hok
 obtain ⟨⟨⟨hf,hr0⟩,hl⟩,hm⟩:=hok
 simp only [RN,Bool.and_eq_true,List.contains_iff_mem,List.all_eq_true] at hlate
 obtain ⟨hkT,hall⟩:=hlate
 have hs:=(Bool.and_eq_true_iff.1 ht.out).1
 have h1:=h.out
 rw [List.length_cons, ← J7] at h1
 rw [show ops.size - done.length = (ops.size - (done.length + 1)) + 1 by omega]
 refine NU (T:=SV ops i k) (k:=k) (v:=v) (Nb ht.out) hm hi' (by rw [hd];exact hk) (Region.noSelect_spec hs) hQ (fun t h2 o2 ho2 => ?_) hkT _ _ _ (Region.free_spec hi' hf) (by simpa using hr0) (fun t h2 => ?_) (.inl ⟨hw,fun l a w hS => ?_⟩) (by rw [hd,Ck];exact h1)
 ·have h3:=hall t h2
  rw [ho2] at h3
  obtain ⟨e,he,h4⟩:=Array.any_eq_true'.1 h3.2
  simp only [Bool.and_eq_true,Bool.or_eq_true,beq_iff_eq,List.contains_iff_mem] at h4
  exact ⟨e,he,h4.1,h4.2⟩
 ·have h3:=hall t h2
  have h5 : t < ops.size:=by simpa using h3.1.1
  have h6 : t ∉ done:=by simpa using h3.1.2
  simp [lsd,Array.getD,h5,h6]
 ·have hkf : l.getD k false = false:=by
   have h3:=hS.2
   rcases Nat.lt_or_ge k l.size with h' | h'
   ·simp [Array.getD,h'] at h3 ⊢;exact h3
   ·simp [Array.getD,Nat.not_lt.2 h'] at h3
  rw [hr l a w hkf hS.1]
  exact ⟨rfl,hS⟩
theorem IY (k : Nat) {is : List Nat} (ht : A7 (IG ops m = true)) (hi : ops.toList[i]? = some o) (hok : Fj ops m done i = true) (hlate : RN ops done i k = true) (hd : o.dst = some d) (hk : Keeps S i (some d)) (hw : Region.wanted o (yielded ops L.toArray) = true)
  (hQ : ∀ c a w,Q (.panic c) (a.put o.dst v) w → Q (.panic c) a w) (hr : ∀ l a w,l.getD k false = false → S l a w → (execOp (Act.eval ⟨L.toArray,D⟩) o).run P w = .ok (.value v) w) (h : Uo is (Reg P ops Q S m (i :: done) ⟨(L.set d v).toArray,D⟩)) : Uo (i :: is) (Reg P ops Q S m done ⟨L.toArray,D⟩):=
 UI k ht hi hok hlate hd hk hw hQ hr h
end
end Go.Proofs.YtjeodgfkilhkhaaGreat
namespace Go.Proofs.YtjeodgfkilhkhaaGreat
open Go.RowKit Go.Proofs.YtjeodgfkilhkhaaGreatW.PrintWords Go.Proofs.YtjeodgfkilhkhaaGreatW.PrintLast Go.Proofs.YtjeodgfkilhkhaaGreatW.PrintMore
def KU (w : World) (g : Nat) (v : Value) (t : Nat) : Prop:=w.heap[g]? = some (.cells #[v] t (0,0))
theorem KU.c0 {w : World} {g t : Nat} {v : Value} (h : KU w g v t) : w.cell? ⟨g,0,none⟩ = some v:=by unfold KU at h;simp [World.cell?,h]
theorem KU.frz {w : World} {g t : Nat} {v : Value} (h : KU w g v t) (k : Nat) : w.frozen? ⟨g,k,none⟩ = false:=by unfold KU at h;simp [World.frozen?,h]
theorem KU.lt {w : World} {g t : Nat} {v : Value} (h : KU w g v t) : g < w.heap.size:=(Array.getElem?_eq_some_iff.1 h).1
theorem KU.up {w w1 : World} {g t : Nat} {v : Value} (h : KU w g v t) (hb : Below w.heap.size w w1) : KU w1 g v t:=(hb.block g h.lt).trans h
theorem KU.mk1 (w : World) (v : Value) (t : Nat) : KU (w.alloc (.cells #[v] t)) w.heap.size v t:=by
 show (w.heap.push _)[w.heap.size]? = _
 simp
theorem Yr {P : Program} {ops : Array Oper} {l : List Oper} {Q : Exit → Act → World → Prop} {a : Act} {w : World} {t : Nat} (v : Value) (h : ∀ w1,Below w.heap.size w w1 → w1.heap.size = w.heap.size + 1 → KU w1 w.heap.size v t → wpList P ops Q l a w1) : wpList P ops Q l a (w.alloc (.cells #[v] t)):=h _ ((Below.refl _ _).alloc (Nat.le_refl _) _) (BD _ _) (KU.mk1 _ _ _)
def Ys (i : Nat) (p : World → Prop) (l : Array Bool) (_a : Act) (w : World) : Prop:=l.getD i false = true → p w
theorem Gx {j i : Nat} {d : Option Nat} {p : World → Prop} (h : (j == i) = false) : Keeps (Ys i p) j d:=fun l a v w => by
 have h : j ≠ i:=by simpa using h
 rw [Ys,Ys,getD_set_ne false h]
theorem KV {n i : Nat} {p : World → Prop} {a : Act} {w : World} : Ys i p (lsd n []) a w:=fun h => by
 rw [K9] at h
 simp [Array.getD] at h
theorem GD {w : World} {g gm b : Nat} {q : Eng} {ud um ul : Value} {ok : Nat → Prop} {n cap : Nat} {ps : List Page} (h : Ab w g q ud um ul) (hp : Ci w b ok (.slice (some ⟨gm,0,none⟩) n cap) ps) : g ≠ gm:=fun e => by
 obtain ⟨cells,hc⟩:=Kd.FY hp gm (by simp [Value.ownBlock])
 have h1 : w.heap[g]? = _:=h
 rw [e,hc] at h1
 injection h1 with h1
 injection h1 with _ h2
 exact absurd h2 (by decide)
theorem Aw.RG {w w1 : World} {base N : Nat} {vd vl u : Value} {e : Eng} {q : Page} {p g n cap : Nat} {okd okm : Nat → Prop} (hap : ∀ k,okd k → okm k → False) (hd : Ci w base (fun k => okd k ∧ k < N) vd e.disk) (hl : OwnRs w base vl e.log) (hu : AA w N u q.vals)
  (hm : Ci w1 base (fun k => okm k ∨ some k = u.ownBlock) (.slice (some ⟨g,0,none⟩) n cap) (e.mem.set p q)) (hmg : okm g) (hg : w.grownBy w1 (some g)) (hty : ∃ cells,w.heap[g]? = some (.cells cells 47 (0,0))) : Aw w1 base vd (.slice (some ⟨g,0,none⟩) n cap) vl { e with mem:=e.mem.set p q }:=by
 refine ⟨⟨fun k => okd k ∧ k < N,fun k => okm k ∨ some k = u.ownBlock,fun k h1 h2 => ?_,Kd.Tn hd hg (fun k hk e2 => ?_),hm⟩,?_⟩
 ·rcases h2 with h2 | h2
  ·exact hap k h1.1 h2
  ·have:=BN hu k h2.symm;omega
 ·injection e2 with e2
  subst e2
  exact hap k hk.1 hmg
 ·refine Kd.DZ (Kd.PI (e':=47) (v:=.slice (some ⟨g,0,none⟩) n cap) hl (fun k hk => ?_) (fun q hq => ?_) hg) (fun _ _ => trivial)
  ·simp only [Value.ownBlock,Option.some.injEq] at hk
   subst hk
   exact hty
  ·have : q = 43:=by simpa [kRec,Kd.iso,Kd.pair,Kd.int,Kd.scalar] using hq
   rw [this];decide
theorem TY {w : World} {b g : Nat} {v u : Value} {xs : List Int} {p : Page} (h : AA w b v xs) (hp : AU w g p u) : ∀ k,v.ownBlock = some k → k ≠ g:=fun k hk e => by
 obtain ⟨cells,hc⟩:=Co h k hk
 have h1 : w.heap[g]? = _:=hp
 rw [← e,hc] at h1
 injection h1 with h1
 injection h1 with _ h2
 exact absurd h2 (by decide)
theorem AA.YC {w : World} {b g : Nat} {v : Value} {xs : List Int} (h : AA w b v xs) (hg : ∀ k,v.ownBlock = some k → k ≠ g) (p : Page) (u : Value) : AA (Go.Proofs.YtjeodgfkilhkhaaGreat.CK w g p u) b v xs:=((h.far hg _ _).far hg _ _).far hg _ _
set_option maxRecDepth 100000 in
set_option maxHeartbeats 16000000 in
theorem R4 {w0 w : World} {g : Nat} {e : Eng} (r : Rec) (hl : e.log.length + 1 ≤ 150) (hgm : geo e.mem) (hp : 0 ≤ r.page ∧ r.page < 5) (hdo : IK (pg e.mem r.page.toNat) (Ey r (Ae e.log r.tx e.log.length)) (e.log.length + 1 : Nat) = true) (h : JZ w0 w g e) : Calls Tryz.prog 88 #[ptr g,r.val] w (X3 w0 g (e.app r)):=by
 obtain ⟨⟨vd,vm,vl,hq,ho⟩,hb,hg⟩:=h
 obtain ⟨p,hpp⟩ : ∃ p : Nat,r.page = (p : Int):=⟨r.page.toNat,by omega⟩
 obtain ⟨r1,hr1⟩ : ∃ r1,Ey r (Ae e.log r.tx e.log.length) = r1:=⟨_,rfl⟩
 rw [hr1,hpp,Int.toNat_natCast] at hdo
 have hp5 : p < 5:=by omega
 obtain ⟨q,hqq⟩ : ∃ q,doR (pg e.mem p) r1 (e.log.length + 1 : Nat) = q:=⟨_,rfl⟩
 obtain ⟨l1,hl1⟩ : ∃ l1,e.log ++ [r1] = l1:=⟨_,rfl⟩
 have hll : l1.length = e.log.length + 1:=by rw [← hl1];simp
 have hrc : rc l1 e.log.length = r1:=by rw [← hl1];simp [rc,List.getD_eq_getElem?_getD]
 have hchg : Cu r.kind = true:=by
  simp only [IK,Bool.and_eq_true] at hdo
  have:=hdo.2.2.1
  rw [← hr1] at this
  exact this
 have hE : e.app r = { e with mem:=e.mem.set p q,log:=l1 }:=by
  unfold Eng.app
  rw [if_pos hchg,show r.page.toNat = p by omega, ← hqq, ← hl1, ← hr1]
  rfl
 have HE:=As hE
 have HDO:=As hdo
 have HL:=As hl
 have HG:=As hg
 have HGM:=As hgm
 have HQQ:=As hqq
 have HRC:=As hrc
 have HLL:=As hll
 have HL1:=As hl1
 have HR1:=As hr1
 have HPP:=As hpp
 obtain ⟨w1,hw1⟩ : ∃ w1,w.alloc r.box = w1:=⟨_,rfl⟩
 have hb1 : Below w.heap.size w w1:=by rw [← hw1];exact Aa (Below.refl _ _) _
 have HW1:=As hw1
 have HRB1 : A7 (Cg w1 w.heap.size r):=⟨by rw [← hw1];exact Cg.mk1 _ _⟩
 have HO1:=As (ho.below hb1)
 have HQ1:=As (hq.up hb1)
 have HB1:=As (bj hb hb1)
 have HGL:=As hq.lt
 have HVL:=As (fun k hk => Kd.Uq ho.l k hk)
 have HBS:=As hb.size
 have r0:=HRB1.out.at.c0
 clear hdo hl hg hgm hqq hl1 hr1 hrc hll hchg hE hw1 hb1 hq ho hb hpp
 go_enter Tryz.func88,Tryz.ntmps88
 go_wp2_with (go_at_call 90;go_loud (rw [HW1.out]);go_loud (refine (OH r (by have:=HL.out;omega) HB1.out HG.out HQ1.out HO1.out).mono ?_);go_loud (rw [HR1.out]);go_loud (rw [HL1.out]);rintro x w2 ⟨vl2,rfl,hq2,ho2,hb2,hk2⟩;have HQ2:=As hq2;have HO2:=As ho2;have HB2:=As hb2;have HRB2 : A7 (Cg w2 w.heap.size r):=⟨(hk2.2 _ HRB1.out.lt (fun hx => hx.elim (fun hx => by have:=HGL.out;omega) (fun hx => by have:=HVL.out _ hx.symm;omega))).trans HRB1.out⟩;clear hq2 ho2 hb2 hk2)
 have hgm5:=HGM.out.1
 obtain ⟨Ad,cd,Am,cm,Al,cl,hvd,hvm,hvl, -,hrd⟩:=HO2.out.reads
 obtain ⟨okd,okm,hap,hpd,hpm⟩:=HO2.out.ex
 obtain ⟨gm,capm,hfm, -,hgml⟩:=D9 hpm (by show 0 < e.mem.length;omega)
 subst hvd hvl hfm
 have hpl : p < e.mem.length:=by omega
 have hp5i : (p : Int) < 5:=by omega
 have hl1l : e.log.length < l1.length:=by have:=HLL.out;omega
 obtain ⟨A2,c2,p0,p1,p2,pC, -⟩:=F4 hpm p hpl
 obtain ⟨adl,hal,QR⟩:=Cs hrd.l e.log.length hl1l
 subst hal
 rw [HRC.out] at QR
 obtain ⟨l0,l1',l2,l3,l4,l5,l6,l7⟩:=QR
 have x1:=HQ2.out.c1
 have x2:=HQ2.out.c2
 have z2:=HRB2.out.at.c2
 simp only [Nat.zero_add] at z2
 rw [HPP.out] at z2
 have HPC:=As pC
 have HPD:=As hpd
 have HPM:=As hpm
 have HAP:=As hap
 have HRD:=As hrd.l
 have hl0:=HL.out
 have hwr0 : IntKind.i64.wrap (e.log.length : Int) = (e.log.length : Int):=by simp (disch:=omega) only [IntWalk.i64_in]
 have hwr1 : IntKind.i64.wrap ((e.log.length : Int) + 1 - 1) = (e.log.length : Int):=by rw [show ((e.log.length : Int) + 1 - 1) = (e.log.length : Int) by omega];exact hwr0
 have HGM2 : A7 (gm < w2.heap.size):=⟨hgml⟩
 clear hvm pC hpd hpm hap hrd hgml hp
 have HCR : A7 (∀ wx,Below w2.heap.size w2 wx → Calls Tryz.prog 120 #[(pg e.mem p).val A2 c2,r1.val, .int .i64 ((e.log.length : Int) + 1)] wx (WY wx q)):=⟨fun wx hb => by
  have:=Ra (c:=c2) (n:=(e.log.length : Int) + 1) (by have:=HDO.out;simpa using this) hb HPC.out
  rwa [show doR (pg e.mem p) r1 ((e.log.length : Int) + 1) = q by have:=HQQ.out;simpa using this] at this⟩
 refine Bo (fun lx a wx => Below w2.heap.size w2 wx ∧ (Sl 17 28 (fun v wx => ∃ u,v = .tuple #[q.own u, .bool true] ∧ AA wx w2.heap.size u q.vals) lx a wx ∧ (Pre 22 21 5 (fun _ => True) (fun v wx => ∃ B,v = ptr B ∧ w2.heap.size ≤ B ∧ AU wx B zp (.slice none 0 0)) lx a wx ∧ Sl 22 5 (fun v wx => ∃ B u,v = ptr B ∧ w2.heap.size ≤ B ∧ AU wx B q u ∧ AA wx w2.heap.size u q.vals) lx a wx))) 24 rfl (by kernel_rfl) (⟨Ac (Below.refl _ _),Bp,FE trivial,Bp⟩) (fun HT => ?_)
 refine Bw [0,1,2,3,4,5,6,7,8,9,10,11,12,13,14,15,16] ?_
 iterate 17 (refine Bq (v:=?_) HT rfl (by kernel_rfl) rfl (kA Ah (kA (Ak rfl rfl) (kA (Cf rfl rfl rfl) (Ak rfl rfl)))) (by rfl) (fun _ _ _ h => h) (fun lx ax wx hS => ?_) ?_;rotate_left;(have hbx:=hS.1;clear hS;replace x1:=bc hbx x1;replace x2:=bc hbx x2;replace z2:=bc hbx z2;replace p0:=bc hbx p0;replace p1:=bc hbx p1;replace p2:=bc hbx p2;replace l0:=bc hbx l0;replace l1':=bc hbx l1';replace l2:=bc hbx l2;replace l3:=bc hbx l3;replace l4:=bc hbx l4;replace l5:=bc hbx l5;replace l6:=bc hbx l6;replace l7:=bc hbx l7;go_simp;with_reducible rfl);rotate_left;simp only [sc0,sc1])
 refine Bv ?_
 apply reg_later2
 ·intro hrest
  refine AJ [17,21] (by kernel_rfl) (fun i hi wx hS => ?_)
  rcases List.mem_cons.1 hi with rfl | hi
  ·clear hi
   refine Cz (f:=120) (args:=#[(pg e.mem p).val A2 c2,r1.val, .int .i64 ((e.log.length : Int) + 1)]) rfl rfl Tryz.func120 (by kernel_rfl) rfl rfl (by rfl) (by simp only [List.map_toArray,List.map_cons,List.map_nil];rfl) ((HCR.out wx hS.1).mono ?_)
   rintro x w6 ⟨u,rfl,ho,hb⟩
   refine ⟨_,rfl,⟨bj hS.1 hb,fun _ => ⟨u,rfl,ho.lower hS.1.size⟩,fun _ => ⟨trivial,fun h => (Ao h (by kernel_rfl)).elim⟩,fun h => (Ao h (by kernel_rfl)).elim⟩,?_⟩
   clear hS ho hb
   simp only [sc0,sc1]
   refine Bw [18,19,20] ?_
   iterate 3 (refine Bq (v:=?_) HT rfl (by kernel_rfl) rfl (kA Ah (kA (Ak rfl rfl) (kA (Cf rfl rfl rfl) (Ak rfl rfl)))) (by rfl) (fun _ _ _ h => h) (fun lx ax wx hS => ?_) ?_;rotate_left;(go_simp;with_reducible rfl);rotate_left;simp only [sc0,sc1])
   refine Bv ?_
   refine AJ [21] (by kernel_rfl) (fun i hi wx hS => ?_)
   obtain rfl:=List.mem_singleton.1 hi
   clear hi
   refine BG (w1:=wx.alloc CX) (ptr wx.heap.size) rfl rfl (by rfl) (by go_simp) ?_
   refine ⟨⟨bj hS.1 (Aa (Below.refl _ _) _),fun _ => (hS.2.1 (by kernel_rfl)).elim fun u hu => ⟨u,hu.1,hu.2.below (Aa (Below.refl _ _) _)⟩,fun _ => ⟨trivial,fun _ => ⟨wx.heap.size,rfl,hS.1.size,AU.mk1 wx zp _⟩⟩,fun h => (Ao h (by kernel_rfl)).elim⟩,?_⟩
   obtain ⟨B,hB⟩ : ∃ B,wx.heap.size = B:=⟨_,rfl⟩
   rw [hB]
   clear hB hS
   simp only [sc0,sc1]
   exact ED (done := [21,20,19,18,17,16,15,14,13,12,11,10,9,8,7,6,5,4,3,2,1,0]) (by kernel_rfl) (hrest u B)
  ·obtain rfl:=List.mem_singleton.1 hi
   clear hi
   refine BG (w1:=wx.alloc CX) (ptr wx.heap.size) rfl rfl (by rfl) (by go_simp) ?_
   refine ⟨⟨bj hS.1 (Aa (Below.refl _ _) _),fun h => (Ao h (by kernel_rfl)).elim,fun _ => ⟨trivial,fun _ => ⟨wx.heap.size,rfl,hS.1.size,AU.mk1 wx zp _⟩⟩,fun h => (Ao h (by kernel_rfl)).elim⟩,?_⟩
   obtain ⟨B,hB⟩ : ∃ B,wx.heap.size = B:=⟨_,rfl⟩
   rw [hB]
   clear hB hS
   simp only [sc0,sc1]
   refine AJ [17] (by kernel_rfl) (fun i hi wx hS => ?_)
   obtain rfl:=List.mem_singleton.1 hi
   clear hi
   refine Cz (f:=120) (args:=#[(pg e.mem p).val A2 c2,r1.val, .int .i64 ((e.log.length : Int) + 1)]) rfl rfl Tryz.func120 (by kernel_rfl) rfl rfl (by rfl) (by simp only [List.map_toArray,List.map_cons,List.map_nil];rfl) ((HCR.out wx hS.1).mono ?_)
   rintro x w6 ⟨u,rfl,ho,hb⟩
   refine ⟨_,rfl,⟨bj hS.1 hb,fun _ => ⟨u,rfl,ho.lower hS.1.size⟩,fun _ => ⟨trivial,fun _ => ((hS.2.2.1 (by kernel_rfl)).2 (by kernel_rfl)).elim fun B' hB' => ⟨B',hB'.1,hB'.2.1,hB'.2.2.up hb⟩⟩,fun h => (Ao h (by kernel_rfl)).elim⟩,?_⟩
   clear hS ho hb
   simp only [sc0,sc1]
   refine Bw [18,19,20] ?_
   iterate 3 (refine Bq (v:=?_) HT rfl (by kernel_rfl) rfl (kA Ah (kA (Ak rfl rfl) (kA (Cf rfl rfl rfl) (Ak rfl rfl)))) (by rfl) (fun _ _ _ h => h) (fun lx ax wx hS => ?_) ?_;rotate_left;(go_simp;with_reducible rfl);rotate_left;simp only [sc0,sc1])
   refine Bv ?_
   exact ED (done := [21,20,19,18,17,16,15,14,13,12,11,10,9,8,7,6,5,4,3,2,1,0]) (by kernel_rfl) (hrest u B)
 intro u B
 refine AJ [22] (by kernel_rfl) (fun i hi wx hS => ?_)
 obtain rfl:=List.mem_singleton.1 hi
 clear hi
 obtain ⟨h1,h2,h3, -⟩:=hS
 obtain ⟨u1,hu1,hown⟩:=h2 (by kernel_rfl)
 have hu1 : Value.tuple #[q.own u, .bool true] = .tuple #[q.own u1, .bool true]:=hu1
 obtain rfl : u = u1:=by simpa using hu1
 obtain ⟨B',hB',hN,hP⟩:=(h3 (by kernel_rfl)).2 (by kernel_rfl)
 have hB' : ptr B = ptr B':=hB'
 obtain rfl : B = B':=by simpa using hB'
 obtain ⟨A1,c1,rfl, -, -⟩:=hown.reads
 have y0:=hP.c0
 have y1:=hP.c1
 have y2:=hP.c2
 have f0:=hP.frz 0
 have f1:=hP.frz 1
 have f2:=hP.frz 2
 refine BH (w1:=Go.Proofs.YtjeodgfkilhkhaaGreat.CK wx B q (.slice A1 q.vals.length c1)) rfl (by rfl) (by go_simp) ?_
 have hP5:=hP.CK q (.slice A1 q.vals.length c1)
 have ho5:=hown.YC (TY hown hP) q (.slice A1 q.vals.length c1)
 have hb5 : Below w2.heap.size w2 (Go.Proofs.YtjeodgfkilhkhaaGreat.CK wx B q (.slice A1 q.vals.length c1)):=CR h1 hN q (.slice A1 q.vals.length c1)
 refine ⟨⟨hb5,fun _ => ⟨_,rfl,ho5⟩,fun h => (Ao (by kernel_rfl) h).elim,fun _ => ⟨B,_,rfl,hN,hP5,ho5⟩⟩,?_⟩
 clear h1 h2 h3 hu1 hown hB' hN hP f0 f1 f2 hP5 ho5 hb5 y0 y1 y2
 refine CZ (i:=23) (v:=?_) HT rfl (by kernel_rfl) rfl (kA Ah (kA (Ak rfl rfl) (kA (Cf rfl rfl rfl) (Ak rfl rfl)))) (by rfl) (fun _ _ _ h => h) (fun lx ax wx hS => ?_) ?_
 rotate_left
 ·go_simp
  with_reducible rfl
 rotate_left
 simp only [sc0,sc1]
 refine GU (by kernel_rfl) (fun w5 hS => ?_)
 obtain ⟨hb5, -, -,h4⟩:=hS
 obtain ⟨B',u',hB',hN,hP5,ho5⟩:=h4 (by kernel_rfl)
 have hB' : ptr B = ptr B':=hB'
 obtain rfl : B = B':=by simpa using hB'
 have HB5:=As hb5
 obtain ⟨A5,c5,rfl, -, -⟩:=ho5.reads
 have HO5:=As ho5
 have y0:=hP5.c0
 have y1:=hP5.c1
 have y2:=hP5.c2
 replace x1:=bc hb5 x1
 replace z2:=bc hb5 z2
 clear hB' hN hP5 ho5 hb5 h4 x2 p0 p1 p2 l0 l1' l2 l3 l4 l5 l6 l7
 go_wp2
 refine Bo (fun lx a wx => Below w5.heap.size w5 wx) 8 rfl (by kernel_rfl) (Ac (Below.refl _ _)) (fun HT => ?_)
 refine Bw [0,1,2,3,4,5,6,7] ?_
 iterate 8 (refine Bq (v:=?_) HT rfl (by kernel_rfl) rfl (Ah) (by rfl) (fun _ _ _ h => h) (fun lx ax wx hS => ?_) ?_;rotate_left;(replace x1:=bc hS x1;replace z2:=bc hS z2;replace y0:=bc hS y0;replace y1:=bc hS y1;replace y2:=bc hS y2;go_simp;with_reducible rfl);rotate_left;simp only [sc0,sc1])
 refine Bv ?_
 refine Cb (i:=8) (by kernel_rfl) rfl (fun wx hS => ?_)
 have h5x:=bj HB5.out hS
 refine FC (ok:=okm) (w0:=w0) (N:=w2.heap.size) (q:=q) p rfl (.tmp 39) (.tmp 38) rfl (by rfl) rfl rfl rfl (HO5.out.below hS) HB2.out.size (Kd.Fe HPM.out h5x) hpl (bj HB2.out h5x) (fun w8 hO8 hB8 hg8 => ?_)
 refine BM (by kernel_rfl) ?_
 have hd8:=Kd.Fe HPD.out h5x
 have hty:=Kd.FY (Kd.Bg HPM.out h5x) gm (by simp [Value.ownBlock])
 have he8:=Aw.RG (e:={ e with log:=l1 }) HAP.out hd8 (Kd.C8 HO2.out.l h5x) (HO5.out.below hS) hO8 (Kr HPM.out gm (by simp [Value.ownBlock])) hg8 hty
 have hq8 : Ab w8 g { e with mem:=e.mem.set p q,log:=l1 } (.slice Ad e.disk.length cd) (.slice (some ⟨gm,0,none⟩) e.mem.length capm) (.slice (some adl) l1.length cl):=(hg8.block g (by have:=HQ2.out.lt;have:=h5x.size;omega) (fun e2 => by injection e2 with e2;exact GD HQ2.out HPM.out e2)).trans (HQ2.out.up h5x)
 have HX8:=As (And.intro hB8 (And.intro he8 hq8))
 clear hS h5x hO8 hB8 hg8 hd8 hty he8 hq8 x1 z2 y0 y1 y2
 go_wp2
 exact bodyPost_ret (v:=.tuple #[]) (by simp [results,Tryz.results88,go_sem]) rfl ⟨⟨_,rfl⟩,by rw [HE.out];exact ⟨⟨_,_,_,HX8.out.2.2,HX8.out.2.1⟩,HX8.out.1,HG.out⟩⟩
end Go.Proofs.YtjeodgfkilhkhaaGreat
