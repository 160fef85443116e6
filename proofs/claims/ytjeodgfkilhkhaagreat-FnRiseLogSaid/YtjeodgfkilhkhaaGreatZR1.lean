/- A part of the proof: what the last text of the claim says leans on this one. -/
import Derived.Test.YtjeodgfkilhkhaaGreatZQ1
import Derived.Test.YtjeodgfkilhkhaaGreatZV1
set_option linter.unusedVariables false
set_option linter.unusedSimpArgs false
namespace Go.Proofs.YtjeodgfkilhkhaaGreat
open Go.RowKit Go.Proofs.YtjeodgfkilhkhaaGreatW.PrintWords Go.Proofs.YtjeodgfkilhkhaaGreatW.PrintLast Go.Proofs.YtjeodgfkilhkhaaGreatW.PrintMore
abbrev Xi : Rec:=⟨0,0,0,0,0,0,0,0⟩
theorem VS {w : World} {b j : Nat} (hj : j < 8) (x : Int) (h : ∃ r,Cg w b r) : ∃ r,Cg (w.setCell ⟨b,j,none⟩ (.int .i64 x)) b r:=by
 obtain ⟨r,h⟩:=h
 match j,hj with
 | 0,_ => exact ⟨{ r with kind:=x },heap_setCell_same h _⟩
 | 1,_ => exact ⟨{ r with tx:=x },heap_setCell_same h _⟩
 | 2,_ => exact ⟨{ r with page:=x },heap_setCell_same h _⟩
 | 3,_ => exact ⟨{ r with slot:=x },heap_setCell_same h _⟩
 | 4,_ => exact ⟨{ r with old:=x },heap_setCell_same h _⟩
 | 5,_ => exact ⟨{ r with new:=x },heap_setCell_same h _⟩
 | 6,_ => exact ⟨{ r with prev:=x },heap_setCell_same h _⟩
 | 7,_ => exact ⟨{ r with next:=x },heap_setCell_same h _⟩
theorem Cg.farX {w : World} {g b : Nat} {r : Rec} (h : Cg w g r) (hne : b ≠ g) (j : Nat) (u : Value) : Cg (w.setCell ⟨b,j,none⟩ u) g r:=(Below.heap_setCell w ⟨b,j,none⟩ u g (Ne.symm hne)).trans h
theorem Cg.cells {w : World} {g : Nat} {r : Rec} (h : Cg w g r) : w.cell? ⟨g,0,none⟩ = some (.int .i64 r.kind) ∧ w.cell? ⟨g,1,none⟩ = some (.int .i64 r.tx) ∧ w.cell? ⟨g,2,none⟩ = some (.int .i64 r.page) ∧ w.cell? ⟨g,3,none⟩ = some (.int .i64 r.slot) ∧ w.cell? ⟨g,4,none⟩ = some (.int .i64 r.old) ∧ w.cell? ⟨g,5,none⟩ = some (.int .i64 r.new) ∧ w.cell? ⟨g,6,none⟩ = some (.int .i64 r.prev) ∧ w.cell? ⟨g,7,none⟩ = some (.int .i64 r.next):=by
 unfold Cg at h
 simp [World.cell?,h]
theorem Xk {P : Program} {ops : Array Oper} {l : List Oper} {Q : Exit → Act → World → Prop} {act : Act} {W : World} (a b c d e f g h : Int) (hw : ∀ w1,Below W.heap.size W w1 → w1.heap.size = W.heap.size + 1 → Cg w1 W.heap.size ⟨a,b,c,d,e,f,g,h⟩ → wpList P ops Q l act w1) : wpList P ops Q l act (W.alloc (.cells #[.int .i64 a, .int .i64 b, .int .i64 c, .int .i64 d, .int .i64 e, .int .i64 f, .int .i64 g, .int .i64 h] 43)):=
 hw _ (Aa (Below.refl _ _) _) (BD _ _) (Cg.mk1 W ⟨a,b,c,d,e,f,g,h⟩)
abbrev Xo (w : World) (g : Nat) (r : Rec) : World:=(((((((w.setCell ⟨g,0,none⟩ (.int .i64 r.kind)).setCell ⟨g,1,none⟩ (.int .i64 r.tx)).setCell ⟨g,2,none⟩ (.int .i64 r.page)).setCell ⟨g,3,none⟩ (.int .i64 r.slot)).setCell ⟨g,4,none⟩ (.int .i64 r.old)).setCell ⟨g,5,none⟩ (.int .i64 r.new)).setCell ⟨g,6,none⟩ (.int .i64 r.prev)).setCell ⟨g,7,none⟩ (.int .i64 r.next)
structure Rcs (wB w wk : World) (g : Nat) (A : Option Addr) (n c : Nat) (p q : Int) (b : Nat) : Prop where
 rd : Rd wB w wk g A n c p q
 z : Cg wk w.heap.size Xi
 x : ∃ r,Cg wk b r
 hb : w.heap.size < b
section
variable {wB w wk w1 : World} {g c n b : Nat} {A : Option Addr} {xs : List Int} {p q p' q' : Int}
theorem Rcs.facts (h : Rcs wB w wk g A n c p q b) : ∃ k t a s o v r x : Int,wk.cell? ⟨b,0,none⟩ = some (.int .i64 k) ∧ wk.cell? ⟨b,1,none⟩ = some (.int .i64 t) ∧ wk.cell? ⟨b,2,none⟩ = some (.int .i64 a) ∧ wk.cell? ⟨b,3,none⟩ = some (.int .i64 s) ∧ wk.cell? ⟨b,4,none⟩ = some (.int .i64 o) ∧ wk.cell? ⟨b,5,none⟩ = some (.int .i64 v) ∧ wk.cell? ⟨b,6,none⟩ = some (.int .i64 r) ∧ wk.cell? ⟨b,7,none⟩ = some (.int .i64 x) ∧ wk.frozen? ⟨b,0,none⟩ = false ∧ wk.frozen? ⟨b,1,none⟩ = false ∧ wk.frozen? ⟨b,2,none⟩ = false ∧ wk.frozen? ⟨b,3,none⟩ = false ∧ wk.frozen? ⟨b,4,none⟩ = false ∧ wk.frozen? ⟨b,5,none⟩ = false ∧ wk.frozen? ⟨b,6,none⟩ = false ∧ wk.frozen? ⟨b,7,none⟩ = false ∧ wk.cell? ⟨w.heap.size,0,none⟩ = some (.int .i64 0) ∧ wk.cell? ⟨w.heap.size,1,none⟩ = some (.int .i64 0) ∧ wk.cell? ⟨w.heap.size,2,none⟩ = some (.int .i64 0) ∧ wk.cell? ⟨w.heap.size,3,none⟩ = some (.int .i64 0) ∧ wk.cell? ⟨w.heap.size,4,none⟩ = some (.int .i64 0) ∧ wk.cell? ⟨w.heap.size,5,none⟩ = some (.int .i64 0) ∧ wk.cell? ⟨w.heap.size,6,none⟩ = some (.int .i64 0) ∧ wk.cell? ⟨w.heap.size,7,none⟩ = some (.int .i64 0) ∧ wk.frozen? ⟨w.heap.size,0,none⟩ = false ∧ wk.frozen? ⟨w.heap.size,1,none⟩ = false ∧ wk.frozen? ⟨w.heap.size,2,none⟩ = false ∧ wk.frozen? ⟨w.heap.size,3,none⟩ = false ∧ wk.frozen? ⟨w.heap.size,4,none⟩ = false ∧ wk.frozen? ⟨w.heap.size,5,none⟩ = false ∧ wk.frozen? ⟨w.heap.size,6,none⟩ = false ∧ wk.frozen? ⟨w.heap.size,7,none⟩ = false:=by
 obtain ⟨r,hr⟩:=h.x
 obtain ⟨h0,h1,h2,h3,h4,h5,h6,h7⟩:=hr.cells
 obtain ⟨k0,k1,k2,k3,k4,k5,k6,k7⟩:=h.z.cells
 exact ⟨_,_,_,_,_,_,_,_,h0,h1,h2,h3,h4,h5,h6,h7,hr.frz 0,hr.frz 1,hr.frz 2,hr.frz 3,hr.frz 4,hr.frz 5,hr.frz 6,hr.frz 7,k0,k1,k2,k3,k4,k5,k6,k7,h.z.frz 0,h.z.frz 1,h.z.frz 2,h.z.frz 3,h.z.frz 4,h.z.frz 5,h.z.frz 6,h.z.frz 7⟩
theorem Rcs.set (h : Rcs wB w wk g A n c p q b) {j : Nat} (hj : j < 8) (x : Int) : Rcs wB w (wk.setCell ⟨b,j,none⟩ (.int .i64 x)) g A n c p q b:=by
 have hb:=h.hb
 exact ⟨h.rd.setCell (by omega) j _,h.z.farX (by omega) j _,VS hj x h.x,hb⟩
theorem Rcs.call {m : Int} (h : Rcs wB w wk g A xs.length c p q b) (hc : By wB A xs) (h0 : 0 ≤ p ∧ q ≤ 1000000) (hm : 1 ≤ m ∧ m ≤ 1000) : Calls Tryz.prog 33 #[.pointer (some ⟨g,0,none⟩), .int .i64 m] wk fun x w' => ∃ k : Nat,x = .returned (.int .i64 (k : Int)) ∧ (k : Int) < m ∧ Rcs wB w w' g A xs.length c p (q + 1) b:=by
 refine (h.rd.call hc h0 hm).mono ?_
 rintro x w' ⟨k,rfl,hk,hr,hw⟩
 have hgw:=h.rd.hgw
 have hb:=h.hb
 obtain ⟨r,hx⟩:=h.x
 exact ⟨k,rfl,hk,hr,(hw.kept.2 _ h.z.lt (by omega)).trans h.z,⟨r,(hw.kept.2 _ hx.lt (by omega)).trans hx⟩,hb⟩
theorem Rcs.ne1 (h : Rcs wB w wk g A n c p q b) : ¬ b = w.heap.size:=Nat.ne_of_gt h.hb
theorem Rcs.ne2 (h : Rcs wB w wk g A n c p q b) : ¬ w.heap.size = b:=Nat.ne_of_lt h.hb
theorem Rcs.more (h : Rcs wB w wk g A n c p q b) (h1 : p' ≤ p) (h2 : q ≤ q') : Rcs wB w wk g A n c p' q' b:=⟨h.rd.more h1 h2,h.z,h.x,h.hb⟩
end
def Y1 (w : World) (g : Nat) (A : Option Addr) (n c : Nat) (p : Int) (x : Ending) (w' : World) : Prop := ∃ r : Rec,x = .returned r.val ∧ (∃ q,p ≤ q ∧ q ≤ p + 9 ∧ BZ w' g A n c q) ∧ Wrote w w' (fun j => j = g)
theorem Rcs.done {wB w wk : World} {g c n b : Nat} {A : Option Addr} {p q : Int} (h : Rcs wB w wk g A n c p q b) (hq : q ≤ p + 9) (r : Rec) : Y1 w g A n c p (.returned r.val) (Xo wk w.heap.size r):=by
 obtain ⟨s,h1,h2,h3⟩:=h.rd.rd
 have hne : g ≠ w.heap.size:=by have:=h.rd.hgw;omega
 have hp : (fun j => j = g) w.heap.size ∨ w.heap.size ≤ w.heap.size:=.inr (Nat.le_refl _)
 exact ⟨r,rfl,⟨s,h1,by omega,(((((((h3.IQ hne _ _).IQ hne _ _).IQ hne _ _).IQ hne _ _).IQ hne _ _).IQ hne _ _).IQ hne _ _).IQ hne _ _⟩,(((((((h.rd.wr.setCell (p:=⟨w.heap.size,0,none⟩) hp _).setCell (p:=⟨w.heap.size,1,none⟩) hp _).setCell (p:=⟨w.heap.size,2,none⟩) hp _).setCell (p:=⟨w.heap.size,3,none⟩) hp _).setCell (p:=⟨w.heap.size,4,none⟩) hp _).setCell (p:=⟨w.heap.size,5,none⟩) hp _).setCell (p:=⟨w.heap.size,6,none⟩) hp _).setCell (p:=⟨w.heap.size,7,none⟩) hp _⟩
theorem Cg.s0 {w : World} {g : Nat} {r : Rec} (h : Cg w g r) (x : Int) : Cg (w.setCell ⟨g,0,none⟩ (.int .i64 x)) g { r with kind:=x }:=heap_setCell_same h _
theorem Cg.s1 {w : World} {g : Nat} {r : Rec} (h : Cg w g r) (x : Int) : Cg (w.setCell ⟨g,1,none⟩ (.int .i64 x)) g { r with tx:=x }:=heap_setCell_same h _
theorem Cg.s2 {w : World} {g : Nat} {r : Rec} (h : Cg w g r) (x : Int) : Cg (w.setCell ⟨g,2,none⟩ (.int .i64 x)) g { r with page:=x }:=heap_setCell_same h _
theorem Cg.s3 {w : World} {g : Nat} {r : Rec} (h : Cg w g r) (x : Int) : Cg (w.setCell ⟨g,3,none⟩ (.int .i64 x)) g { r with slot:=x }:=heap_setCell_same h _
theorem Cg.s4 {w : World} {g : Nat} {r : Rec} (h : Cg w g r) (x : Int) : Cg (w.setCell ⟨g,4,none⟩ (.int .i64 x)) g { r with old:=x }:=heap_setCell_same h _
theorem Cg.s5 {w : World} {g : Nat} {r : Rec} (h : Cg w g r) (x : Int) : Cg (w.setCell ⟨g,5,none⟩ (.int .i64 x)) g { r with new:=x }:=heap_setCell_same h _
theorem Cg.s6 {w : World} {g : Nat} {r : Rec} (h : Cg w g r) (x : Int) : Cg (w.setCell ⟨g,6,none⟩ (.int .i64 x)) g { r with prev:=x }:=heap_setCell_same h _
theorem Cg.s7 {w : World} {g : Nat} {r : Rec} (h : Cg w g r) (x : Int) : Cg (w.setCell ⟨g,7,none⟩ (.int .i64 x)) g { r with next:=x }:=heap_setCell_same h _
theorem Cg.Xo {w : World} {g : Nat} {q : Rec} (h : Cg w g q) (r : Rec) : Cg (Go.Proofs.YtjeodgfkilhkhaaGreat.Xo w g r) g r:=((((((((h.s0 r.kind).s1 r.tx).s2 r.page).s3 r.slot).s4 r.old).s5 r.new).s6 r.prev).s7 r.next)
set_option maxRecDepth 100000 in
set_option maxHeartbeats 16000000 in
theorem l71Rec_calls {wB w : World} {g c : Nat} {A : Option Addr} {xs : List Int} {p : Int} (hp : 0 ≤ p ∧ p ≤ 900000) (hc : By wB A xs) (hb : Below wB.heap.size wB w) (hg : wB.heap.size ≤ g) (hq : BZ w g A xs.length c p) : Calls Tryz.prog 127 #[.pointer (some ⟨g,0,none⟩)] w (Y1 w g A xs.length c p):=by
 have HP:=As hp
 have HC:=As hc
 have HR0:=As (Rd.start hb hg hq)
 have K0 : True:=trivial
 clear hp hc hb hg hq
 go_enter Tryz.func127,Tryz.ntmps127
 go_wp2_with (first | (clear K0;with_reducible refine Xk 0 0 0 0 0 0 0 0 ?_;intro w1 hb1 hz1 hq1;have HR:=As (HR0.out.below hb1);have HZ:=As hq1;have HN:=As hz1;clear hb1 hz1 hq1;have K1 : True:=trivial) | (clear K1;go_at_call 33;refine (HR.out.call HC.out (by have:=HP.out;omega) (by decide)).mono ?_;rintro x wk ⟨k1,rfl,hk_k1,hr,hw⟩;have hgw:=HR.out.hgw;have HZ:=As (show Cg wk w.heap.size Xi from (hw.kept.2 _ HZ.out.lt (by omega)).trans HZ.out);have HR:=As hr;clear hr hw hgw;have K2 : True:=trivial) | (clear K2;go_at_call 33;refine (HR.out.call HC.out (by have:=HP.out;omega) (by decide)).mono ?_;rintro x wk ⟨k2,rfl,hk_k2,hr,hw⟩;have hgw:=HR.out.hgw;have HZ:=As (show Cg wk w.heap.size Xi from (hw.kept.2 _ HZ.out.lt (by omega)).trans HZ.out);have HR:=As hr;clear hr hw hgw;have K3 : True:=trivial))
 go_at_call 33
 refine (HR.out.call HC.out (by have:=HP.out;omega) (by decide)).mono ?_
 rintro x wk ⟨k3,rfl,hk_k3,hr,hw⟩
 have hgw:=HR.out.hgw
 have HZ:=As (show Cg wk w.heap.size Xi from (hw.kept.2 _ HZ.out.lt (by omega)).trans HZ.out)
 have HR:=As hr
 clear hr hw hgw
 go_upto_block 0 with (first | (with_reducible refine Xk (1 + (k1 : Int)) (1 + (k2 : Int)) 0 0 0 0 (k3 : Int) 0 ?_;intro w2 hb2 hz2 hq2;have HS : A7 (Rcs wB w w2 g A xs.length c p (p + 1 + 1 + 1) wk.heap.size):=⟨⟨HR.out.below hb2,HZ.out.up hb2,⟨_,hq2⟩,HZ.out.lt⟩⟩;have x0:=hq2.cells.1;have hne1:=HS.out.ne1;have hne2:=HS.out.ne2;clear hb2 hz2 hq2;obtain ⟨v0,v1,v2,v3,v4,v5,v6,v7, -,x1,x2,x3,x4,x5,x6,x7,f0,f1,f2,f3,f4,f5,f6,f7, -⟩:=HS.out.facts))
 go_cut [] (fun wx => Rcs wB w wx g A xs.length c p (p + 7) wk.heap.size)
 case first =>
  have hcs : (k1 : Int) = 0 ∨ (k1 : Int) = 1 ∨ (k1 : Int) = 2 ∨ (k1 : Int) = 3 ∨ (k1 : Int) = 4 ∨ (k1 : Int) = 5:=by omega
  rcases hcs with hk | hk | hk | hk | hk | hk
  ·have m1 : (1 + (k1 : Int) == 1) = true:=(by rw [hk];rfl);have m2 : (1 + (k1 : Int) == 2) = false:=(by rw [hk];rfl);have m6 : (1 + (k1 : Int) == 6) = false:=(by rw [hk];rfl);have m3 : (1 + (k1 : Int) == 3) = false:=(by rw [hk];rfl)
   clear hk
   have L0 : True:=trivial
   go_wp2_with (first | (clear L0;go_at_call 33;refine (HS.out.call HC.out (by have:=HP.out;omega) (by decide)).mono ?_;rintro x wk ⟨k4,rfl,hk_k4,hs⟩;have HS:=As hs;clear hs;clear x0 x1 x2 x3 x4 x5 x6 x7 f0 f1 f2 f3 f4 f5 f6 f7;obtain ⟨v0,v1,v2,v3,v4,v5,v6,v7,x0,x1,x2,x3,x4,x5,x6,x7,f0,f1,f2,f3,f4,f5,f6,f7, -⟩:=HS.out.facts;have L1 : True:=trivial) | (clear L1;go_at_call 33;refine ((HS.out.set (j:=2) (by decide) _).call HC.out (by have:=HP.out;omega) (by decide)).mono ?_;rintro x wk ⟨k5,rfl,hk_k5,hs⟩;have HS:=As hs;clear hs;clear x0 x1 x2 x3 x4 x5 x6 x7 f0 f1 f2 f3 f4 f5 f6 f7;obtain ⟨v0,v1,v2,v3,v4,v5,v6,v7,x0,x1,x2,x3,x4,x5,x6,x7,f0,f1,f2,f3,f4,f5,f6,f7, -⟩:=HS.out.facts;have L2 : True:=trivial) | (clear L2;go_at_call 33;refine ((HS.out.set (j:=3) (by decide) _).call HC.out (by have:=HP.out;omega) (by decide)).mono ?_;rintro x wk ⟨k6,rfl,hk_k6,hs⟩;have HS:=As hs;clear hs;clear x0 x1 x2 x3 x4 x5 x6 x7 f0 f1 f2 f3 f4 f5 f6 f7;obtain ⟨v0,v1,v2,v3,v4,v5,v6,v7,x0,x1,x2,x3,x4,x5,x6,x7,f0,f1,f2,f3,f4,f5,f6,f7, -⟩:=HS.out.facts;have L3 : True:=trivial) | (clear L3;go_at_call 33;refine ((HS.out.set (j:=4) (by decide) _).call HC.out (by have:=HP.out;omega) (by decide)).mono ?_;rintro x wk ⟨k7,rfl,hk_k7,hs⟩;have HS:=As hs;clear hs;clear x0 x1 x2 x3 x4 x5 x6 x7 f0 f1 f2 f3 f4 f5 f6 f7;obtain ⟨v0,v1,v2,v3,v4,v5,v6,v7,x0,x1,x2,x3,x4,x5,x6,x7,f0,f1,f2,f3,f4,f5,f6,f7, -⟩:=HS.out.facts;have L4 : True:=trivial))
   go_meet
   case rel => exact (HS.out.set (j:=5) (by decide) _).more (Int.le_refl _) (by omega)
  ·have m1 : (1 + (k1 : Int) == 1) = false:=(by rw [hk];rfl);have m2 : (1 + (k1 : Int) == 2) = true:=(by rw [hk];rfl);have m6 : (1 + (k1 : Int) == 6) = false:=(by rw [hk];rfl);have m3 : (1 + (k1 : Int) == 3) = false:=(by rw [hk];rfl)
   clear hk
   have L0 : True:=trivial
   go_wp2_with (first | (clear L0;go_at_call 33;refine (HS.out.call HC.out (by have:=HP.out;omega) (by decide)).mono ?_;rintro x wk ⟨k4,rfl,hk_k4,hs⟩;have HS:=As hs;clear hs;clear x0 x1 x2 x3 x4 x5 x6 x7 f0 f1 f2 f3 f4 f5 f6 f7;obtain ⟨v0,v1,v2,v3,v4,v5,v6,v7,x0,x1,x2,x3,x4,x5,x6,x7,f0,f1,f2,f3,f4,f5,f6,f7, -⟩:=HS.out.facts;have L1 : True:=trivial) | (clear L1;go_at_call 33;refine (((HS.out.set (j:=2) (by decide) _).set (j:=3) (by decide) _).call HC.out (by have:=HP.out;omega) (by decide)).mono ?_;rintro x wk ⟨k5,rfl,hk_k5,hs⟩;have HS:=As hs;clear hs;clear x0 x1 x2 x3 x4 x5 x6 x7 f0 f1 f2 f3 f4 f5 f6 f7;obtain ⟨v0,v1,v2,v3,v4,v5,v6,v7,x0,x1,x2,x3,x4,x5,x6,x7,f0,f1,f2,f3,f4,f5,f6,f7, -⟩:=HS.out.facts;have L2 : True:=trivial) | (clear L2;go_at_call 33;refine ((HS.out.set (j:=4) (by decide) _).call HC.out (by have:=HP.out;omega) (by decide)).mono ?_;rintro x wk ⟨k6,rfl,hk_k6,hs⟩;have HS:=As hs;clear hs;clear x0 x1 x2 x3 x4 x5 x6 x7 f0 f1 f2 f3 f4 f5 f6 f7;obtain ⟨v0,v1,v2,v3,v4,v5,v6,v7,x0,x1,x2,x3,x4,x5,x6,x7,f0,f1,f2,f3,f4,f5,f6,f7, -⟩:=HS.out.facts;have L3 : True:=trivial))
   go_meet
   case rel => exact (HS.out.set (j:=5) (by decide) _).more (Int.le_refl _) (by omega)
  ·have m1 : (1 + (k1 : Int) == 1) = false:=(by rw [hk];rfl);have m2 : (1 + (k1 : Int) == 2) = false:=(by rw [hk];rfl);have m6 : (1 + (k1 : Int) == 6) = false:=(by rw [hk];rfl);have m3 : (1 + (k1 : Int) == 3) = true:=(by rw [hk];rfl)
   clear hk
   have L0 : True:=trivial
   go_wp2_with (first | (clear L0;go_at_call 33;refine (HS.out.call HC.out (by have:=HP.out;omega) (by decide)).mono ?_;rintro x wk ⟨k4,rfl,hk_k4,hs⟩;have HS:=As hs;clear hs;clear x0 x1 x2 x3 x4 x5 x6 x7 f0 f1 f2 f3 f4 f5 f6 f7;obtain ⟨v0,v1,v2,v3,v4,v5,v6,v7,x0,x1,x2,x3,x4,x5,x6,x7,f0,f1,f2,f3,f4,f5,f6,f7, -⟩:=HS.out.facts;have L1 : True:=trivial))
   go_meet
   case rel => exact (HS.out.set (j:=2) (by decide) _).more (Int.le_refl _) (by omega)
  ·have m1 : (1 + (k1 : Int) == 1) = false:=(by rw [hk];rfl);have m2 : (1 + (k1 : Int) == 2) = false:=(by rw [hk];rfl);have m6 : (1 + (k1 : Int) == 6) = false:=(by rw [hk];rfl);have m3 : (1 + (k1 : Int) == 3) = false:=(by rw [hk];rfl)
   clear hk
   go_wp2_with fail
   go_meet
   case rel => exact HS.out.more (Int.le_refl _) (by omega)
  ·have m1 : (1 + (k1 : Int) == 1) = false:=(by rw [hk];rfl);have m2 : (1 + (k1 : Int) == 2) = false:=(by rw [hk];rfl);have m6 : (1 + (k1 : Int) == 6) = false:=(by rw [hk];rfl);have m3 : (1 + (k1 : Int) == 3) = false:=(by rw [hk];rfl)
   clear hk
   go_wp2_with fail
   go_meet
   case rel => exact HS.out.more (Int.le_refl _) (by omega)
  ·have m1 : (1 + (k1 : Int) == 1) = false:=(by rw [hk];rfl);have m2 : (1 + (k1 : Int) == 2) = false:=(by rw [hk];rfl);have m6 : (1 + (k1 : Int) == 6) = true:=(by rw [hk];rfl);have m3 : (1 + (k1 : Int) == 3) = false:=(by rw [hk];rfl)
   clear hk
   have L0 : True:=trivial
   go_wp2_with (first | (clear L0;go_at_call 33;refine (HS.out.call HC.out (by have:=HP.out;omega) (by decide)).mono ?_;rintro x wk ⟨k4,rfl,hk_k4,hs⟩;have HS:=As hs;clear hs;clear x0 x1 x2 x3 x4 x5 x6 x7 f0 f1 f2 f3 f4 f5 f6 f7;obtain ⟨v0,v1,v2,v3,v4,v5,v6,v7,x0,x1,x2,x3,x4,x5,x6,x7,f0,f1,f2,f3,f4,f5,f6,f7, -⟩:=HS.out.facts;have L1 : True:=trivial) | (clear L1;go_at_call 33;refine ((HS.out.set (j:=2) (by decide) _).call HC.out (by have:=HP.out;omega) (by decide)).mono ?_;rintro x wk ⟨k5,rfl,hk_k5,hs⟩;have HS:=As hs;clear hs;clear x0 x1 x2 x3 x4 x5 x6 x7 f0 f1 f2 f3 f4 f5 f6 f7;obtain ⟨v0,v1,v2,v3,v4,v5,v6,v7,x0,x1,x2,x3,x4,x5,x6,x7,f0,f1,f2,f3,f4,f5,f6,f7, -⟩:=HS.out.facts;have L2 : True:=trivial) | (clear L2;go_at_call 33;refine ((HS.out.set (j:=3) (by decide) _).call HC.out (by have:=HP.out;omega) (by decide)).mono ?_;rintro x wk ⟨k6,rfl,hk_k6,hs⟩;have HS:=As hs;clear hs;clear x0 x1 x2 x3 x4 x5 x6 x7 f0 f1 f2 f3 f4 f5 f6 f7;obtain ⟨v0,v1,v2,v3,v4,v5,v6,v7,x0,x1,x2,x3,x4,x5,x6,x7,f0,f1,f2,f3,f4,f5,f6,f7, -⟩:=HS.out.facts;have L3 : True:=trivial) | (clear L3;go_at_call 33;refine ((HS.out.set (j:=5) (by decide) _).call HC.out (by have:=HP.out;omega) (by decide)).mono ?_;rintro x wk ⟨k7,rfl,hk_k7,hs⟩;have HS:=As hs;clear hs;clear x0 x1 x2 x3 x4 x5 x6 x7 f0 f1 f2 f3 f4 f5 f6 f7;obtain ⟨v0,v1,v2,v3,v4,v5,v6,v7,x0,x1,x2,x3,x4,x5,x6,x7,f0,f1,f2,f3,f4,f5,f6,f7, -⟩:=HS.out.facts;have L4 : True:=trivial))
   go_meet
   case rel => exact (HS.out.set (j:=7) (by decide) _).more (Int.le_refl _) (by omega)
 case rest =>
  clear x0 x1 x2 x3 x4 x5 x6 x7 f0 f1 f2 f3 f4 f5 f6 f7
  have HS:=As hcut
  clear hcut
  obtain ⟨v0,v1,v2,v3,v4,v5,v6,v7,x0,x1,x2,x3,x4,x5,x6,x7,f0,f1,f2,f3,f4,f5,f6,f7, -⟩:=HS.out.facts
  go_wp2_with fail
  go_at_call 33
  refine (HS.out.call HC.out (by have:=HP.out;omega) (by decide)).mono ?_
  rintro x wk ⟨k9,rfl,hk_k9,hs⟩
  have HS:=As hs
  clear hs
  clear x0 x1 x2 x3 x4 x5 x6 x7 f0 f1 f2 f3 f4 f5 f6 f7
  obtain ⟨v0,v1,v2,v3,v4,v5,v6,v7,x0,x1,x2,x3,x4,x5,x6,x7,f0,f1,f2,f3,f4,f5,f6,f7, -⟩:=HS.out.facts
  obtain ⟨s2,hs2⟩ : ∃ s : Int,s = (k9 : Int):=⟨_,rfl⟩
  rw [← hs2]
  have hcs : s2 = 0 ∨ s2 = 1 ∨ s2 = 2 ∨ s2 = 3 ∨ 4 ≤ s2:=by omega
  clear hs2 hk_k9 k9
  rcases hcs with rfl | rfl | rfl | rfl | h4
  ·go_wp2_with (first | (go_at_call 33;refine (HS.out.call HC.out (by have:=HP.out;omega) (by decide)).mono ?_;rintro x wk ⟨k8,rfl,hk_k8,hs⟩;have HS:=As hs;clear hs;clear x0 x1 x2 x3 x4 x5 x6 x7 f0 f1 f2 f3 f4 f5 f6 f7;obtain ⟨v0,v1,v2,v3,v4,v5,v6,v7,x0,x1,x2,x3,x4,x5,x6,x7,f0,f1,f2,f3,f4,f5,f6,f7, -⟩:=HS.out.facts;obtain ⟨z0,z1,z2,z3,z4,z5,z6,z7⟩:=HS.out.z.cells;have g0:=HS.out.z.frz 0;have g1:=HS.out.z.frz 1;have g2:=HS.out.z.frz 2;have g3:=HS.out.z.frz 3;have g4:=HS.out.z.frz 4;have g5:=HS.out.z.frz 5;have g6:=HS.out.z.frz 6;have g7:=HS.out.z.frz 7))
   obtain ⟨y0,y1,y2,y3,y4,y5,y6,y7⟩:=((HS.out.set (j:=1) (by decide) ((k8 : Int) - 1)).z.Xo ⟨v0,((k8 : Int) - 1),v2,v3,v4,v5,v6,v7⟩).cells
   exact bodyPost_ret (v:=Rec.val ⟨v0,((k8 : Int) - 1),v2,v3,v4,v5,v6,v7⟩) (by simp [results,Tryz.results127,go_sem,y0,y1,y2,y3,y4,y5,y6,y7]) rfl ((HS.out.set (j:=1) (by decide) ((k8 : Int) - 1)).done (by omega) ⟨v0,((k8 : Int) - 1),v2,v3,v4,v5,v6,v7⟩)
  ·go_wp2_with (first | (go_at_call 33;refine (HS.out.call HC.out (by have:=HP.out;omega) (by decide)).mono ?_;rintro x wk ⟨k8,rfl,hk_k8,hs⟩;have HS:=As hs;clear hs;clear x0 x1 x2 x3 x4 x5 x6 x7 f0 f1 f2 f3 f4 f5 f6 f7;obtain ⟨v0,v1,v2,v3,v4,v5,v6,v7,x0,x1,x2,x3,x4,x5,x6,x7,f0,f1,f2,f3,f4,f5,f6,f7, -⟩:=HS.out.facts;obtain ⟨z0,z1,z2,z3,z4,z5,z6,z7⟩:=HS.out.z.cells;have g0:=HS.out.z.frz 0;have g1:=HS.out.z.frz 1;have g2:=HS.out.z.frz 2;have g3:=HS.out.z.frz 3;have g4:=HS.out.z.frz 4;have g5:=HS.out.z.frz 5;have g6:=HS.out.z.frz 6;have g7:=HS.out.z.frz 7))
   obtain ⟨y0,y1,y2,y3,y4,y5,y6,y7⟩:=((HS.out.set (j:=3) (by decide) ((k8 : Int) - 2)).z.Xo ⟨v0,v1,v2,((k8 : Int) - 2),v4,v5,v6,v7⟩).cells
   exact bodyPost_ret (v:=Rec.val ⟨v0,v1,v2,((k8 : Int) - 2),v4,v5,v6,v7⟩) (by simp [results,Tryz.results127,go_sem,y0,y1,y2,y3,y4,y5,y6,y7]) rfl ((HS.out.set (j:=3) (by decide) ((k8 : Int) - 2)).done (by omega) ⟨v0,v1,v2,((k8 : Int) - 2),v4,v5,v6,v7⟩)
  ·go_wp2_with (first | (go_at_call 33;refine (HS.out.call HC.out (by have:=HP.out;omega) (by decide)).mono ?_;rintro x wk ⟨k8,rfl,hk_k8,hs⟩;have HS:=As hs;clear hs;clear x0 x1 x2 x3 x4 x5 x6 x7 f0 f1 f2 f3 f4 f5 f6 f7;obtain ⟨v0,v1,v2,v3,v4,v5,v6,v7,x0,x1,x2,x3,x4,x5,x6,x7,f0,f1,f2,f3,f4,f5,f6,f7, -⟩:=HS.out.facts;obtain ⟨z0,z1,z2,z3,z4,z5,z6,z7⟩:=HS.out.z.cells;have g0:=HS.out.z.frz 0;have g1:=HS.out.z.frz 1;have g2:=HS.out.z.frz 2;have g3:=HS.out.z.frz 3;have g4:=HS.out.z.frz 4;have g5:=HS.out.z.frz 5;have g6:=HS.out.z.frz 6;have g7:=HS.out.z.frz 7))
   obtain ⟨y0,y1,y2,y3,y4,y5,y6,y7⟩:=((HS.out.set (j:=5) (by decide) ((k8 : Int) - 1)).z.Xo ⟨v0,v1,v2,v3,v4,((k8 : Int) - 1),v6,v7⟩).cells
   exact bodyPost_ret (v:=Rec.val ⟨v0,v1,v2,v3,v4,((k8 : Int) - 1),v6,v7⟩) (by simp [results,Tryz.results127,go_sem,y0,y1,y2,y3,y4,y5,y6,y7]) rfl ((HS.out.set (j:=5) (by decide) ((k8 : Int) - 1)).done (by omega) ⟨v0,v1,v2,v3,v4,((k8 : Int) - 1),v6,v7⟩)
  ·go_wp2_with (first | (go_at_call 33;refine (HS.out.call HC.out (by have:=HP.out;omega) (by decide)).mono ?_;rintro x wk ⟨k8,rfl,hk_k8,hs⟩;have HS:=As hs;clear hs;clear x0 x1 x2 x3 x4 x5 x6 x7 f0 f1 f2 f3 f4 f5 f6 f7;obtain ⟨v0,v1,v2,v3,v4,v5,v6,v7,x0,x1,x2,x3,x4,x5,x6,x7,f0,f1,f2,f3,f4,f5,f6,f7, -⟩:=HS.out.facts;obtain ⟨z0,z1,z2,z3,z4,z5,z6,z7⟩:=HS.out.z.cells;have g0:=HS.out.z.frz 0;have g1:=HS.out.z.frz 1;have g2:=HS.out.z.frz 2;have g3:=HS.out.z.frz 3;have g4:=HS.out.z.frz 4;have g5:=HS.out.z.frz 5;have g6:=HS.out.z.frz 6;have g7:=HS.out.z.frz 7))
   obtain ⟨y0,y1,y2,y3,y4,y5,y6,y7⟩:=((HS.out.set (j:=7) (by decide) (k8 : Int)).z.Xo ⟨v0,v1,v2,v3,v4,v5,v6,(k8 : Int)⟩).cells
   exact bodyPost_ret (v:=Rec.val ⟨v0,v1,v2,v3,v4,v5,v6,(k8 : Int)⟩) (by simp [results,Tryz.results127,go_sem,y0,y1,y2,y3,y4,y5,y6,y7]) rfl ((HS.out.set (j:=7) (by decide) (k8 : Int)).done (by omega) ⟨v0,v1,v2,v3,v4,v5,v6,(k8 : Int)⟩)
  ·have n0 : (s2 == 0) = false:=by rw [beq_eq_false_iff_ne];omega
   have n1 : (s2 == 1) = false:=by rw [beq_eq_false_iff_ne];omega
   have n2 : (s2 == 2) = false:=by rw [beq_eq_false_iff_ne];omega
   have n3 : (s2 == 3) = false:=by rw [beq_eq_false_iff_ne];omega
   obtain ⟨z0,z1,z2,z3,z4,z5,z6,z7⟩:=HS.out.z.cells
   have g0:=HS.out.z.frz 0
   have g1:=HS.out.z.frz 1
   have g2:=HS.out.z.frz 2
   have g3:=HS.out.z.frz 3
   have g4:=HS.out.z.frz 4
   have g5:=HS.out.z.frz 5
   have g6:=HS.out.z.frz 6
   have g7:=HS.out.z.frz 7
   go_wp2
   obtain ⟨y0,y1,y2,y3,y4,y5,y6,y7⟩:=(HS.out.z.Xo ⟨v0,v1,v2,v3,v4,v5,v6,v7⟩).cells
   exact bodyPost_ret (v:=Rec.val ⟨v0,v1,v2,v3,v4,v5,v6,v7⟩) (by simp [results,Tryz.results127,go_sem,y0,y1,y2,y3,y4,y5,y6,y7]) rfl (HS.out.done (by omega) ⟨v0,v1,v2,v3,v4,v5,v6,v7⟩)
end Go.Proofs.YtjeodgfkilhkhaaGreat
