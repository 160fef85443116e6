/- A part of the proof: what the last text of the claim says leans on this one. -/
import Derived.Test.YtjeodgfkilhkhaaGreatZN1
import Derived.Test.YtjeodgfkilhkhaaGreatZV1
import Derived.Test.YtjeodgfkilhkhaaGreatZP1
set_option linter.unusedVariables false
set_option linter.unusedSimpArgs false
namespace Go.Proofs.YtjeodgfkilhkhaaGreat
open Go.RowKit Go.Proofs.YtjeodgfkilhkhaaGreatW.PrintWords Go.Proofs.YtjeodgfkilhkhaaGreatW.PrintLast Go.Proofs.YtjeodgfkilhkhaaGreatW.PrintMore
theorem Ot : ∀ (vs : List Evt) (e : Eng) (v : Evt),runE e (vs ++ [v]) = Bf (runE e vs) v
 | [],_,_ => rfl
 | u :: vs,e,v => Ot vs (Bf e u) v
theorem XK (vs : List Evt) (k : Nat) (hk : k ≤ 40) : ∃ C,Inv (runE newE (vs.take k)) C (3 * 40):=by
 have h1 : (vs.take k).length ≤ k:=by rw [List.length_take];omega
 exact ⟨_,(Inv.run Wm (vs:=vs.take k) (by omega)).mono (by omega) (by omega)⟩
abbrev Evt.own (v : Evt) (u : Value) : Value:=.agg #[.int .i64 v.kind, .int .i64 v.tx, .int .i64 v.page, .int .i64 v.slot, .int .i64 v.n,u]
def EvB (w : World) (g : Nat) (v : Evt) (u : Value) : Prop:=w.heap[g]? = some (.cells #[.int .i64 v.kind, .int .i64 v.tx, .int .i64 v.page, .int .i64 v.slot, .int .i64 v.n,u] 114 (0,0))
section
variable {w w1 : World} {g : Nat} {v : Evt} {u : Value}
theorem EvB.c0 (h : EvB w g v u) : w.cell? ⟨g,0,none⟩ = some (.int .i64 v.kind):=by unfold EvB at h;simp [World.cell?,h]
theorem EvB.c1 (h : EvB w g v u) : w.cell? ⟨g,1,none⟩ = some (.int .i64 v.tx):=by unfold EvB at h;simp [World.cell?,h]
theorem EvB.c2 (h : EvB w g v u) : w.cell? ⟨g,2,none⟩ = some (.int .i64 v.page):=by unfold EvB at h;simp [World.cell?,h]
theorem EvB.c3 (h : EvB w g v u) : w.cell? ⟨g,3,none⟩ = some (.int .i64 v.slot):=by unfold EvB at h;simp [World.cell?,h]
theorem EvB.c4 (h : EvB w g v u) : w.cell? ⟨g,4,none⟩ = some (.int .i64 v.n):=by unfold EvB at h;simp [World.cell?,h]
theorem EvB.c5 (h : EvB w g v u) : w.cell? ⟨g,5,none⟩ = some u:=by unfold EvB at h;simp [World.cell?,h]
theorem EvB.frz (h : EvB w g v u) (k : Nat) : w.frozen? ⟨g,k,none⟩ = false:=by unfold EvB at h;simp [World.frozen?,h]
theorem EvB.lt (h : EvB w g v u) : g < w.heap.size:=(Array.getElem?_eq_some_iff.1 h).1
theorem EvB.up (h : EvB w g v u) (hb : Below w.heap.size w w1) : EvB w1 g v u:=(hb.block g h.lt).trans h
theorem EvB.far {b : Nat} (h : EvB w g v u) (hne : b ≠ g) (j : Nat) (x : Value) : EvB (w.setCell ⟨b,j,none⟩ x) g v u:=(Below.heap_setCell w ⟨b,j,none⟩ x g (Ne.symm hne)).trans h
theorem EvB.set0 (h : EvB w g v u) (x : Int) : EvB (w.setCell ⟨g,0,none⟩ (.int .i64 x)) g ⟨x,v.tx,v.page,v.slot,v.n,v.vals⟩ u:=heap_setCell_same h _
theorem EvB.set1 (h : EvB w g v u) (x : Int) : EvB (w.setCell ⟨g,1,none⟩ (.int .i64 x)) g ⟨v.kind,x,v.page,v.slot,v.n,v.vals⟩ u:=heap_setCell_same h _
theorem EvB.set2 (h : EvB w g v u) (x : Int) : EvB (w.setCell ⟨g,2,none⟩ (.int .i64 x)) g ⟨v.kind,v.tx,x,v.slot,v.n,v.vals⟩ u:=heap_setCell_same h _
theorem EvB.CK (h : EvB w g v u) (x : Int) : EvB (w.setCell ⟨g,3,none⟩ (.int .i64 x)) g ⟨v.kind,v.tx,v.page,x,v.n,v.vals⟩ u:=heap_setCell_same h _
theorem EvB.Xp (h : EvB w g v u) (x : Int) : EvB (w.setCell ⟨g,4,none⟩ (.int .i64 x)) g ⟨v.kind,v.tx,v.page,v.slot,x,v.vals⟩ u:=heap_setCell_same h _
theorem EvB.Zh (h : EvB w g v u) (x : Value) : EvB (w.setCell ⟨g,5,none⟩ x) g v x:=heap_setCell_same h _
end
theorem EvB.mk1 (w : World) (v : Evt) (u : Value) : EvB (w.alloc (.cells #[.int .i64 v.kind, .int .i64 v.tx, .int .i64 v.page, .int .i64 v.slot, .int .i64 v.n,u] 114)) w.heap.size v u:=by
 show (w.heap.push _)[w.heap.size]? = _
 simp
abbrev F5 (w : World) (g : Nat) (p : Evt) (u : Value) : World:=(((((w.setCell ⟨g,0,none⟩ (.int .i64 p.kind)).setCell ⟨g,1,none⟩ (.int .i64 p.tx)).setCell ⟨g,2,none⟩ (.int .i64 p.page)).setCell ⟨g,3,none⟩ (.int .i64 p.slot)).setCell ⟨g,4,none⟩ (.int .i64 p.n)).setCell ⟨g,5,none⟩ u
theorem EvB.F5 {w : World} {g : Nat} {q : Evt} {u : Value} (h : EvB w g q u) (p : Evt) (v : Value) : EvB (F5 w g p v) g p v:=(((((h.set0 p.kind).set1 p.tx).set2 p.page).CK p.slot).Xp p.n).Zh v
theorem AA.F5 {w : World} {b g : Nat} {v : Value} {xs : List Int} (h : AA w b v xs) (hg : g < b) (p : Evt) (u : Value) : AA (Go.Proofs.YtjeodgfkilhkhaaGreat.F5 w g p u) b v xs:=(((((h.set hg _ _).set hg _ _).set hg _ _).set hg _ _).set hg _ _).set hg _ _
theorem YR {w0 w : World} {g : Nat} (h : Below w0.heap.size w0 w) (hg : w0.heap.size ≤ g) (p : Evt) (u : Value) : Below w0.heap.size w0 (F5 w g p u):=(((((h.setCell (p:=⟨g,0,none⟩) hg _).setCell (p:=⟨g,1,none⟩) hg _).setCell (p:=⟨g,2,none⟩) hg _).setCell (p:=⟨g,3,none⟩) hg _).setCell (p:=⟨g,4,none⟩) hg _).setCell (p:=⟨g,5,none⟩) hg _
theorem V3 (w : World) (base : Nat) (ok : Nat → Prop) (x : Evt) {v : Value} (g2 : (Kd.int .i64).R 3 w base ok v x.vals) : kEvt.M w base ok x [.int .i64 x.kind, .int .i64 x.tx, .int .i64 x.page, .int .i64 x.slot, .int .i64 x.n,v]:=⟨[.int .i64 x.kind], [.int .i64 x.tx, .int .i64 x.page, .int .i64 x.slot, .int .i64 x.n,v],rfl,rfl,⟨[.int .i64 x.tx], [.int .i64 x.page, .int .i64 x.slot, .int .i64 x.n,v],rfl,rfl,⟨[.int .i64 x.page], [.int .i64 x.slot, .int .i64 x.n,v],rfl,rfl,⟨[.int .i64 x.slot], [.int .i64 x.n,v],rfl,rfl,⟨[.int .i64 x.n], [v],rfl,rfl,⟨v,rfl,g2⟩⟩⟩⟩⟩⟩
abbrev Tw (w : World) (base : Nat) (ok : Nat → Prop) (v : Value) (vs : List Evt) : Prop:=Kd.S kEvt 114 w base ok v vs
abbrev JY (w : World) (base : Nat) (v : Value) (vs : List Evt) : Prop:=Tw w base (fun _ => True) v vs
theorem V6 : (Tryz.prog.info? 114).map (fun i => (i.zero,i.size,i.bytes)) = some (some (.agg #[.int .i64 0, .int .i64 0, .int .i64 0, .int .i64 0, .int .i64 0, .slice none 0 0]),6,64):=by kernel_rfl
theorem Rp : Tryz.prog.underlying 95 = some (.slice 114):=Tryz.underlying95
theorem Ux {w : World} {base : Nat} {ok : Nat → Prop} {v : Value} {ps : List Evt} (h : Tw w base ok v ps) : ∀ k,v.ownBlock = some k → ok k:=by
 obtain ⟨f,h0,_⟩:=h
 exact h0
section
variable {ops : Array Oper} {rest : List Oper} {o : Oper} {a : Act} {Q : Exit → Act → World → Prop}
end
end Go.Proofs.YtjeodgfkilhkhaaGreat
