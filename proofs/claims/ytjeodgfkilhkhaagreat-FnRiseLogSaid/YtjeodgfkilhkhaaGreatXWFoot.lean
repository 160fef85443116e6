/- Words that the print of this claim is made of: what the claim does not reach is struck, names are shortened. -/
import Derived.Test.YtjeodgfkilhkhaaGreatXWApart
import Derived.Test.YtjeodgfkilhkhaaGreatXWArr
namespace Go.Proofs.YtjeodgfkilhkhaaGreatW.PrintWords
open Go.RowKit
namespace Kd
structure Heap {α : Type} (d : Kd α) : Prop where
  K : ∀ {w w1 : World} {x : α} {cs : List Value},(∀ k,k < w.heap.size → w1.heap[k]? = w.heap[k]?) → d.K w x cs → d.K w1 x cs
theorem Uh {w w1 : World} (hb : ∀ k,k < w.heap.size → w1.heap[k]? = w.heap[k]?) {a : Addr} {v : Value} (h : w.cell? a = some v) : w1.cell? a = some v:=by
  have:=hb a.block (World.block_lt_of_cell? w a h)
  simpa [World.cell?,this] using h
theorem Heap.C {α : Type} {d : Kd α} (hd : Heap d) {w w1 : World} {A : Option Addr} {n : Nat} {xs : List α} (hb : ∀ k,k < w.heap.size → w1.heap[k]? = w.heap[k]?) (h : d.C w A n xs) : d.C w1 A n xs:=
  ⟨h.1,h.2.1,fun hn => by
    obtain ⟨ad,e,hc⟩:=h.2.2 hn
    refine ⟨ad,e,fun j p hj => ?_⟩
    obtain ⟨c,hs,hr,hcell⟩:=hc j p hj
    exact ⟨c,hs,hd.K hb hr,fun i u hu => Uh hb (hcell i u hu)⟩⟩
section
variable {α : Type} {d : Kd α} {e base g n c : Nat} {ok : Nat → Prop} {w w0 W : World} {A : Option Addr} {xs : List α}
theorem Yn (h : d.R e W base ok (.slice A n c) xs) (hok : ∀ k,ok k → k ≠ g) : ∀ W',BB W W' g none → d.C W' A n xs:=fun W' hk => by
  have h2:=Df (Y5 h hk hok)
  rw [h2.1]
  exact h2.2.2
theorem Xg (h : d.Q e W base ok (.slice A n c) xs) (hok : ∀ k,ok k → k ≠ g) : ∀ W',BB W W' g none → d.C W' A n xs:=fun W' hk => by
  have h2:=Rc (Vy h (w1:=W') (fun k ho hlt => hk.2 k hlt (hok k ho) (by simp)))
  rw [h2.1]
  exact h2.2.2
theorem Xh (hd : Heap d) (h : d.C w0 A n xs) (hb : Below w0.heap.size w0 W) (hg : w0.heap.size ≤ g) : ∀ W',BB W W' g none → d.C W' A n xs:=fun W' hk =>
  hd.C (fun k hlt => (hk.2 k (Nat.lt_of_lt_of_le hlt hb.size) (by omega) (by simp)).trans (hb.block k hlt)) h
theorem Xe (h : ∀ W',BB w W' g none → d.C W' A n xs) (hk : BB w W g none) : ∀ W',BB W W' g none → d.C W' A n xs:=fun W' hk' => h W' (hk.trans hk' (.inl rfl))
theorem Yo (h : ∀ W',BB w W' g none → d.C W' A n xs) (hk : BB w W g none) : d.C W A n xs:=h W hk
theorem Yp : ∀ W',BB W W' g none → d.C W' none ([] : List α).length []:=fun W' _ => X7 d W'
end
end Kd
end Go.Proofs.YtjeodgfkilhkhaaGreatW.PrintWords
