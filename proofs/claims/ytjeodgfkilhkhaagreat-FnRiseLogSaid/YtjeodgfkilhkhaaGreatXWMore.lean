/- Words that the print of this claim is made of: what the claim does not reach is struck, names are shortened. -/
import Derived.Test.YtjeodgfkilhkhaaGreatXWWords
import Derived.Test.YtjeodgfkilhkhaaGreatXWLast
import Derived.Test.YtjeodgfkilhkhaaGreatXWQPut
import Derived.Test.YtjeodgfkilhkhaaGreatXWApart
import Derived.Test.YtjeodgfkilhkhaaGreatXWZeros
import Derived.Test.YtjeodgfkilhkhaaGreatXWFoot
import Derived.Test.YtjeodgfkilhkhaaGreatXWKept
import Derived.Test.YtjeodgfkilhkhaaGreatXWNEv
namespace Go.Proofs.YtjeodgfkilhkhaaGreatW.PrintMore
open Go.RowKit Go.Proofs.YtjeodgfkilhkhaaGreatW.PrintWords
namespace Kd
open Go.Proofs.YtjeodgfkilhkhaaGreatW.PrintWords.Kd
section
variable {α : Type} {d : Kd α} {e base g N : Nat} {ok : Nat → Prop} {W w1 : World} {u v : Value} {xs : List α}
end
end Kd
end Go.Proofs.YtjeodgfkilhkhaaGreatW.PrintMore
namespace Go.Proofs.YtjeodgfkilhkhaaGreatW.PrintWords
open Go.RowKit
section
variable {P : Program} {ops : Array Oper} {rest : List Oper} {o : Oper} {a : Act} {Q : Exit → Act → World → Prop} {W : World}
end
namespace Kd
section
variable {α : Type} {d : Kd α} {e base : Nat} {ok : Nat → Prop} {W w1 : World} {v : Value} {xs : List α}
end
section
variable {α : Type} {d : Kd α} {e base g n cap : Nat} {ok oki okp : Nat → Prop} {W : World} {xs : List α} {i : Int} {c : List Value}
theorem Vm (hH : H d e W base ok (.slice (some ⟨g,0,none⟩) n cap) xs i oki c) (h0 : 0 ≤ i) (h1 : i < n) {seg : List Value} {j : Nat} (hj : j + seg.length ≤ d.sz)
    {x' : α} (hM : d.M W base okp x' (c.take j ++ seg ++ c.drop (j + seg.length))) (hokp : ∀ k,okp k → oki k) :
    S d e (W.setCells g (i.toNat * d.sz + j) seg) base ok (.slice (some ⟨g,0,none⟩) n cap) (xs.set i.toNat x') ∧ W.grownBy (W.setCells g (i.toNat * d.sz + j) seg) (some g):=
  YS (okg:=fun _ => False) (Ye hH (fun _ hk => ⟨hk,fun h => h⟩)) h0 h1 hj hM (fun k hk => .inl (hokp k hk)) (fun _ hk => hk.elim)
end
section
variable {α : Type} {d : Kd α} {e base b b' g N : Nat} {ok ok1 : Nat → Prop} {W W2 w1 : World} {u v : Value} {xs ys : List α} {S : Nat → Prop}
theorem Yv {n size : Nat} {cs : List Value} (h : W.ownsRow b e size v n cs) (hb : ∀ k,v.ownBlock = some k → b' ≤ k) : W.ownsRow b' e size v n cs:=by
  obtain ⟨h1,h2⟩:=h
  refine ⟨h1,?_⟩
  rcases h2 with h2 | ⟨g,cap,cur,rfl,_,r⟩
  · exact .inl h2
  · exact .inr ⟨g,cap,cur,rfl,hb g (by simp [Value.ownBlock]),r⟩
end
end Kd
end Go.Proofs.YtjeodgfkilhkhaaGreatW.PrintWords
namespace Go.Proofs.YtjeodgfkilhkhaaGreatW.PrintWords
open Go.RowKit
theorem Kept.Zp {w W W2 : World} {S2 : Nat → Prop} {g : Nat} (h : BB w W g none) (k : Kept W W2 S2) (hs : ∀ k,S2 k → k = g ∨ w.heap.size ≤ k) : BB w W2 g none:=
  ⟨Nat.le_trans h.1 k.1,fun i hi hg hr => (k.2 i (Nat.lt_of_lt_of_le hi h.1) (fun h2 => (hs i h2).elim hg (fun h3 => by omega))).trans (h.2 i hi hg hr)⟩
namespace Kd
def V {α : Type} (d : Kd α) (_e : Nat) (W : World) (_base : Nat) (ok : Nat → Prop) (v : Value) (xs : List α) : Prop := ∃ A c,v = .slice A xs.length c ∧ xs.length ≤ c ∧ F d W ok A xs.length xs
section
variable {α β : Type} {d : Kd α} {e base base' n m c g N' lo hi : Nat} {ok ok' S : Nat → Prop} {w W w1 : World} {A : Option Addr} {ad : Addr} {u v v1 : Value} {xs : List α}
theorem WV (h : V d e W base ok v xs) (hF : ∀ A,F d W ok A xs.length xs → F d w1 ok' A xs.length xs) : V d e w1 base' ok' v xs:=by
  obtain ⟨A,c,hv,hl,hf⟩:=h
  exact ⟨A,c,hv,hl,hF A hf⟩
theorem XV (h : V d e W base ok (.slice A n c) xs) : n = xs.length ∧ n ≤ c ∧ F d W ok A xs.length xs:=by
  obtain ⟨A',c',hv,hl,hf⟩:=h
  injection hv with ha hn hc
  subst ha;subst hc
  exact ⟨hn,by rw [hn];exact hl,hf⟩
theorem R5 (h : V d e W base ok (.slice A n c) xs) : n = xs.length ∧ n ≤ c ∧ d.C W A xs.length xs:=⟨(XV h).1,(XV h).2.1,Z7 (XV h).2.2⟩
theorem XU (h : V d e W base ok v xs) (hk : BB W w1 g none) (hok : ∀ k,ok k → k ≠ g) : V d e w1 base ok v xs:=WV h (fun _ hf => Yh hf hk hok)
theorem XT (h : V d e W base ok v xs) (hk : Kept W w1 S) (hok : ∀ k,ok k → ¬ S k) : V d e w1 base ok v xs:=WV h (fun _ hf => Yg hf hk hok)
theorem Xb {l : List α} (h : ∀ W',Kept w W' S → d.C W' A n l) (hk : Kept w W S) (hg : S g ∨ w.heap.size ≤ g) : ∀ W',BB W W' g none → d.C W' A n l:=fun W' k => h W' (hk.Wd k hg)
theorem X9 (h : V d e W base ok (.slice A n c) xs) (hok : ∀ k,ok k → ¬ S k) : ∀ W',Kept W W' S → d.C W' A n xs:=fun W' hk => by
  have h2:=R5 (XT h hk hok)
  rw [h2.1]
  exact h2.2.2
theorem Xf (h : V d e W base ok (.slice A n c) xs) (hok : ∀ k,ok k → k ≠ g) : ∀ W',BB W W' g none → d.C W' A n xs:=fun W' hk => by
  have h2:=R5 (XU h hk hok)
  rw [h2.1]
  exact h2.2.2
end
end Kd
end Go.Proofs.YtjeodgfkilhkhaaGreatW.PrintWords
