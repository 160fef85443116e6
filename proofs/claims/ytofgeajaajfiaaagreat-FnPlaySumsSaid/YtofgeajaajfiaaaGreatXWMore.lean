/- Words that the print of this claim is made of: what the claim does not reach is struck, names are shortened. -/
import Derived.Test.YtofgeajaajfiaaaGreatXWWords
import Derived.Test.YtofgeajaajfiaaaGreatXWLast
import Derived.Test.YtofgeajaajfiaaaGreatXWQPut
import Derived.Test.YtofgeajaajfiaaaGreatXWApart
import Derived.Test.YtofgeajaajfiaaaGreatXWZeros
import Derived.Test.YtofgeajaajfiaaaGreatXWFoot
import Derived.Test.YtofgeajaajfiaaaGreatXWKept
import Derived.Test.YtofgeajaajfiaaaGreatXWNEv
namespace Go.Proofs.YtofgeajaajfiaaaGreatW.PrintMore
open Go.RowKit Go.Proofs.YtofgeajaajfiaaaGreatW.PrintWords
namespace Kd
open Go.Proofs.YtofgeajaajfiaaaGreatW.PrintWords.Kd
section
variable {α : Type} {d : Kd α} {e base g N : Nat} {ok : Nat → Prop} {W w1 : World} {u v : Value} {xs : List α}
end
end Kd
end Go.Proofs.YtofgeajaajfiaaaGreatW.PrintMore
namespace Go.Proofs.YtofgeajaajfiaaaGreatW.PrintWords
open Go.RowKit
section
variable {P : Program} {ops : Array Oper} {rest : List Oper} {o : Oper} {a : Act} {Q : Exit → Act → World → Prop} {W : World}
end
namespace Kd
section
variable {α : Type} {d : Kd α} {e base : Nat} {ok : Nat → Prop} {W w1 : World} {v : Value} {xs : List α}
end
section
variable {α : Type} {d : Kd α} {e base g n cap : Nat} {ok oki okp : Nat → Prop} {W : World} {xs : List α} {i : Int} {c : List Value}
theorem Yg (hH : H d e W base ok (.slice (some ⟨g,0,none⟩) n cap) xs i oki c) (h0 : 0 ≤ i) (h1 : i < n) {seg : List Value} {j : Nat} (hj : j + seg.length ≤ d.sz)
    {x' : α} (hM : d.M W base okp x' (c.take j ++ seg ++ c.drop (j + seg.length))) (hokp : ∀ k,okp k → oki k) :
    S d e (W.setCells g (i.toNat * d.sz + j) seg) base ok (.slice (some ⟨g,0,none⟩) n cap) (xs.set i.toNat x') ∧ W.grownBy (W.setCells g (i.toNat * d.sz + j) seg) (some g):=
  YJ (okg:=fun _ => False) (Yt hH (fun _ hk => ⟨hk,fun h => h⟩)) h0 h1 hj hM (fun k hk => .inl (hokp k hk)) (fun _ hk => hk.elim)
end
section
variable {α : Type} {d : Kd α} {e base b b' g N : Nat} {ok ok1 : Nat → Prop} {W W2 w1 : World} {u v : Value} {xs ys : List α} {S : Nat → Prop}
end
end Kd
end Go.Proofs.YtofgeajaajfiaaaGreatW.PrintWords
namespace Go.Proofs.YtofgeajaajfiaaaGreatW.PrintWords
open Go.RowKit
namespace Kd
def V {α : Type} (d : Kd α) (_e : Nat) (W : World) (_base : Nat) (ok : Nat → Prop) (v : Value) (xs : List α) : Prop := ∃ A c,v = .slice A xs.length c ∧ xs.length ≤ c ∧ F d W ok A xs.length xs
section
variable {α β : Type} {d : Kd α} {e base base' n m c g N' lo hi : Nat} {ok ok' S : Nat → Prop} {w W w1 : World} {A : Option Addr} {ad : Addr} {u v v1 : Value} {xs : List α}
end
end Kd
end Go.Proofs.YtofgeajaajfiaaaGreatW.PrintWords
