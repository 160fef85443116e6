/-
  No cell of these rows narrows 'for every input' (looked for: loops, veiled, ifaces, maps, wideKeys, modest, calm, conditions, laid).
  DERIVED. THE GIVEN ROWS OF THIS SEAT. 6 by the template 'for every input the law returns true; each argument reads behind the call as it read before'; 0 by the template 'total and deterministic' (their statements: YtlmlcnokiipilaaGreatTotals.lean).
  GIVEN WITH THE SEED: the statements are not yours to turn. If you find one false, say at which input.
  Laid BY PROGRAM, IN A SANDBOX (cutbox-rows.mjs): the forced cells as the released guide's own fill.sh prints them over the translation dc3fe5b11023bb00… (all of the seat's roots in one cut). By AI agents, Wed Nov 11 2026. No macro, syntax, notation, axiom, sorry.
-/
import Derived.Test.YtlmlcnokiipilaaGreatChecked
import GoSem.Claim
import GoSem.ClaimJoined
import GoSem.ClaimMapViews
import Derived.JoinedTies
import Derived.KernelRfl
namespace Go.Proofs.YtlmlcnokiipilaaGreat
/- THE CELL 'sum', in the pinned program and in every row, IS THE sha256 OF THE DUMP (.gsa) THAT YtlmlcnokiipilaaGreatProg.lean LOADS. Nothing in Lean hashes anything: it is a label: what it is worth is what the hold of that sum in a sandbox is worth. -/
noncomputable def Tryz.pinned : Pinned := { name := "ytlmlcnokiipilaagreat", sum := "dc3fe5b11023bb001e63efd0477684c77dec61fddacf9ccb42539cd131134af9", checked := Tryz.checked }
namespace Rows
def none {H : Type} : Left H := { results := [], args := [] }

/-- 'laws.FnExactRiseNeed': WHATEVER THE INPUT: true; the input reads as it did. -/
def fnExactRiseNeedSpec : ChangeSpec := { name := "fnExactRiseNeed", fn := fun _ => fun
  | [d] => { results := [.lit (.bool true)], args := [d] }
  | _ => none }
def fnExactRiseNeedRow : OpenClaim := { program := "ytlmlcnokiipilaagreat", sum := "dc3fe5b11023bb001e63efd0477684c77dec61fddacf9ccb42539cd131134af9", func := "loop.example/tabularium/laws.FnExactRiseNeed", spec := "fnExactRiseNeed", unfollowed := true, recurses := true, apart := false }
def FnExactRiseNeedSaid : Prop := fnExactRiseNeedRow.holds Tryz.pinned (OpenSpec.ofChange fnExactRiseNeedSpec)

/-- ITS FALSE NEIGHBOUR: 'it returns false'. Refute it at one input. -/
def fnExactRiseNeedWrong : ChangeSpec := { name := "fnExactRiseNeed", fn := fun _ => fun
  | [d] => { results := [.lit (.bool false)], args := [d] }
  | _ => none }
def FnExactRiseNeedWrongFalsely : Prop := fnExactRiseNeedRow.holds Tryz.pinned (OpenSpec.ofChange fnExactRiseNeedWrong)

/-- 'laws.FnExactRiseFall': WHATEVER THE INPUT: true; the input reads as it did. -/
def fnExactRiseFallSpec : ChangeSpec := { name := "fnExactRiseFall", fn := fun _ => fun
  | [d1, d2] => { results := [.lit (.bool true)], args := [d1, d2] }
  | _ => none }
def fnExactRiseFallRow : OpenClaim := { program := "ytlmlcnokiipilaagreat", sum := "dc3fe5b11023bb001e63efd0477684c77dec61fddacf9ccb42539cd131134af9", func := "loop.example/tabularium/laws.FnExactRiseFall", spec := "fnExactRiseFall", unfollowed := true, recurses := true, apart := false }
def FnExactRiseFallSaid : Prop := fnExactRiseFallRow.holds Tryz.pinned (OpenSpec.ofChange fnExactRiseFallSpec)

/-- ITS FALSE NEIGHBOUR: 'it returns false'. Refute it at one input. -/
def fnExactRiseFallWrong : ChangeSpec := { name := "fnExactRiseFall", fn := fun _ => fun
  | [d1, d2] => { results := [.lit (.bool false)], args := [d1, d2] }
  | _ => none }
def FnExactRiseFallWrongFalsely : Prop := fnExactRiseFallRow.holds Tryz.pinned (OpenSpec.ofChange fnExactRiseFallWrong)

/-- 'laws.FnPlayDown': WHATEVER THE INPUT: true; the input reads as it did. -/
def fnPlayDownSpec : ChangeSpec := { name := "fnPlayDown", fn := fun _ => fun
  | [d1, d2] => { results := [.lit (.bool true)], args := [d1, d2] }
  | _ => none }
def fnPlayDownRow : OpenClaim := { program := "ytlmlcnokiipilaagreat", sum := "dc3fe5b11023bb001e63efd0477684c77dec61fddacf9ccb42539cd131134af9", func := "loop.example/tabularium/laws.FnPlayDown", spec := "fnPlayDown", unfollowed := true, recurses := true, apart := false }
def FnPlayDownSaid : Prop := fnPlayDownRow.holds Tryz.pinned (OpenSpec.ofChange fnPlayDownSpec)

/-- ITS FALSE NEIGHBOUR: 'it returns false'. Refute it at one input. -/
def fnPlayDownWrong : ChangeSpec := { name := "fnPlayDown", fn := fun _ => fun
  | [d1, d2] => { results := [.lit (.bool false)], args := [d1, d2] }
  | _ => none }
def FnPlayDownWrongFalsely : Prop := fnPlayDownRow.holds Tryz.pinned (OpenSpec.ofChange fnPlayDownWrong)

/-- 'laws.FnPlayOwn': WHATEVER THE INPUT: true; the input reads as it did. -/
def fnPlayOwnSpec : ChangeSpec := { name := "fnPlayOwn", fn := fun _ => fun
  | [d] => { results := [.lit (.bool true)], args := [d] }
  | _ => none }
def fnPlayOwnRow : OpenClaim := { program := "ytlmlcnokiipilaagreat", sum := "dc3fe5b11023bb001e63efd0477684c77dec61fddacf9ccb42539cd131134af9", func := "loop.example/tabularium/laws.FnPlayOwn", spec := "fnPlayOwn", unfollowed := true, recurses := true, apart := false }
def FnPlayOwnSaid : Prop := fnPlayOwnRow.holds Tryz.pinned (OpenSpec.ofChange fnPlayOwnSpec)

/-- ITS FALSE NEIGHBOUR: 'it returns false'. Refute it at one input. -/
def fnPlayOwnWrong : ChangeSpec := { name := "fnPlayOwn", fn := fun _ => fun
  | [d] => { results := [.lit (.bool false)], args := [d] }
  | _ => none }
def FnPlayOwnWrongFalsely : Prop := fnPlayOwnRow.holds Tryz.pinned (OpenSpec.ofChange fnPlayOwnWrong)

/-- 'laws.FnPlayQuiet': WHATEVER THE INPUT: true; the input reads as it did. -/
def fnPlayQuietSpec : ChangeSpec := { name := "fnPlayQuiet", fn := fun _ => fun
  | [d1, d2] => { results := [.lit (.bool true)], args := [d1, d2] }
  | _ => none }
def fnPlayQuietRow : OpenClaim := { program := "ytlmlcnokiipilaagreat", sum := "dc3fe5b11023bb001e63efd0477684c77dec61fddacf9ccb42539cd131134af9", func := "loop.example/tabularium/laws.FnPlayQuiet", spec := "fnPlayQuiet", unfollowed := true, recurses := true, apart := false }
def FnPlayQuietSaid : Prop := fnPlayQuietRow.holds Tryz.pinned (OpenSpec.ofChange fnPlayQuietSpec)

/-- ITS FALSE NEIGHBOUR: 'it returns false'. Refute it at one input. -/
def fnPlayQuietWrong : ChangeSpec := { name := "fnPlayQuiet", fn := fun _ => fun
  | [d1, d2] => { results := [.lit (.bool false)], args := [d1, d2] }
  | _ => none }
def FnPlayQuietWrongFalsely : Prop := fnPlayQuietRow.holds Tryz.pinned (OpenSpec.ofChange fnPlayQuietWrong)

/-- 'laws.FnPlaySafe': WHATEVER THE INPUT: true; the input reads as it did. -/
def fnPlaySafeSpec : ChangeSpec := { name := "fnPlaySafe", fn := fun _ => fun
  | [d] => { results := [.lit (.bool true)], args := [d] }
  | _ => none }
def fnPlaySafeRow : OpenClaim := { program := "ytlmlcnokiipilaagreat", sum := "dc3fe5b11023bb001e63efd0477684c77dec61fddacf9ccb42539cd131134af9", func := "loop.example/tabularium/laws.FnPlaySafe", spec := "fnPlaySafe", unfollowed := true, recurses := true, apart := false }
def FnPlaySafeSaid : Prop := fnPlaySafeRow.holds Tryz.pinned (OpenSpec.ofChange fnPlaySafeSpec)

/-- ITS FALSE NEIGHBOUR: 'it returns false'. Refute it at one input. -/
def fnPlaySafeWrong : ChangeSpec := { name := "fnPlaySafe", fn := fun _ => fun
  | [d] => { results := [.lit (.bool false)], args := [d] }
  | _ => none }
def FnPlaySafeWrongFalsely : Prop := fnPlaySafeRow.holds Tryz.pinned (OpenSpec.ofChange fnPlaySafeWrong)

/- THE SECOND FORM. 'bulk': how many values and letters a reading holds, each counted each time it is reached (what is shared counts as often as it is met; a slice's spare places count too). A statement '..UptoSaid' is the law's where the arguments, and the package variables that the reading takes, are together of bulk at most 1048576: NARROWER than '..Said'. Prove '..Said' where nothing that the law and all that it calls make is longer than what came in: it says more and counts as full. Else prove '..UptoSaid'. A law counts once. -/
mutual
def uptoBulk {H : Type} : DataW H → Nat
  | .lit (.string bytes) => bytes.length + 1
  | .lit _ => 1
  | .nil => 1
  | .ptr d => uptoBulk d + 1
  | .slice elems spare => uptoBulkAll elems + uptoBulkAll spare + 1
  | .agg parts => uptoBulkAll parts + 1
  | .iface _ d => uptoBulk d + 1
  | .map entries => uptoBulkEntries entries + 1
  | .held _ => 1
def uptoBulkAll {H : Type} : List (DataW H) → Nat
  | [] => 0
  | d :: r => uptoBulk d + uptoBulkAll r
def uptoBulkEntries {H : Type} : List (Lit × DataW H) → Nat
  | [] => 0
  | x :: r => uptoBulkEntry x + uptoBulkEntries r
def uptoBulkEntry {H : Type} : Lit × DataW H → Nat
  | (.string bytes, d) => bytes.length + uptoBulk d + 1
  | (_, d) => uptoBulk d + 1
 end
def uptoSmall : (H : Type) → List (DataW H) → Bool := fun _ ds => decide (uptoBulkAll ds ≤ 1048576)
def OpenSpec.upto (s : _root_.Go.ChangeSpec) : _root_.Go.OpenSpec := { _root_.Go.OpenSpec.ofChange s with cond := some uptoSmall }

/-- 'laws.FnExactRiseNeed', WHERE WHAT IT READS IS OF BULK AT MOST 1048576: true; the input reads as it did. -/
def fnExactRiseNeedUptoRow : OpenClaim := { program := "ytlmlcnokiipilaagreat", sum := "dc3fe5b11023bb001e63efd0477684c77dec61fddacf9ccb42539cd131134af9", func := "loop.example/tabularium/laws.FnExactRiseNeed", spec := "fnExactRiseNeed", unfollowed := true, recurses := true, apart := false, narrowed := true }
def FnExactRiseNeedUptoSaid : Prop := fnExactRiseNeedUptoRow.holds Tryz.pinned (OpenSpec.upto fnExactRiseNeedSpec)

/-- 'laws.FnExactRiseFall', WHERE WHAT IT READS IS OF BULK AT MOST 1048576: true; the input reads as it did. -/
def fnExactRiseFallUptoRow : OpenClaim := { program := "ytlmlcnokiipilaagreat", sum := "dc3fe5b11023bb001e63efd0477684c77dec61fddacf9ccb42539cd131134af9", func := "loop.example/tabularium/laws.FnExactRiseFall", spec := "fnExactRiseFall", unfollowed := true, recurses := true, apart := false, narrowed := true }
def FnExactRiseFallUptoSaid : Prop := fnExactRiseFallUptoRow.holds Tryz.pinned (OpenSpec.upto fnExactRiseFallSpec)

/-- 'laws.FnPlayDown', WHERE WHAT IT READS IS OF BULK AT MOST 1048576: true; the input reads as it did. -/
def fnPlayDownUptoRow : OpenClaim := { program := "ytlmlcnokiipilaagreat", sum := "dc3fe5b11023bb001e63efd0477684c77dec61fddacf9ccb42539cd131134af9", func := "loop.example/tabularium/laws.FnPlayDown", spec := "fnPlayDown", unfollowed := true, recurses := true, apart := false, narrowed := true }
def FnPlayDownUptoSaid : Prop := fnPlayDownUptoRow.holds Tryz.pinned (OpenSpec.upto fnPlayDownSpec)

/-- 'laws.FnPlayOwn', WHERE WHAT IT READS IS OF BULK AT MOST 1048576: true; the input reads as it did. -/
def fnPlayOwnUptoRow : OpenClaim := { program := "ytlmlcnokiipilaagreat", sum := "dc3fe5b11023bb001e63efd0477684c77dec61fddacf9ccb42539cd131134af9", func := "loop.example/tabularium/laws.FnPlayOwn", spec := "fnPlayOwn", unfollowed := true, recurses := true, apart := false, narrowed := true }
def FnPlayOwnUptoSaid : Prop := fnPlayOwnUptoRow.holds Tryz.pinned (OpenSpec.upto fnPlayOwnSpec)

/-- 'laws.FnPlayQuiet', WHERE WHAT IT READS IS OF BULK AT MOST 1048576: true; the input reads as it did. -/
def fnPlayQuietUptoRow : OpenClaim := { program := "ytlmlcnokiipilaagreat", sum := "dc3fe5b11023bb001e63efd0477684c77dec61fddacf9ccb42539cd131134af9", func := "loop.example/tabularium/laws.FnPlayQuiet", spec := "fnPlayQuiet", unfollowed := true, recurses := true, apart := false, narrowed := true }
def FnPlayQuietUptoSaid : Prop := fnPlayQuietUptoRow.holds Tryz.pinned (OpenSpec.upto fnPlayQuietSpec)

/-- 'laws.FnPlaySafe', WHERE WHAT IT READS IS OF BULK AT MOST 1048576: true; the input reads as it did. -/
def fnPlaySafeUptoRow : OpenClaim := { program := "ytlmlcnokiipilaagreat", sum := "dc3fe5b11023bb001e63efd0477684c77dec61fddacf9ccb42539cd131134af9", func := "loop.example/tabularium/laws.FnPlaySafe", spec := "fnPlaySafe", unfollowed := true, recurses := true, apart := false, narrowed := true }
def FnPlaySafeUptoSaid : Prop := fnPlaySafeUptoRow.holds Tryz.pinned (OpenSpec.upto fnPlaySafeSpec)

end Rows
end Go.Proofs.YtlmlcnokiipilaaGreat
