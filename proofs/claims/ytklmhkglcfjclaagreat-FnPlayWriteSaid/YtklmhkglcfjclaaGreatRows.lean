/-
  No cell of these rows narrows 'for every input' (looked for: loops, veiled, ifaces, maps, wideKeys, modest, calm, conditions, laid).
  DERIVED. THE GIVEN ROWS OF THIS SEAT. 9 by the template 'for every input the law returns true; each argument reads behind the call as it read before'; 0 by the template 'total and deterministic' (their statements: YtklmhkglcfjclaaGreatTotals.lean).
  GIVEN WITH THE SEED: the statements are not yours to turn. If you find one false, say at which input.
  Laid BY PROGRAM, IN A SANDBOX (cutbox-rows.mjs): the forced cells as the released guide's own fill.sh prints them over the translation caf2069f90b32784… (all of the seat's roots in one cut). By AI agents, Wed Nov 11 2026. No macro, syntax, notation, axiom, sorry.
-/
import Derived.Test.YtklmhkglcfjclaaGreatChecked
import GoSem.Claim
import GoSem.ClaimJoined
import GoSem.ClaimMapViews
import Derived.JoinedTies
import Derived.KernelRfl
namespace Go.Proofs.YtklmhkglcfjclaaGreat
/- THE CELL 'sum', in the pinned program and in every row, IS THE sha256 OF THE DUMP (.gsa) THAT YtklmhkglcfjclaaGreatProg.lean LOADS. Nothing in Lean hashes anything: it is a label: what it is worth is what the hold of that sum in a sandbox is worth. -/
noncomputable def Tryz.pinned : Pinned := { name := "ytklmhkglcfjclaagreat", sum := "caf2069f90b327848996b1fd8a9f854ccd5d79da5f924df0f32234b701caad88", checked := Tryz.checked }
namespace Rows
def none {H : Type} : Left H := { results := [], args := [] }

/-- 'laws.FnExactRiseUp': WHATEVER THE INPUT: true; the input reads as it did. -/
def fnExactRiseUpSpec : ChangeSpec := { name := "fnExactRiseUp", fn := fun _ => fun
  | [d1, d2] => { results := [.lit (.bool true)], args := [d1, d2] }
  | _ => none }
def fnExactRiseUpRow : OpenClaim := { program := "ytklmhkglcfjclaagreat", sum := "caf2069f90b327848996b1fd8a9f854ccd5d79da5f924df0f32234b701caad88", func := "loop.example/tabularium/laws.FnExactRiseUp", spec := "fnExactRiseUp", unfollowed := true, recurses := true, apart := false }
def FnExactRiseUpSaid : Prop := fnExactRiseUpRow.holds Tryz.pinned (OpenSpec.ofChange fnExactRiseUpSpec)

/-- ITS FALSE NEIGHBOUR: 'it returns false'. Refute it at one input. -/
def fnExactRiseUpWrong : ChangeSpec := { name := "fnExactRiseUp", fn := fun _ => fun
  | [d1, d2] => { results := [.lit (.bool false)], args := [d1, d2] }
  | _ => none }
def FnExactRiseUpWrongFalsely : Prop := fnExactRiseUpRow.holds Tryz.pinned (OpenSpec.ofChange fnExactRiseUpWrong)

/-- 'laws.FnPlayDown': WHATEVER THE INPUT: true; the input reads as it did. -/
def fnPlayDownSpec : ChangeSpec := { name := "fnPlayDown", fn := fun _ => fun
  | [d1, d2] => { results := [.lit (.bool true)], args := [d1, d2] }
  | _ => none }
def fnPlayDownRow : OpenClaim := { program := "ytklmhkglcfjclaagreat", sum := "caf2069f90b327848996b1fd8a9f854ccd5d79da5f924df0f32234b701caad88", func := "loop.example/tabularium/laws.FnPlayDown", spec := "fnPlayDown", unfollowed := true, recurses := true, apart := false }
def FnPlayDownSaid : Prop := fnPlayDownRow.holds Tryz.pinned (OpenSpec.ofChange fnPlayDownSpec)

/-- ITS FALSE NEIGHBOUR: 'it returns false'. Refute it at one input. -/
def fnPlayDownWrong : ChangeSpec := { name := "fnPlayDown", fn := fun _ => fun
  | [d1, d2] => { results := [.lit (.bool false)], args := [d1, d2] }
  | _ => none }
def FnPlayDownWrongFalsely : Prop := fnPlayDownRow.holds Tryz.pinned (OpenSpec.ofChange fnPlayDownWrong)

/-- 'laws.FnPlayOwn': WHATEVER THE INPUT: true; the input reads as it did. -/
def fnPlayOwnSpec : ChangeSpec := { name := "fnPlayOwn", fn := fun _ => fun
  | [d] => { results := [.lit (.bool true)], args := [d] }
  | _ => none }
def fnPlayOwnRow : OpenClaim := { program := "ytklmhkglcfjclaagreat", sum := "caf2069f90b327848996b1fd8a9f854ccd5d79da5f924df0f32234b701caad88", func := "loop.example/tabularium/laws.FnPlayOwn", spec := "fnPlayOwn", unfollowed := true, recurses := true, apart := false }
def FnPlayOwnSaid : Prop := fnPlayOwnRow.holds Tryz.pinned (OpenSpec.ofChange fnPlayOwnSpec)

/-- ITS FALSE NEIGHBOUR: 'it returns false'. Refute it at one input. -/
def fnPlayOwnWrong : ChangeSpec := { name := "fnPlayOwn", fn := fun _ => fun
  | [d] => { results := [.lit (.bool false)], args := [d] }
  | _ => none }
def FnPlayOwnWrongFalsely : Prop := fnPlayOwnRow.holds Tryz.pinned (OpenSpec.ofChange fnPlayOwnWrong)

/-- 'laws.FnPlayQuiet': WHATEVER THE INPUT: true; the input reads as it did. -/
def fnPlayQuietSpec : ChangeSpec := { name := "fnPlayQuiet", fn := fun _ => fun
  | [d1, d2] => { results := [.lit (.bool true)], args := [d1, d2] }
  | _ => none }
def fnPlayQuietRow : OpenClaim := { program := "ytklmhkglcfjclaagreat", sum := "caf2069f90b327848996b1fd8a9f854ccd5d79da5f924df0f32234b701caad88", func := "loop.example/tabularium/laws.FnPlayQuiet", spec := "fnPlayQuiet", unfollowed := true, recurses := true, apart := false }
def FnPlayQuietSaid : Prop := fnPlayQuietRow.holds Tryz.pinned (OpenSpec.ofChange fnPlayQuietSpec)

/-- ITS FALSE NEIGHBOUR: 'it returns false'. Refute it at one input. -/
def fnPlayQuietWrong : ChangeSpec := { name := "fnPlayQuiet", fn := fun _ => fun
  | [d1, d2] => { results := [.lit (.bool false)], args := [d1, d2] }
  | _ => none }
def FnPlayQuietWrongFalsely : Prop := fnPlayQuietRow.holds Tryz.pinned (OpenSpec.ofChange fnPlayQuietWrong)

/-- 'laws.FnPlaySafe': WHATEVER THE INPUT: true; the input reads as it did. -/
def fnPlaySafeSpec : ChangeSpec := { name := "fnPlaySafe", fn := fun _ => fun
  | [d] => { results := [.lit (.bool true)], args := [d] }
  | _ => none }
def fnPlaySafeRow : OpenClaim := { program := "ytklmhkglcfjclaagreat", sum := "caf2069f90b327848996b1fd8a9f854ccd5d79da5f924df0f32234b701caad88", func := "loop.example/tabularium/laws.FnPlaySafe", spec := "fnPlaySafe", unfollowed := true, recurses := true, apart := false }
def FnPlaySafeSaid : Prop := fnPlaySafeRow.holds Tryz.pinned (OpenSpec.ofChange fnPlaySafeSpec)

/-- ITS FALSE NEIGHBOUR: 'it returns false'. Refute it at one input. -/
def fnPlaySafeWrong : ChangeSpec := { name := "fnPlaySafe", fn := fun _ => fun
  | [d] => { results := [.lit (.bool false)], args := [d] }
  | _ => none }
def FnPlaySafeWrongFalsely : Prop := fnPlaySafeRow.holds Tryz.pinned (OpenSpec.ofChange fnPlaySafeWrong)

/-- 'laws.FnPlayLog': WHATEVER THE INPUT: true; the input reads as it did. -/
def fnPlayLogSpec : ChangeSpec := { name := "fnPlayLog", fn := fun _ => fun
  | [d] => { results := [.lit (.bool true)], args := [d] }
  | _ => none }
def fnPlayLogRow : OpenClaim := { program := "ytklmhkglcfjclaagreat", sum := "caf2069f90b327848996b1fd8a9f854ccd5d79da5f924df0f32234b701caad88", func := "loop.example/tabularium/laws.FnPlayLog", spec := "fnPlayLog", unfollowed := true, recurses := true, apart := false }
def FnPlayLogSaid : Prop := fnPlayLogRow.holds Tryz.pinned (OpenSpec.ofChange fnPlayLogSpec)

/-- ITS FALSE NEIGHBOUR: 'it returns false'. Refute it at one input. -/
def fnPlayLogWrong : ChangeSpec := { name := "fnPlayLog", fn := fun _ => fun
  | [d] => { results := [.lit (.bool false)], args := [d] }
  | _ => none }
def FnPlayLogWrongFalsely : Prop := fnPlayLogRow.holds Tryz.pinned (OpenSpec.ofChange fnPlayLogWrong)

/-- 'laws.FnPlayLock': WHATEVER THE INPUT: true; the input reads as it did. -/
def fnPlayLockSpec : ChangeSpec := { name := "fnPlayLock", fn := fun _ => fun
  | [d] => { results := [.lit (.bool true)], args := [d] }
  | _ => none }
def fnPlayLockRow : OpenClaim := { program := "ytklmhkglcfjclaagreat", sum := "caf2069f90b327848996b1fd8a9f854ccd5d79da5f924df0f32234b701caad88", func := "loop.example/tabularium/laws.FnPlayLock", spec := "fnPlayLock", unfollowed := true, recurses := true, apart := false }
def FnPlayLockSaid : Prop := fnPlayLockRow.holds Tryz.pinned (OpenSpec.ofChange fnPlayLockSpec)

/-- ITS FALSE NEIGHBOUR: 'it returns false'. Refute it at one input. -/
def fnPlayLockWrong : ChangeSpec := { name := "fnPlayLock", fn := fun _ => fun
  | [d] => { results := [.lit (.bool false)], args := [d] }
  | _ => none }
def FnPlayLockWrongFalsely : Prop := fnPlayLockRow.holds Tryz.pinned (OpenSpec.ofChange fnPlayLockWrong)

/-- 'laws.FnPlayRise': WHATEVER THE INPUT: true; the input reads as it did. -/
def fnPlayRiseSpec : ChangeSpec := { name := "fnPlayRise", fn := fun _ => fun
  | [d1, d2] => { results := [.lit (.bool true)], args := [d1, d2] }
  | _ => none }
def fnPlayRiseRow : OpenClaim := { program := "ytklmhkglcfjclaagreat", sum := "caf2069f90b327848996b1fd8a9f854ccd5d79da5f924df0f32234b701caad88", func := "loop.example/tabularium/laws.FnPlayRise", spec := "fnPlayRise", unfollowed := true, recurses := true, apart := false }
def FnPlayRiseSaid : Prop := fnPlayRiseRow.holds Tryz.pinned (OpenSpec.ofChange fnPlayRiseSpec)

/-- ITS FALSE NEIGHBOUR: 'it returns false'. Refute it at one input. -/
def fnPlayRiseWrong : ChangeSpec := { name := "fnPlayRise", fn := fun _ => fun
  | [d1, d2] => { results := [.lit (.bool false)], args := [d1, d2] }
  | _ => none }
def FnPlayRiseWrongFalsely : Prop := fnPlayRiseRow.holds Tryz.pinned (OpenSpec.ofChange fnPlayRiseWrong)

/-- 'laws.FnPlayWrite': WHATEVER THE INPUT: true; the input reads as it did. -/
def fnPlayWriteSpec : ChangeSpec := { name := "fnPlayWrite", fn := fun _ => fun
  | [d1, d2] => { results := [.lit (.bool true)], args := [d1, d2] }
  | _ => none }
def fnPlayWriteRow : OpenClaim := { program := "ytklmhkglcfjclaagreat", sum := "caf2069f90b327848996b1fd8a9f854ccd5d79da5f924df0f32234b701caad88", func := "loop.example/tabularium/laws.FnPlayWrite", spec := "fnPlayWrite", unfollowed := true, recurses := true, apart := false }
def FnPlayWriteSaid : Prop := fnPlayWriteRow.holds Tryz.pinned (OpenSpec.ofChange fnPlayWriteSpec)

/-- ITS FALSE NEIGHBOUR: 'it returns false'. Refute it at one input. -/
def fnPlayWriteWrong : ChangeSpec := { name := "fnPlayWrite", fn := fun _ => fun
  | [d1, d2] => { results := [.lit (.bool false)], args := [d1, d2] }
  | _ => none }
def FnPlayWriteWrongFalsely : Prop := fnPlayWriteRow.holds Tryz.pinned (OpenSpec.ofChange fnPlayWriteWrong)

/- THE SECOND FORM. 'bulk': how many values and letters a reading holds, each counted each time it is reached (what is shared counts as often as it is met; a slice's spare places count too). A statement '..UptoSaid' is the law's where the arguments, and the package variables that the reading takes, are together of bulk at most 1048576: NARROWER than '..Said'. Prove '..Said' where nothing that the law and all that it calls make is longer than what came in: it says more and counts as full. Else prove '..UptoSaid'. A law counts once. -/
mutual
def uptoBulk {H : Type} : DataW H → Nat
  | .lit (.string bytes) => bytes.length + 1
  | .lit _ => 1
  | .nil => 1
  | .ptr d => uptoBulk d + 1
  | .slice elems spare => uptoBulkAll elems + uptoBulkAll spare + 1
  | .agg parts => uptoBulkAll parts + 1
  | .iface _ d => uptoBulk d + 1
  | .map entries => uptoBulkEntries entries + 1
  | .held _ => 1
def uptoBulkAll {H : Type} : List (DataW H) → Nat
  | [] => 0
  | d :: r => uptoBulk d + uptoBulkAll r
def uptoBulkEntries {H : Type} : List (Lit × DataW H) → Nat
  | [] => 0
  | x :: r => uptoBulkEntry x + uptoBulkEntries r
def uptoBulkEntry {H : Type} : Lit × DataW H → Nat
  | (.string bytes, d) => bytes.length + uptoBulk d + 1
  | (_, d) => uptoBulk d + 1
 end
def uptoSmall : (H : Type) → List (DataW H) → Bool := fun _ ds => decide (uptoBulkAll ds ≤ 1048576)
def OpenSpec.upto (s : _root_.Go.ChangeSpec) : _root_.Go.OpenSpec := { _root_.Go.OpenSpec.ofChange s with cond := some uptoSmall }

/-- 'laws.FnExactRiseUp', WHERE WHAT IT READS IS OF BULK AT MOST 1048576: true; the input reads as it did. -/
def fnExactRiseUpUptoRow : OpenClaim := { program := "ytklmhkglcfjclaagreat", sum := "caf2069f90b327848996b1fd8a9f854ccd5d79da5f924df0f32234b701caad88", func := "loop.example/tabularium/laws.FnExactRiseUp", spec := "fnExactRiseUp", unfollowed := true, recurses := true, apart := false, narrowed := true }
def FnExactRiseUpUptoSaid : Prop := fnExactRiseUpUptoRow.holds Tryz.pinned (OpenSpec.upto fnExactRiseUpSpec)

/-- 'laws.FnPlayDown', WHERE WHAT IT READS IS OF BULK AT MOST 1048576: true; the input reads as it did. -/
def fnPlayDownUptoRow : OpenClaim := { program := "ytklmhkglcfjclaagreat", sum := "caf2069f90b327848996b1fd8a9f854ccd5d79da5f924df0f32234b701caad88", func := "loop.example/tabularium/laws.FnPlayDown", spec := "fnPlayDown", unfollowed := true, recurses := true, apart := false, narrowed := true }
def FnPlayDownUptoSaid : Prop := fnPlayDownUptoRow.holds Tryz.pinned (OpenSpec.upto fnPlayDownSpec)

/-- 'laws.FnPlayOwn', WHERE WHAT IT READS IS OF BULK AT MOST 1048576: true; the input reads as it did. -/
def fnPlayOwnUptoRow : OpenClaim := { program := "ytklmhkglcfjclaagreat", sum := "caf2069f90b327848996b1fd8a9f854ccd5d79da5f924df0f32234b701caad88", func := "loop.example/tabularium/laws.FnPlayOwn", spec := "fnPlayOwn", unfollowed := true, recurses := true, apart := false, narrowed := true }
def FnPlayOwnUptoSaid : Prop := fnPlayOwnUptoRow.holds Tryz.pinned (OpenSpec.upto fnPlayOwnSpec)

/-- 'laws.FnPlayQuiet', WHERE WHAT IT READS IS OF BULK AT MOST 1048576: true; the input reads as it did. -/
def fnPlayQuietUptoRow : OpenClaim := { program := "ytklmhkglcfjclaagreat", sum := "caf2069f90b327848996b1fd8a9f854ccd5d79da5f924df0f32234b701caad88", func := "loop.example/tabularium/laws.FnPlayQuiet", spec := "fnPlayQuiet", unfollowed := true, recurses := true, apart := false, narrowed := true }
def FnPlayQuietUptoSaid : Prop := fnPlayQuietUptoRow.holds Tryz.pinned (OpenSpec.upto fnPlayQuietSpec)

/-- 'laws.FnPlaySafe', WHERE WHAT IT READS IS OF BULK AT MOST 1048576: true; the input reads as it did. -/
def fnPlaySafeUptoRow : OpenClaim := { program := "ytklmhkglcfjclaagreat", sum := "caf2069f90b327848996b1fd8a9f854ccd5d79da5f924df0f32234b701caad88", func := "loop.example/tabularium/laws.FnPlaySafe", spec := "fnPlaySafe", unfollowed := true, recurses := true, apart := false, narrowed := true }
def FnPlaySafeUptoSaid : Prop := fnPlaySafeUptoRow.holds Tryz.pinned (OpenSpec.upto fnPlaySafeSpec)

/-- 'laws.FnPlayLog', WHERE WHAT IT READS IS OF BULK AT MOST 1048576: true; the input reads as it did. -/
def fnPlayLogUptoRow : OpenClaim := { program := "ytklmhkglcfjclaagreat", sum := "caf2069f90b327848996b1fd8a9f854ccd5d79da5f924df0f32234b701caad88", func := "loop.example/tabularium/laws.FnPlayLog", spec := "fnPlayLog", unfollowed := true, recurses := true, apart := false, narrowed := true }
def FnPlayLogUptoSaid : Prop := fnPlayLogUptoRow.holds Tryz.pinned (OpenSpec.upto fnPlayLogSpec)

/-- 'laws.FnPlayLock', WHERE WHAT IT READS IS OF BULK AT MOST 1048576: true; the input reads as it did. -/
def fnPlayLockUptoRow : OpenClaim := { program := "ytklmhkglcfjclaagreat", sum := "caf2069f90b327848996b1fd8a9f854ccd5d79da5f924df0f32234b701caad88", func := "loop.example/tabularium/laws.FnPlayLock", spec := "fnPlayLock", unfollowed := true, recurses := true, apart := false, narrowed := true }
def FnPlayLockUptoSaid : Prop := fnPlayLockUptoRow.holds Tryz.pinned (OpenSpec.upto fnPlayLockSpec)

/-- 'laws.FnPlayRise', WHERE WHAT IT READS IS OF BULK AT MOST 1048576: true; the input reads as it did. -/
def fnPlayRiseUptoRow : OpenClaim := { program := "ytklmhkglcfjclaagreat", sum := "caf2069f90b327848996b1fd8a9f854ccd5d79da5f924df0f32234b701caad88", func := "loop.example/tabularium/laws.FnPlayRise", spec := "fnPlayRise", unfollowed := true, recurses := true, apart := false, narrowed := true }
def FnPlayRiseUptoSaid : Prop := fnPlayRiseUptoRow.holds Tryz.pinned (OpenSpec.upto fnPlayRiseSpec)

/-- 'laws.FnPlayWrite', WHERE WHAT IT READS IS OF BULK AT MOST 1048576: true; the input reads as it did. -/
def fnPlayWriteUptoRow : OpenClaim := { program := "ytklmhkglcfjclaagreat", sum := "caf2069f90b327848996b1fd8a9f854ccd5d79da5f924df0f32234b701caad88", func := "loop.example/tabularium/laws.FnPlayWrite", spec := "fnPlayWrite", unfollowed := true, recurses := true, apart := false, narrowed := true }
def FnPlayWriteUptoSaid : Prop := fnPlayWriteUptoRow.holds Tryz.pinned (OpenSpec.upto fnPlayWriteSpec)

end Rows
end Go.Proofs.YtklmhkglcfjclaaGreat
