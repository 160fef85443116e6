/-
  No cell of these rows narrows 'for every input' (looked for: loops, veiled, ifaces, maps, wideKeys, modest, calm, conditions, laid).
  DERIVED. THE GIVEN ROWS OF THIS SEAT. 10 by the template 'for every input the law returns true; each argument reads behind the call as it read before'; 0 by the template 'total and deterministic' (their statements: YtofgeajaajfiaaaGreatTotals.lean).
  GIVEN WITH THE SEED: the statements are not yours to turn. If you find one false, say at which input.
  Laid BY PROGRAM, IN A SANDBOX (cutbox-rows.mjs): the forced cells as the released guide's own fill.sh prints them over the translation c7892ecc9f354cd7… (all of the seat's roots in one cut). By AI agents, Wed Nov 11 2026. No macro, syntax, notation, axiom, sorry.
-/
import Derived.Test.YtofgeajaajfiaaaGreatChecked
import GoSem.Claim
import GoSem.ClaimJoined
import GoSem.ClaimMapViews
import Derived.JoinedTies
import Derived.KernelRfl
namespace Go.Proofs.YtofgeajaajfiaaaGreat
/- THE CELL 'sum', in the pinned program and in every row, IS THE sha256 OF THE DUMP (.gsa) THAT YtofgeajaajfiaaaGreatProg.lean LOADS. Nothing in Lean hashes anything: it is a label: what it is worth is what the hold of that sum in a sandbox is worth. -/
noncomputable def Tryz.pinned : Pinned := { name := "ytofgeajaajfiaaagreat", sum := "c7892ecc9f354cd759c66bedd8251dac0fb93da0231665382b6dd044fb475334", checked := Tryz.checked }
namespace Rows
def none {H : Type} : Left H := { results := [], args := [] }

/-- 'laws.FnPlayDone': WHATEVER THE INPUT: true; the input reads as it did. -/
def fnPlayDoneSpec : ChangeSpec := { name := "fnPlayDone", fn := fun _ => fun
  | [d1, d2] => { results := [.lit (.bool true)], args := [d1, d2] }
  | _ => none }
def fnPlayDoneRow : OpenClaim := { program := "ytofgeajaajfiaaagreat", sum := "c7892ecc9f354cd759c66bedd8251dac0fb93da0231665382b6dd044fb475334", func := "loop.example/tabularium/laws.FnPlayDone", spec := "fnPlayDone", unfollowed := true, recurses := true, apart := false }
def FnPlayDoneSaid : Prop := fnPlayDoneRow.holds Tryz.pinned (OpenSpec.ofChange fnPlayDoneSpec)

/-- ITS FALSE NEIGHBOUR: 'it returns false'. Refute it at one input. -/
def fnPlayDoneWrong : ChangeSpec := { name := "fnPlayDone", fn := fun _ => fun
  | [d1, d2] => { results := [.lit (.bool false)], args := [d1, d2] }
  | _ => none }
def FnPlayDoneWrongFalsely : Prop := fnPlayDoneRow.holds Tryz.pinned (OpenSpec.ofChange fnPlayDoneWrong)

/-- 'laws.FnPlayApart': WHATEVER THE INPUT: true; the input reads as it did. -/
def fnPlayApartSpec : ChangeSpec := { name := "fnPlayApart", fn := fun _ => fun
  | [d1, d2] => { results := [.lit (.bool true)], args := [d1, d2] }
  | _ => none }
def fnPlayApartRow : OpenClaim := { program := "ytofgeajaajfiaaagreat", sum := "c7892ecc9f354cd759c66bedd8251dac0fb93da0231665382b6dd044fb475334", func := "loop.example/tabularium/laws.FnPlayApart", spec := "fnPlayApart", unfollowed := true, recurses := true, apart := false }
def FnPlayApartSaid : Prop := fnPlayApartRow.holds Tryz.pinned (OpenSpec.ofChange fnPlayApartSpec)

/-- ITS FALSE NEIGHBOUR: 'it returns false'. Refute it at one input. -/
def fnPlayApartWrong : ChangeSpec := { name := "fnPlayApart", fn := fun _ => fun
  | [d1, d2] => { results := [.lit (.bool false)], args := [d1, d2] }
  | _ => none }
def FnPlayApartWrongFalsely : Prop := fnPlayApartRow.holds Tryz.pinned (OpenSpec.ofChange fnPlayApartWrong)

/-- 'laws.FnPlayMore': WHATEVER THE INPUT: true; the input reads as it did. -/
def fnPlayMoreSpec : ChangeSpec := { name := "fnPlayMore", fn := fun _ => fun
  | [d1, d2] => { results := [.lit (.bool true)], args := [d1, d2] }
  | _ => none }
def fnPlayMoreRow : OpenClaim := { program := "ytofgeajaajfiaaagreat", sum := "c7892ecc9f354cd759c66bedd8251dac0fb93da0231665382b6dd044fb475334", func := "loop.example/tabularium/laws.FnPlayMore", spec := "fnPlayMore", unfollowed := true, recurses := true, apart := false }
def FnPlayMoreSaid : Prop := fnPlayMoreRow.holds Tryz.pinned (OpenSpec.ofChange fnPlayMoreSpec)

/-- ITS FALSE NEIGHBOUR: 'it returns false'. Refute it at one input. -/
def fnPlayMoreWrong : ChangeSpec := { name := "fnPlayMore", fn := fun _ => fun
  | [d1, d2] => { results := [.lit (.bool false)], args := [d1, d2] }
  | _ => none }
def FnPlayMoreWrongFalsely : Prop := fnPlayMoreRow.holds Tryz.pinned (OpenSpec.ofChange fnPlayMoreWrong)

/-- 'laws.FnPlaySum': WHATEVER THE INPUT: true; the input reads as it did. -/
def fnPlaySumSpec : ChangeSpec := { name := "fnPlaySum", fn := fun _ => fun
  | [d1, d2] => { results := [.lit (.bool true)], args := [d1, d2] }
  | _ => none }
def fnPlaySumRow : OpenClaim := { program := "ytofgeajaajfiaaagreat", sum := "c7892ecc9f354cd759c66bedd8251dac0fb93da0231665382b6dd044fb475334", func := "loop.example/tabularium/laws.FnPlaySum", spec := "fnPlaySum", unfollowed := true, recurses := true, apart := false }
def FnPlaySumSaid : Prop := fnPlaySumRow.holds Tryz.pinned (OpenSpec.ofChange fnPlaySumSpec)

/-- ITS FALSE NEIGHBOUR: 'it returns false'. Refute it at one input. -/
def fnPlaySumWrong : ChangeSpec := { name := "fnPlaySum", fn := fun _ => fun
  | [d1, d2] => { results := [.lit (.bool false)], args := [d1, d2] }
  | _ => none }
def FnPlaySumWrongFalsely : Prop := fnPlaySumRow.holds Tryz.pinned (OpenSpec.ofChange fnPlaySumWrong)

/-- 'laws.FnTrue': WHATEVER THE INPUT: true; the input reads as it did. -/
def fnTrueSpec : ChangeSpec := { name := "fnTrue", fn := fun _ => fun
  | [d1, d2] => { results := [.lit (.bool true)], args := [d1, d2] }
  | _ => none }
def fnTrueRow : OpenClaim := { program := "ytofgeajaajfiaaagreat", sum := "c7892ecc9f354cd759c66bedd8251dac0fb93da0231665382b6dd044fb475334", func := "loop.example/tabularium/laws.FnTrue", spec := "fnTrue", unfollowed := true, recurses := true, apart := false }
def FnTrueSaid : Prop := fnTrueRow.holds Tryz.pinned (OpenSpec.ofChange fnTrueSpec)

/-- ITS FALSE NEIGHBOUR: 'it returns false'. Refute it at one input. -/
def fnTrueWrong : ChangeSpec := { name := "fnTrue", fn := fun _ => fun
  | [d1, d2] => { results := [.lit (.bool false)], args := [d1, d2] }
  | _ => none }
def FnTrueWrongFalsely : Prop := fnTrueRow.holds Tryz.pinned (OpenSpec.ofChange fnTrueWrong)

/-- 'laws.FnTrueUndo': WHATEVER THE INPUT: true; the input reads as it did. -/
def fnTrueUndoSpec : ChangeSpec := { name := "fnTrueUndo", fn := fun _ => fun
  | [d] => { results := [.lit (.bool true)], args := [d] }
  | _ => none }
def fnTrueUndoRow : OpenClaim := { program := "ytofgeajaajfiaaagreat", sum := "c7892ecc9f354cd759c66bedd8251dac0fb93da0231665382b6dd044fb475334", func := "loop.example/tabularium/laws.FnTrueUndo", spec := "fnTrueUndo", unfollowed := true, recurses := true, apart := false }
def FnTrueUndoSaid : Prop := fnTrueUndoRow.holds Tryz.pinned (OpenSpec.ofChange fnTrueUndoSpec)

/-- ITS FALSE NEIGHBOUR: 'it returns false'. Refute it at one input. -/
def fnTrueUndoWrong : ChangeSpec := { name := "fnTrueUndo", fn := fun _ => fun
  | [d] => { results := [.lit (.bool false)], args := [d] }
  | _ => none }
def FnTrueUndoWrongFalsely : Prop := fnTrueUndoRow.holds Tryz.pinned (OpenSpec.ofChange fnTrueUndoWrong)

/-- 'laws.FnTrueStays': WHATEVER THE INPUT: true; the input reads as it did. -/
def fnTrueStaysSpec : ChangeSpec := { name := "fnTrueStays", fn := fun _ => fun
  | [d1, d2] => { results := [.lit (.bool true)], args := [d1, d2] }
  | _ => none }
def fnTrueStaysRow : OpenClaim := { program := "ytofgeajaajfiaaagreat", sum := "c7892ecc9f354cd759c66bedd8251dac0fb93da0231665382b6dd044fb475334", func := "loop.example/tabularium/laws.FnTrueStays", spec := "fnTrueStays", unfollowed := true, recurses := true, apart := false }
def FnTrueStaysSaid : Prop := fnTrueStaysRow.holds Tryz.pinned (OpenSpec.ofChange fnTrueStaysSpec)

/-- ITS FALSE NEIGHBOUR: 'it returns false'. Refute it at one input. -/
def fnTrueStaysWrong : ChangeSpec := { name := "fnTrueStays", fn := fun _ => fun
  | [d1, d2] => { results := [.lit (.bool false)], args := [d1, d2] }
  | _ => none }
def FnTrueStaysWrongFalsely : Prop := fnTrueStaysRow.holds Tryz.pinned (OpenSpec.ofChange fnTrueStaysWrong)

/-- 'laws.FnTrueNone': WHATEVER THE INPUT: true; the input reads as it did. -/
def fnTrueNoneSpec : ChangeSpec := { name := "fnTrueNone", fn := fun _ => fun
  | [d] => { results := [.lit (.bool true)], args := [d] }
  | _ => none }
def fnTrueNoneRow : OpenClaim := { program := "ytofgeajaajfiaaagreat", sum := "c7892ecc9f354cd759c66bedd8251dac0fb93da0231665382b6dd044fb475334", func := "loop.example/tabularium/laws.FnTrueNone", spec := "fnTrueNone", unfollowed := true, recurses := true, apart := false }
def FnTrueNoneSaid : Prop := fnTrueNoneRow.holds Tryz.pinned (OpenSpec.ofChange fnTrueNoneSpec)

/-- ITS FALSE NEIGHBOUR: 'it returns false'. Refute it at one input. -/
def fnTrueNoneWrong : ChangeSpec := { name := "fnTrueNone", fn := fun _ => fun
  | [d] => { results := [.lit (.bool false)], args := [d] }
  | _ => none }
def FnTrueNoneWrongFalsely : Prop := fnTrueNoneRow.holds Tryz.pinned (OpenSpec.ofChange fnTrueNoneWrong)

/-- 'laws.FnTrueSame': WHATEVER THE INPUT: true; the input reads as it did. -/
def fnTrueSameSpec : ChangeSpec := { name := "fnTrueSame", fn := fun _ => fun
  | [d] => { results := [.lit (.bool true)], args := [d] }
  | _ => none }
def fnTrueSameRow : OpenClaim := { program := "ytofgeajaajfiaaagreat", sum := "c7892ecc9f354cd759c66bedd8251dac0fb93da0231665382b6dd044fb475334", func := "loop.example/tabularium/laws.FnTrueSame", spec := "fnTrueSame", unfollowed := true, recurses := true, apart := false }
def FnTrueSameSaid : Prop := fnTrueSameRow.holds Tryz.pinned (OpenSpec.ofChange fnTrueSameSpec)

/-- ITS FALSE NEIGHBOUR: 'it returns false'. Refute it at one input. -/
def fnTrueSameWrong : ChangeSpec := { name := "fnTrueSame", fn := fun _ => fun
  | [d] => { results := [.lit (.bool false)], args := [d] }
  | _ => none }
def FnTrueSameWrongFalsely : Prop := fnTrueSameRow.holds Tryz.pinned (OpenSpec.ofChange fnTrueSameWrong)

/-- 'laws.FnPlaySums': WHATEVER THE INPUT: true; the input reads as it did. -/
def fnPlaySumsSpec : ChangeSpec := { name := "fnPlaySums", fn := fun _ => fun
  | [d1, d2] => { results := [.lit (.bool true)], args := [d1, d2] }
  | _ => none }
def fnPlaySumsRow : OpenClaim := { program := "ytofgeajaajfiaaagreat", sum := "c7892ecc9f354cd759c66bedd8251dac0fb93da0231665382b6dd044fb475334", func := "loop.example/tabularium/laws.FnPlaySums", spec := "fnPlaySums", unfollowed := true, recurses := true, apart := false }
def FnPlaySumsSaid : Prop := fnPlaySumsRow.holds Tryz.pinned (OpenSpec.ofChange fnPlaySumsSpec)

/-- ITS FALSE NEIGHBOUR: 'it returns false'. Refute it at one input. -/
def fnPlaySumsWrong : ChangeSpec := { name := "fnPlaySums", fn := fun _ => fun
  | [d1, d2] => { results := [.lit (.bool false)], args := [d1, d2] }
  | _ => none }
def FnPlaySumsWrongFalsely : Prop := fnPlaySumsRow.holds Tryz.pinned (OpenSpec.ofChange fnPlaySumsWrong)

/- THE SECOND FORM. 'bulk': how many values and letters a reading holds, each counted each time it is reached (what is shared counts as often as it is met; a slice's spare places count too). A statement '..UptoSaid' is the law's where the arguments, and the package variables that the reading takes, are together of bulk at most 1048576: NARROWER than '..Said'. Prove '..Said' where nothing that the law and all that it calls make is longer than what came in: it says more and counts as full. Else prove '..UptoSaid'. A law counts once. -/
mutual
def uptoBulk {H : Type} : DataW H → Nat
  | .lit (.string bytes) => bytes.length + 1
  | .lit _ => 1
  | .nil => 1
  | .ptr d => uptoBulk d + 1
  | .slice elems spare => uptoBulkAll elems + uptoBulkAll spare + 1
  | .agg parts => uptoBulkAll parts + 1
  | .iface _ d => uptoBulk d + 1
  | .map entries => uptoBulkEntries entries + 1
  | .held _ => 1
def uptoBulkAll {H : Type} : List (DataW H) → Nat
  | [] => 0
  | d :: r => uptoBulk d + uptoBulkAll r
def uptoBulkEntries {H : Type} : List (Lit × DataW H) → Nat
  | [] => 0
  | x :: r => uptoBulkEntry x + uptoBulkEntries r
def uptoBulkEntry {H : Type} : Lit × DataW H → Nat
  | (.string bytes, d) => bytes.length + uptoBulk d + 1
  | (_, d) => uptoBulk d + 1
 end
def uptoSmall : (H : Type) → List (DataW H) → Bool := fun _ ds => decide (uptoBulkAll ds ≤ 1048576)
def OpenSpec.upto (s : _root_.Go.ChangeSpec) : _root_.Go.OpenSpec := { _root_.Go.OpenSpec.ofChange s with cond := some uptoSmall }

/-- 'laws.FnPlayDone', WHERE WHAT IT READS IS OF BULK AT MOST 1048576: true; the input reads as it did. -/
def fnPlayDoneUptoRow : OpenClaim := { program := "ytofgeajaajfiaaagreat", sum := "c7892ecc9f354cd759c66bedd8251dac0fb93da0231665382b6dd044fb475334", func := "loop.example/tabularium/laws.FnPlayDone", spec := "fnPlayDone", unfollowed := true, recurses := true, apart := false, narrowed := true }
def FnPlayDoneUptoSaid : Prop := fnPlayDoneUptoRow.holds Tryz.pinned (OpenSpec.upto fnPlayDoneSpec)

/-- 'laws.FnPlayApart', WHERE WHAT IT READS IS OF BULK AT MOST 1048576: true; the input reads as it did. -/
def fnPlayApartUptoRow : OpenClaim := { program := "ytofgeajaajfiaaagreat", sum := "c7892ecc9f354cd759c66bedd8251dac0fb93da0231665382b6dd044fb475334", func := "loop.example/tabularium/laws.FnPlayApart", spec := "fnPlayApart", unfollowed := true, recurses := true, apart := false, narrowed := true }
def FnPlayApartUptoSaid : Prop := fnPlayApartUptoRow.holds Tryz.pinned (OpenSpec.upto fnPlayApartSpec)

/-- 'laws.FnPlayMore', WHERE WHAT IT READS IS OF BULK AT MOST 1048576: true; the input reads as it did. -/
def fnPlayMoreUptoRow : OpenClaim := { program := "ytofgeajaajfiaaagreat", sum := "c7892ecc9f354cd759c66bedd8251dac0fb93da0231665382b6dd044fb475334", func := "loop.example/tabularium/laws.FnPlayMore", spec := "fnPlayMore", unfollowed := true, recurses := true, apart := false, narrowed := true }
def FnPlayMoreUptoSaid : Prop := fnPlayMoreUptoRow.holds Tryz.pinned (OpenSpec.upto fnPlayMoreSpec)

/-- 'laws.FnPlaySum', WHERE WHAT IT READS IS OF BULK AT MOST 1048576: true; the input reads as it did. -/
def fnPlaySumUptoRow : OpenClaim := { program := "ytofgeajaajfiaaagreat", sum := "c7892ecc9f354cd759c66bedd8251dac0fb93da0231665382b6dd044fb475334", func := "loop.example/tabularium/laws.FnPlaySum", spec := "fnPlaySum", unfollowed := true, recurses := true, apart := false, narrowed := true }
def FnPlaySumUptoSaid : Prop := fnPlaySumUptoRow.holds Tryz.pinned (OpenSpec.upto fnPlaySumSpec)

/-- 'laws.FnTrue', WHERE WHAT IT READS IS OF BULK AT MOST 1048576: true; the input reads as it did. -/
def fnTrueUptoRow : OpenClaim := { program := "ytofgeajaajfiaaagreat", sum := "c7892ecc9f354cd759c66bedd8251dac0fb93da0231665382b6dd044fb475334", func := "loop.example/tabularium/laws.FnTrue", spec := "fnTrue", unfollowed := true, recurses := true, apart := false, narrowed := true }
def FnTrueUptoSaid : Prop := fnTrueUptoRow.holds Tryz.pinned (OpenSpec.upto fnTrueSpec)

/-- 'laws.FnTrueUndo', WHERE WHAT IT READS IS OF BULK AT MOST 1048576: true; the input reads as it did. -/
def fnTrueUndoUptoRow : OpenClaim := { program := "ytofgeajaajfiaaagreat", sum := "c7892ecc9f354cd759c66bedd8251dac0fb93da0231665382b6dd044fb475334", func := "loop.example/tabularium/laws.FnTrueUndo", spec := "fnTrueUndo", unfollowed := true, recurses := true, apart := false, narrowed := true }
def FnTrueUndoUptoSaid : Prop := fnTrueUndoUptoRow.holds Tryz.pinned (OpenSpec.upto fnTrueUndoSpec)

/-- 'laws.FnTrueStays', WHERE WHAT IT READS IS OF BULK AT MOST 1048576: true; the input reads as it did. -/
def fnTrueStaysUptoRow : OpenClaim := { program := "ytofgeajaajfiaaagreat", sum := "c7892ecc9f354cd759c66bedd8251dac0fb93da0231665382b6dd044fb475334", func := "loop.example/tabularium/laws.FnTrueStays", spec := "fnTrueStays", unfollowed := true, recurses := true, apart := false, narrowed := true }
def FnTrueStaysUptoSaid : Prop := fnTrueStaysUptoRow.holds Tryz.pinned (OpenSpec.upto fnTrueStaysSpec)

/-- 'laws.FnTrueNone', WHERE WHAT IT READS IS OF BULK AT MOST 1048576: true; the input reads as it did. -/
def fnTrueNoneUptoRow : OpenClaim := { program := "ytofgeajaajfiaaagreat", sum := "c7892ecc9f354cd759c66bedd8251dac0fb93da0231665382b6dd044fb475334", func := "loop.example/tabularium/laws.FnTrueNone", spec := "fnTrueNone", unfollowed := true, recurses := true, apart := false, narrowed := true }
def FnTrueNoneUptoSaid : Prop := fnTrueNoneUptoRow.holds Tryz.pinned (OpenSpec.upto fnTrueNoneSpec)

/-- 'laws.FnTrueSame', WHERE WHAT IT READS IS OF BULK AT MOST 1048576: true; the input reads as it did. -/
def fnTrueSameUptoRow : OpenClaim := { program := "ytofgeajaajfiaaagreat", sum := "c7892ecc9f354cd759c66bedd8251dac0fb93da0231665382b6dd044fb475334", func := "loop.example/tabularium/laws.FnTrueSame", spec := "fnTrueSame", unfollowed := true, recurses := true, apart := false, narrowed := true }
def FnTrueSameUptoSaid : Prop := fnTrueSameUptoRow.holds Tryz.pinned (OpenSpec.upto fnTrueSameSpec)

/-- 'laws.FnPlaySums', WHERE WHAT IT READS IS OF BULK AT MOST 1048576: true; the input reads as it did. -/
def fnPlaySumsUptoRow : OpenClaim := { program := "ytofgeajaajfiaaagreat", sum := "c7892ecc9f354cd759c66bedd8251dac0fb93da0231665382b6dd044fb475334", func := "loop.example/tabularium/laws.FnPlaySums", spec := "fnPlaySums", unfollowed := true, recurses := true, apart := false, narrowed := true }
def FnPlaySumsUptoSaid : Prop := fnPlaySumsUptoRow.holds Tryz.pinned (OpenSpec.upto fnPlaySumsSpec)

end Rows
end Go.Proofs.YtofgeajaajfiaaaGreat
