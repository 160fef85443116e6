/- Proved here: for every engine and every number that are handed in, laws.FnExactRiseFall returns true (the program's RiseFall returns what the reference's returns, leaves its argument as it was, and hands back memory of its own). Conditions: none beyond those that the given statement itself bears. -/
import Derived.Test.YtlmlcnokiipilaaGreatD4
import Derived.Deep.Slices
import Derived.OpenShut
import Derived.Deep.Strs
import Derived.WalkKit
import Derived.ProofKit
import Derived.ShutString
import Derived.ChangeOld
import Derived.Below
import Derived.SizedLaws
/- What an engine that came in reads as. -/
namespace Go.Proofs.YtlmlcnokiipilaaGreat
open Go.RowKit Go.Proofs.YtlmlcnokiipilaaGreatW.PrintWords Go.Proofs.YtlmlcnokiipilaaGreatW.PrintLast Go.Proofs.YtlmlcnokiipilaaGreatW.PrintMore Go.ChangeShapes Go.WideShapes Go.Deep

section
variable {H : Type} {enc : TypeId × Value → H} {P : Program} {w : World} {spare : Nat → Bool} {held : Bool}
/-- Whatever is read at this type has cells of this kind. -/
def Opens (P : Program) (enc : TypeId × Value → H) (w : World) (spare : Nat → Bool) (held : Bool) {α : Type} (d : Kd α) (t : TypeId) : Prop :=
  ∀ fuel cs x, DataW.trod enc P w 0 spare held fuel t cs = some x → ∃ a, d.K w a cs
theorem opens_int {t : TypeId} {k : IntKind} (ht : P.underlying t = some (.int k)) : Opens P enc w spare held (Kd.int k) t := by
  intro fuel cs x h
  obtain ⟨n, rfl, -⟩ := DataW.trod_int ht h
  exact ⟨n, rfl⟩
theorem opens_bool {t : TypeId} (ht : P.underlying t = some .bool) : Opens P enc w spare held Kd.bool t := by
  intro fuel cs x h
  obtain ⟨n, rfl, -⟩ := DataW.trod_bool ht h
  exact ⟨n, rfl⟩
theorem cells_at {a : Addr} {n : Nat} {cs : List Value} (h : w.cells? 0 a n = some cs) (i : Nat) (u : Value) (hi : cs[i]? = some u) : w.cell? (a.add i) = some u := by
  unfold World.cells? at h
  rw [if_pos (Nat.zero_le _)] at h
  have hl := mapM_some_length h
  have hlt : i < n := by have := (List.getElem?_eq_some_iff.1 hi).1; simp at hl; omega
  rw [mapM_some_get h i i (by simp [hlt]), hi]
theorem opens_slice {α : Type} {d : Kd α} {t e : TypeId} (ht : P.underlying t = some (.slice e)) (hsz : P.cellsOf e = d.sz) (hd : Opens P enc w (fun _ => true) held d e) : Opens P enc w (fun _ => true) held (Kd.slice e d) t := by
  intro fuel cs x h
  rcases open_slice ht h with ⟨rfl, -⟩ | ⟨a, len, cap, m, n, D, Pl, rfl, -, hl, hc, hm, -, hel⟩
  · exact ⟨[], none, 0, rfl, Nat.le_refl _, rfl, by simp, fun h0 => by simp at h0⟩
  · rw [if_pos rfl] at hm
    subst hm
    have key : ∀ j, j ≤ len → ∃ xs : List α, xs.length = j ∧ ∀ i p, xs[i]? = some p → ∃ c, c.length = d.sz ∧ d.K w p c ∧ ∀ k u, c[k]? = some u → w.cell? (a.add (i * d.sz + k)) = some u := by
      intro j
      induction j with
      | zero => exact fun _ => ⟨[], rfl, fun i p hp => by simp at hp⟩
      | succ j ih =>
        intro hj
        obtain ⟨xs, h1, h2⟩ := ih (by omega)
        obtain ⟨cs', h3, h4⟩ := hel j (by omega)
        obtain ⟨p, hp⟩ := hd _ _ _ h4
        refine ⟨xs ++ [p], by simp [h1], fun i q hq => ?_⟩
        by_cases hi : i < j
        · exact h2 i q (by rwa [List.getElem?_append_left (by omega)] at hq)
        · have hlt := (List.getElem?_eq_some_iff.1 hq).1
          have hij : i = j := by simp [h1] at hlt; omega
          subst hij
          rw [List.getElem?_append_right (by omega), h1, Nat.sub_self] at hq
          cases hq
          refine ⟨cs', d.K_len hp, hp, fun k u hk => ?_⟩
          rw [hsz] at h3
          rw [← Go.Deep.add_add]
          exact cells_at h3 k u hk
    obtain ⟨xs, h1, h2⟩ := key len (Nat.le_refl _)
    exact ⟨xs, some a, m, by rw [h1], by rw [h1]; exact hl, rfl, by rw [h1]; have : maxLen = 9223372036854775807 := rfl; omega, fun _ => ⟨a, rfl, h2⟩⟩
theorem struct_fields {t : TypeId} {fs : Array Field} {fuel : Nat} {cs : List Value} {x : DataW H × List MemPlace} (ht : P.underlying t = some (.struct fs)) (h : DataW.trod enc P w 0 spare held fuel t cs = some x) :
    cs.length = P.cellsOf t ∧ ∃ n, ∀ (i : Nat) (f : Field), fs[i]? = some f → ∃ y, DataW.trod enc P w 0 spare held n f.type ((cs.drop f.offset).take (P.cellsOf f.type)) = some y := by
  obtain ⟨xs, n, -, -, hl, hx, hf⟩ := DataW.trod_struct ht h
  refine ⟨hl, n, fun i f hi => ?_⟩
  have hlt : i < xs.length := by rw [hx]; exact (Array.getElem?_eq_some_iff.1 hi).1
  exact ⟨_, (hf i f hi).trans (List.getElem?_eq_getElem hlt)⟩
end
section
variable {H : Type} {enc : TypeId × Value → H} {w : World} {held : Bool}
theorem int_at {n : Nat} {u : Value} {y : DataW H × List MemPlace} {spare : Nat → Bool} (h : DataW.trod enc Tryz.prog w 0 spare held n 3 [u] = some y) : ∃ a : Int, u = .int .i64 a := by
  obtain ⟨a, ha⟩ := opens_int Tryz.underlying3 _ _ _ h
  exact ⟨a, by injection ha⟩
theorem ints_at {n : Nat} {u : Value} {y : DataW H × List MemPlace} (h : DataW.trod enc Tryz.prog w 0 (fun _ => true) held n 44 [u] = some y) : ∃ A xs c, u = .slice A (List.length xs) c ∧ xs.length ≤ c ∧ (Kd.int .i64).C w A xs.length xs := by
  obtain ⟨xs, A, c, he, h1, h2⟩ := opens_slice (d := Kd.int .i64) Tryz.underlying44 (by kernel_rfl) (opens_int Tryz.underlying3) _ _ _ h
  exact ⟨A, xs, c, by injection he, h1, h2⟩
set_option maxRecDepth 100000 in
theorem opens_page : Opens Tryz.prog enc w (fun _ => true) held kPage 89 := by
  intro fuel cs x h
  obtain ⟨hl, n, hf⟩ := struct_fields Tryz.underlying89 h
  have hl3 : cs.length = 3 := hl.trans (by kernel_rfl)
  match cs, hl3 with
  | [u0, u1, u2], _ =>
    obtain ⟨y0, h0⟩ := hf 0 _ rfl
    obtain ⟨y1, h1⟩ := hf 1 _ rfl
    obtain ⟨y2, h2⟩ := hf 2 _ rfl
    obtain ⟨a, rfl⟩ := int_at (u := u0) h0
    obtain ⟨b, rfl⟩ := int_at (u := u1) h1
    obtain ⟨A, xs, c, rfl, h3, h4⟩ := ints_at (u := u2) h2
    exact ⟨⟨a, b, xs⟩, kPage_mk w ⟨a, b, xs⟩ h3 h4⟩
set_option maxRecDepth 100000 in
theorem opens_rec : Opens Tryz.prog enc w (fun _ => true) held kRec 97 := by
  intro fuel cs x h
  obtain ⟨hl, n, hf⟩ := struct_fields Tryz.underlying97 h
  have hl3 : cs.length = 8 := hl.trans (by kernel_rfl)
  match cs, hl3 with
  | [u0, u1, u2, u3, u4, u5, u6, u7], _ =>
    obtain ⟨y0, h0⟩ := hf 0 _ rfl
    obtain ⟨y1, h1⟩ := hf 1 _ rfl
    obtain ⟨y2, h2⟩ := hf 2 _ rfl
    obtain ⟨y3, h3⟩ := hf 3 _ rfl
    obtain ⟨y4, h4⟩ := hf 4 _ rfl
    obtain ⟨y5, h5⟩ := hf 5 _ rfl
    obtain ⟨y6, h6⟩ := hf 6 _ rfl
    obtain ⟨y7, h7⟩ := hf 7 _ rfl
    obtain ⟨a0, rfl⟩ := int_at (u := u0) h0
    obtain ⟨a1, rfl⟩ := int_at (u := u1) h1
    obtain ⟨a2, rfl⟩ := int_at (u := u2) h2
    obtain ⟨a3, rfl⟩ := int_at (u := u3) h3
    obtain ⟨a4, rfl⟩ := int_at (u := u4) h4
    obtain ⟨a5, rfl⟩ := int_at (u := u5) h5
    obtain ⟨a6, rfl⟩ := int_at (u := u6) h6
    obtain ⟨a7, rfl⟩ := int_at (u := u7) h7
    exact ⟨⟨a0, a1, a2, a3, a4, a5, a6, a7⟩, Kd.K_of_M _ (kRec_mk w 0 (fun _ => True) ⟨a0, a1, a2, a3, a4, a5, a6, a7⟩)⟩
set_option maxRecDepth 100000 in
theorem opens_engine {fuel : Nat} {cs : List Value} {x : DataW H × List MemPlace} (h : DataW.trod enc Tryz.prog w 0 (fun _ => true) held fuel 25 cs = some x) :
    ∃ (e : Eng) (Ad Am Al : Option Addr) (cd cm cl : Nat), cs = [.slice Ad e.disk.length cd, .slice Am e.mem.length cm, .slice Al e.log.length cl, .int .i64 e.safe, .bool e.down] ∧ e.log.length ≤ cl ∧ EngC w e Ad Am Al := by
  obtain ⟨hl, n, hf⟩ := struct_fields Tryz.underlying25 h
  have hl3 : cs.length = 5 := hl.trans (by kernel_rfl)
  match cs, hl3 with
  | [u0, u1, u2, u3, u4], _ =>
    obtain ⟨y0, h0⟩ := hf 0 _ rfl
    obtain ⟨y1, h1⟩ := hf 1 _ rfl
    obtain ⟨y2, h2⟩ := hf 2 _ rfl
    obtain ⟨y3, h3⟩ := hf 3 _ rfl
    obtain ⟨y4, h4⟩ := hf 4 _ rfl
    obtain ⟨ps, Ad, cd, e0, -, k0⟩ := opens_slice (d := kPage) Tryz.underlying22 (by kernel_rfl) opens_page _ [u0] _ h0
    obtain ⟨qs, Am, cm, e1, -, k1⟩ := opens_slice (d := kPage) Tryz.underlying22 (by kernel_rfl) opens_page _ [u1] _ h1
    obtain ⟨l, Al, cl, e2, k3, k2⟩ := opens_slice (d := kRec) Tryz.underlying23 (by kernel_rfl) opens_rec _ [u2] _ h2
    obtain ⟨s, rfl⟩ := int_at (u := u3) h3
    obtain ⟨b, e4⟩ := opens_bool Tryz.underlying4 _ [u4] _ h4
    injection e0 with e0
    injection e1 with e1
    injection e2 with e2
    injection e4 with e4
    subst e0 e1 e2 e4
    exact ⟨⟨ps, qs, l, s, b⟩, Ad, Am, Al, cd, cm, cl, rfl, k3, ⟨k0, k1, k2⟩⟩
end
end Go.Proofs.YtlmlcnokiipilaaGreat

/- laws.FnExactRiseFall: whatever the engine, and the number, it returns true, and the engine reads as it did. -/
namespace Go.Proofs.YtlmlcnokiipilaaGreat.fnExactRiseFall
open Go.ChangeShapes Go.WideShapes Go.ChangeAt Go.RowKit Go.Proofs.YtlmlcnokiipilaaGreat
theorem own : ownKnob Tryz.prog.godebug = none := by kernel_rfl
theorem laidOut : laidOutB Tryz.prog = true := by kernel_rfl
set_option maxRecDepth 100000 in
theorem lifted (os : Os) (started : os.Started) (H : Type) (enc : TypeId × Value → H) :
    ReturnsInHanded {} Tryz.checked os 4 .any (Rows.fnExactRiseFallSpec.pre6 enc Tryz.prog Tryz.f4 Rows.fnExactRiseFallRow.domain false) (Rows.fnExactRiseFallSpec.post enc Tryz.prog Tryz.f4 false true false false) := by
  refine returnsInHanded_of_change_sized (C := Tryz.checked) own started (by kernel_rfl) Tryz.func4
    (ChangeSpec.witness6 (enc := enc) (C := Tryz.checked) false ⟨#[], #[.agg #[.slice none 0 0, .slice none 0 0, .slice none 0 0, .int .i64 0, .bool false], .int .i64 0], []⟩ 8 (by kernel_rfl) (by kernel_rfl) (by kernel_rfl) (by kernel_rfl)) ?_
  intro W base args ds gs before hval0 hW hcnd hsz0 _
  have hval : ∀ (j : Nat) t v, Tryz.f4.params[j]? = some t → args[j]? = some v → Value.okWide Tryz.prog W .any base t v := hval0
  have hW' := hW
  obtain ⟨p, q, hA0, hV, rfl, hfz, hnd⟩ := hW
  have hA : DataW.TrodAll enc Tryz.prog W 0 (fun _ => true) true Tryz.f4.params.toList args.toList ds p := hA0
  rw [Tryz.params4] at hA hval
  obtain ⟨v0, vs0, d0, ds0, p0, q0, hargs, rfl, rfl, h0, r0⟩ := trodAll_cons hA
  obtain ⟨v1, vs1, d1, ds1, p1, q1, rfl, rfl, rfl, h1, r1⟩ := trodAll_cons r0
  obtain ⟨rfl, rfl, rfl⟩ := trodAll_nil r1
  obtain rfl : args = #[v0, v1] := by cases args; simp_all
  obtain ⟨rfl, rfl⟩ := trodVars_none hV
  have k1 := h1
  have lt1 : ∀ x ∈ p1, x.block < W.heap.size := by obtain ⟨m, hm⟩ := k1; exact DataW.trod_lt m _ _ _ hm
  obtain ⟨left, rfl⟩ := okWide_int Tryz.underlying3 (hval 1 3 v1 rfl rfl)
  have k0 := h0
  have lt0 : ∀ x ∈ p0, x.block < W.heap.size := by obtain ⟨m, hm⟩ := k0; exact DataW.trod_lt m _ _ _ hm
  obtain ⟨cs, rfl, hcs⟩ := okWide_struct Tryz.underlying25 (hval 0 25 v0 rfl rfl)
  obtain ⟨fuel, hf⟩ := h0
  obtain ⟨e, Ad, Am, Al, cd, cm, cl, he, hcl, hr⟩ := opens_engine hf
  obtain rfl : cs = #[.slice Ad e.disk.length cd, .slice Am e.mem.length cm, .slice Al e.log.length cl, .int .i64 e.safe, .bool e.down] := by
    apply Array.ext'
    simpa [Value.cells] using he
  clear hA0 hval0 hsz0 hval hA
  refine (FnExactRiseFall_calls (w0 := W) left (Below.refl _ _) hr).mono fun e1 W' ⟨he1, bel⟩ => ?_
  subst he1
  exact ⟨_, rfl, _, _, _, [], _, [], hW', trodAll_mk1 (shut_bool Tryz.underlying4 _), (trodAll_cons_mk (Below.trod laidOut (by kernel_rfl) (of_decide_eq_true (by kernel_rfl)) k0 bel lt0) (trodAll_cons_mk (Below.trod laidOut (by kernel_rfl) (of_decide_eq_true (by kernel_rfl)) k1 bel lt1) trodAll_mk0)), rfl, bel.frame _, fun h => by cases h⟩
theorem k24b : (Rows.fnExactRiseFallRow.lifted == Tryz.pinned.checked.prog.liftsFinal) = true := by
  rw [show Tryz.pinned.checked.prog.liftsFinal = false from lifts_final]
  rfl
theorem k24c : (Tryz.pinned.checked.prog.make == some Rows.fnExactRiseFallRow.make) = true := by
  rw [show Tryz.pinned.checked.prog.make = some Make.cut from made_cut]
  rfl
set_option maxRecDepth 100000 in
set_option maxHeartbeats 8000000 in
theorem closed : joinedFacts Tryz.pinned.checked.prog 4 Tryz.f4 Rows.fnExactRiseFallSpec Rows.fnExactRiseFallRow = true := by
  simp only [joinedFacts, Bool.and_eq_true]
  exact ⟨⟨⟨⟨⟨⟨⟨⟨⟨⟨⟨⟨⟨⟨⟨⟨⟨⟨⟨⟨⟨⟨⟨⟨⟨⟨⟨⟨⟨⟨⟨(by as_aux_lemma => kernel_rfl), (by as_aux_lemma => kernel_rfl)⟩, (by as_aux_lemma => kernel_rfl)⟩, (by as_aux_lemma => kernel_rfl)⟩, (by as_aux_lemma => kernel_rfl)⟩, (by as_aux_lemma => kernel_rfl)⟩, (by as_aux_lemma => kernel_rfl)⟩, (by as_aux_lemma => kernel_rfl)⟩, (by as_aux_lemma => kernel_rfl)⟩, (by as_aux_lemma => kernel_rfl)⟩, (by as_aux_lemma => kernel_rfl)⟩, (by as_aux_lemma => kernel_rfl)⟩, (by as_aux_lemma => kernel_rfl)⟩, (by as_aux_lemma => kernel_rfl)⟩, (by as_aux_lemma => kernel_rfl)⟩, (by as_aux_lemma => kernel_rfl)⟩, (by as_aux_lemma => kernel_rfl)⟩, (by as_aux_lemma => kernel_rfl)⟩, (by as_aux_lemma => kernel_rfl)⟩, (by as_aux_lemma => kernel_rfl)⟩, (by as_aux_lemma => kernel_rfl)⟩, (by as_aux_lemma => kernel_rfl)⟩, (by as_aux_lemma => kernel_rfl)⟩, (by as_aux_lemma => kernel_rfl)⟩, (by as_aux_lemma => kernel_rfl)⟩, may_enter⟩, k24b⟩, k24c⟩, (by as_aux_lemma => kernel_rfl)⟩, (by as_aux_lemma => kernel_rfl)⟩, (by as_aux_lemma => kernel_rfl)⟩, (by as_aux_lemma => kernel_rfl)⟩
theorem over : Rows.fnExactRiseFallRow.holds Tryz.pinned (OpenSpec.ofChange Rows.fnExactRiseFallSpec) :=
  OpenClaim.holds_of_wide 4 Tryz.f4 rfl rfl rfl rfl rfl rfl rfl ⟨rfl, rfl, rfl, rfl, rfl⟩ rfl rfl rfl rfl rfl (by kernel_rfl) Tryz.func4 closed
    (of_decide_eq_true (by kernel_rfl)) (by unfold Func.isWrapper; first | (rw [if_pos (by decide +kernel)]; kernel_rfl) | (rw [if_neg (by decide +kernel)]; exact ⟨rfl, rfl⟩))
    (fun os started H enc _ => lifted os started H enc)
theorem proved : Rows.FnExactRiseFallSaid := over
end Go.Proofs.YtlmlcnokiipilaaGreat.fnExactRiseFall
namespace Go.Proofs.YtlmlcnokiipilaaGreat
/-- The row, under a short name, for the claim. -/
theorem fnExactRiseFall_holds : Rows.FnExactRiseFallSaid := fnExactRiseFall.proved
end Go.Proofs.YtlmlcnokiipilaaGreat
