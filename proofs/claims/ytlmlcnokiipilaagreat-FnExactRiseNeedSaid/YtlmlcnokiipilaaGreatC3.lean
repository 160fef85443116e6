/- A part of the proof: what the last text of the claim says leans on this one. -/
import Derived.Test.YtlmlcnokiipilaaGreatC2
import Derived.Lib.SliceRun
/- One step of an undoing keeps what holds of an engine; in plain Lean. -/
namespace Go.Proofs.YtlmlcnokiipilaaGreat

theorem Core.one {e : Eng} {C : Nat → Page} {B : Nat} (h : Core e C B) {tx : Int} (ht : tx = 1 ∨ tx = 2 ∨ tx = 3) (hlast : lastT e tx ≠ 0) : e.log.length + 1 ≤ 150 := by
  have h1 := h.room e.log.length (Nat.le_refl _)
  have h2 := h.b150
  have h3 : cst e.log tx e.log.length ≥ 1 := by rw [cst, if_neg hlast]; omega
  have h4 : cst e.log tx e.log.length ≤ needAt e.log e.log.length := by
    rw [needAt]
    rcases ht with rfl | rfl | rfl <;> omega
  omega
theorem stepE_log (e : Eng) (tx : Int) : (stepE e tx).log = e.log ++ [stepR e tx] := rfl
theorem chg_stepR {e : Eng} {tx : Int} : (stepR e tx).kind = (nextU e tx).kind ∧ (stepR e tx).page = (nextU e tx).page := ⟨rfl, rfl⟩
theorem step_prop {e : Eng} {C : Nat → Page} {B : Nat} (_h : Core e C B) {tx : Int} {r : Rec} (hk : StepKind e.log tx r) (hlast : lastT e tx ≠ 0) : RecProp (e.log ++ [r]) e.log.length := by
  have hA := agree_app e.log [r]
  cases hk with
  | fin hU =>
    refine ⟨?_, ?_, ?_, ?_, ?_⟩
    all_goals rw [rc_last]
    · intro hk; simp at hk
    · intro hk; simp at hk
    · intro _; rw [U_congr hA tx (Nat.le_refl _)]; exact hU
    · intro _
      rw [lastN_congr tx hA]
      exact Nat.pos_of_ne_zero hlast
    · intro hk; simp at hk
  | undo m ms hU h0 hm hkk htx =>
    refine ⟨?_, ?_, ?_, ?_, ?_⟩
    all_goals rw [rc_last]
    · intro hk; simp [backR] at hk
    · intro _
      refine ⟨m, ms, ?_, ?_⟩
      · show U _ (rc e.log (m - 1)).tx _ = _
        rw [htx, U_congr hA tx (Nat.le_refl _)]
        exact hU
      · rw [rc_app (by omega)]
        rfl
    · intro hk; simp [backR] at hk
    · intro he; simp [backR, endB] at he
    · intro hk; simp [backR] at hk
theorem Core.step {e : Eng} {C : Nat → Page} {B : Nat} (h : Core e C B) {tx : Int} (ht : tx = 1 ∨ tx = 2 ∨ tx = 3) (hlast : lastT e tx ≠ 0) : Core (stepE e tx) C B := by
  have h1 := h.one ht hlast
  have hk := step_kind (e := e) h.log tx
  have hl' := hk.log h.log (by omega) h1
  have hpr := step_prop h hk hlast
  have hneed := hk.need h.log ht h1 hlast
  have hroom := h.room e.log.length (Nat.le_refl _)
  have hP := proper_snoc h.prop hpr
  have hlen : e.log.length < (e.log ++ [stepR e tx]).length := by simp
  have hA := agree_app e.log [stepR e tx]
  have hgood := h.good e.log.length h.s1 (Nat.le_refl _)
  refine (Core.snoc h (Nat.le_refl _) h.b150 hl' hpr ?_ (by omega) ?_).mem _ _
  · exact hk.ne4
  · intro p hp
    have hg := hgood p hp
    have hrl := h.rlsn (p := p) hp h.s1
    generalize stepR e tx = r at hk hl' hpr hneed hP hlen hA ⊢
    rw [redo1_snoc]
    cases hk with
    | fin hU =>
      rw [if_neg (fun hc => by simp [chgB] at hc), UA_ended hP hlen (by rw [rc_last]), UA_congr hA p (Nat.le_refl _)]
      exact okPath_congr hA.symm (fun m hm => by have := UA_mem hm; omega) hg
    | undo m ms hU h0 hm hkk htx =>
      obtain ⟨m', hm', hUA⟩ := UA_undo hl' hP hlen (by rw [rc_last]; rfl)
      rw [rc_last] at hm' hUA
      have hU2 := hUA p
      rw [UA_congr hA p (Nat.le_refl _)] at hU2
      by_cases hpg : (backR (rc e.log (m - 1)) (lastN e.log tx e.log.length)).page = p
      · rw [if_pos hpg] at hU2
        rw [if_pos ⟨rfl, hpg, by omega⟩]
        have hg' := okPath_congr hA.symm (fun m hm => by have := UA_mem hm; omega) hg
        rw [hU2] at hg'
        rw [doR_withR]
        have hw : withR (redo1 (pg e.disk p) e.log p e.log.length) (backR (rc e.log (m - 1)) (lastN e.log tx e.log.length)) = withR (redo1 (pg e.disk p) e.log p e.log.length) (backR (rc (e.log ++ [backR (rc e.log (m - 1)) (lastN e.log tx e.log.length)]) (m' - 1)) 0) := (congrArg (withR _) hm').trans rfl
        rw [hw]
        exact okPath_lsn (by omega) (by omega) hg'.2
      · rw [if_neg hpg] at hU2
        rw [if_neg (fun hc => hpg hc.2.1), ← hU2]
        exact okPath_congr hA.symm (fun m hm => by have := UA_mem hm; omega) hg
/-- How one record changes memory, and what is redone. -/
theorem app_mem {e : Eng} {r : Rec} (hm : e.mem.length = 5) (hpg : chgB r.kind = true → 0 ≤ r.page ∧ r.page ≤ 4) (p : Nat) : pg (e.app r).mem p = if chgB r.kind = true ∧ r.page = p then doR (pg e.mem p) r (e.log.length + 1 : Nat) else pg e.mem p := by
  unfold Eng.app
  by_cases hc : chgB r.kind = true
  · have h1 := hpg hc
    simp only [hc, if_true]
    rw [pg_set (by omega)]
    by_cases e1 : r.page = p
    · have e2 : r.page.toNat = p := by omega
      rw [if_pos e2, if_pos ⟨trivial, e1⟩, e2]
    · rw [if_neg (by omega), if_neg (fun h => e1 h.2)]
  · simp only [hc]
    rw [if_neg (fun h => by simp at h)]
    rfl
theorem app_mlen (e : Eng) (r : Rec) : (e.app r).mem.length = e.mem.length := by
  unfold Eng.app
  split
  · simp
  · rfl
theorem app_redo {e : Eng} {C : Nat → Page} {B : Nat} (h : Core e C B) (r : Rec) {p : Nat} (hp : p < 5) : redoP (e.app r) p = if chgB r.kind = true ∧ r.page = p then doR (redoP e p) r (e.log.length + 1 : Nat) else redoP e p := by
  have hrl := h.rlsn (p := p) hp h.s1
  have : redoP (e.app r) p = redo1 (pg e.disk p) (e.log ++ [{ r with prev := lastN e.log r.tx e.log.length }]) p (e.log.length + 1) := by
    unfold redoP Eng.app
    simp
  rw [this, redo1_snoc]
  unfold redoP
  by_cases hc : chgB r.kind = true ∧ r.page = p
  · rw [if_pos hc, if_pos ⟨hc.1, hc.2, by omega⟩]
    rfl
  · rw [if_neg hc, if_neg (fun h => hc ⟨h.1, h.2.1⟩)]
theorem step_page {e : Eng} (hl : logOk e.log = true) (tx : Int) : chgB (nextU e tx).kind = true → 0 ≤ (nextU e tx).page ∧ (nextU e tx).page ≤ 4 := by
  have hk := step_kind (e := e) hl tx
  intro hc
  rw [← chg_stepR.1] at hc
  rw [← chg_stepR.2]
  generalize stepR e tx = r at hk hc ⊢
  cases hk with
  | fin => simp [chgB] at hc
  | undo m ms h h0 hm hk ht =>
    have := und_rec hl h0 hm hk
    simp only [backR]
    omega
/-- Memory that is what the log tells stays so. -/
theorem step_redo {e : Eng} {C : Nat → Page} {B : Nat} (h : Core e C B) (hm : e.mem.length = 5) (tx : Int) (hr : ∀ p, p < 5 → pg e.mem p = redoP e p) : ∀ p, p < 5 → pg (stepE e tx).mem p = redoP (stepE e tx) p := fun p hp => by
  unfold stepE
  rw [app_mem hm (step_page h.log tx), app_redo h _ hp, hr p hp]
theorem hit_lastOf {l : List Rec} {p : Int} {n : Nat} (h : (rc l n).page = p ∧ (chgB (rc l n).kind = true ∨ (rc l n).kind = 3)) : lastOfN l p (n + 1) = n + 1 := by rw [lastOfN, if_pos h]
theorem miss_lastOf {l : List Rec} {p : Int} {n : Nat} (h : ¬ ((rc l n).page = p ∧ (chgB (rc l n).kind = true ∨ (rc l n).kind = 3))) : lastOfN l p (n + 1) = lastOfN l p n := by rw [lastOfN, if_neg h]
theorem MemR.step {e : Eng} {C : Nat → Page} {B : Nat} (h : Core e C B) (hm : e.mem.length = 5) {tx : Int} (ht : tx = 1 ∨ tx = 2 ∨ tx = 3) (hlast : lastT e tx ≠ 0) {p : Nat} (hp : p < 5) (hr : MemR e p) : MemR (stepE e tx) p := by
  have h1 := h.one ht hlast
  have hk := step_kind (e := e) h.log tx
  have hl' := hk.log h.log (by omega) h1
  have hpr := step_prop h hk hlast
  have hP := proper_snoc h.prop hpr
  have hlen : e.log.length < (e.log ++ [stepR e tx]).length := by simp
  have hlen1 : (e.log ++ [stepR e tx]).length = e.log.length + 1 := by simp
  have hA := agree_app e.log [stepR e tx]
  have hM := app_mem hm (step_page h.log tx) p
  have hR := app_redo h (nextU e tx) hp
  have hpath := h.memPath hp hr.ok hr.owner hr.alt
  have hLl : (stepE e tx).log = e.log ++ [stepR e tx] := rfl
  have hds := h.dlsn p hp
  have hs1 := h.s1
  have hdisk : (stepE e tx).disk = e.disk := rfl
  have hM : pg (stepE e tx).mem p = if chgB (stepR e tx).kind = true ∧ (stepR e tx).page = p then doR (pg e.mem p) (stepR e tx) (e.log.length + 1 : Nat) else pg e.mem p := hM
  have hR : redoP (stepE e tx) p = if chgB (stepR e tx).kind = true ∧ (stepR e tx).page = p then doR (redoP e p) (stepR e tx) (e.log.length + 1 : Nat) else redoP e p := hR
  have hcs := hr.cases
  generalize stepR e tx = r at hk hl' hpr hP hlen hlen1 hA hM hR hLl
  cases hk with
  | fin hU =>
    have hno : ¬ (chgB (5 : Int) = true ∧ (0 : Int) = p) := fun hc => by simp [chgB] at hc
    rw [if_neg hno] at hM hR
    have hUA : UA (e.log ++ [⟨5, tx, 0, 0, 0, 0, lastN e.log tx e.log.length, 0⟩]) (e.log.length + 1) p = UA e.log e.log.length p := by
      rw [UA_ended hP hlen (by rw [rc_last]), UA_congr hA p (Nat.le_refl _)]
    have hlo : lastOfN (e.log ++ [⟨5, tx, 0, 0, 0, 0, lastN e.log tx e.log.length, 0⟩]) p (e.log.length + 1) = lastOfN e.log p e.log.length := by
      rw [miss_lastOf (by rw [rc_last]; simp [chgB]), lastOfN_congr _ hA]
    refine ⟨by rw [hM]; exact hr.ok, by rw [hM, hR]; exact hr.owner, ?_, ?_⟩
    · rw [hM, hLl, hlen1]; have := hr.lsn; omega
    · rw [hM, hR, hLl, hlen1, hdisk, hUA, hlo]
      cases hldt : ld e.log tx e.log.length p
      · have hls : lds (e.log ++ [⟨5, tx, 0, 0, 0, 0, lastN e.log tx e.log.length, 0⟩]) (e.log.length + 1) p = lds e.log e.log.length p := by
          rw [lds_end (by rw [rc_last]; rfl) (by rw [rc_last, ld_congr hA _ _ (Nat.le_refl _)]; exact hldt), lds_congr hA p (Nat.le_refl _)]
        rw [hls]
        rcases hcs with hc | ⟨a, b, c, d⟩
        · exact .inl hc
        · exact .inr ⟨a, b, c, d.imp id (fun hz => hasZ_congr hA.symm (fun m hm => by have := UA_mem hm; omega) hz)⟩
      · have hhas := ld_has hldt
        have hoth : ∀ s, s ≠ tx → has e.log s e.log.length p = false := fun s hs => lock_one h.log h.prop _ (Nat.le_refl _) _ _ _ (Ne.symm hs) hhas
        have hUe : UA e.log e.log.length p = [] := by
          rw [UA_one h.log h.prop (Nat.le_refl _) ht hoth, F, hU]; rfl
        refine .inl ⟨?_, ?_⟩
        · rw [Bool.eq_false_iff]
          intro hl
          obtain ⟨t, _, hlt⟩ := lds_iff.1 hl
          by_cases e1 : tx = t
          · subst e1
            rw [ld_end (by rw [rc_last]) (by rw [rc_last]; rfl)] at hlt
            cases hlt
          · rw [ld_other (by rw [rc_last]; exact e1), ld_congr hA _ _ (Nat.le_refl _)] at hlt
            have := hoth t (Ne.symm e1)
            rw [ld_has hlt] at this
            cases this
        · rcases hcs with hc | ⟨a, b, c, d⟩
          · exact hc.2
          · rcases d with d | d
            · exact d
            · rw [hUe] at d
              obtain ⟨m, hm, _⟩ := d
              cases hm
  | undo m ms hU h0 hm hkk htx =>
    have hls : lds (e.log ++ [backR (rc e.log (m - 1)) (lastN e.log tx e.log.length)]) (e.log.length + 1) p = lds e.log e.log.length p := by
      rw [lds_step hl' hlen (by rw [rc_last]; rfl) (by rw [rc_last]; simp [backR]), lds_congr hA p (Nat.le_refl _)]
    obtain ⟨m', hm', hUA⟩ := UA_undo hl' hP hlen (by rw [rc_last]; rfl)
    rw [rc_last] at hm' hUA
    have hU2 := hUA p
    rw [UA_congr hA p (Nat.le_refl _)] at hU2
    by_cases hpg : (backR (rc e.log (m - 1)) (lastN e.log tx e.log.length)).page = p
    · rw [if_pos hpg] at hU2
      rw [if_pos ⟨rfl, hpg⟩] at hM hR
      have hpath' := okPath_congr hA.symm (fun m hm => by have := UA_mem hm; omega) hpath
      rw [hU2] at hpath'
      have hw : ∀ P : Page, withR P (backR (rc e.log (m - 1)) (lastN e.log tx e.log.length)) = withR P (backR (rc (e.log ++ [backR (rc e.log (m - 1)) (lastN e.log tx e.log.length)]) (m' - 1)) 0) := fun P => (congrArg (withR P) hm').trans rfl
      have hok := okPath_ok hpath'.2
      rw [← hw] at hok
      refine ⟨?_, ?_, ?_, ?_⟩
      · rw [hM, doR_withR]
        exact pageOk_lsn hok (by omega) (by omega)
      · rw [hM, hR, doR_withR, doR_withR]
        exact withR_owner _ hr.owner
      · rw [hM, hLl, hlen1]
        exact Int.le_refl _
      · rw [hLl, hlen1, hls, hdisk]
        rcases hcs with hc | ⟨a, b, c, d⟩
        · exact .inl ⟨hc.1, by rw [hM, hR, hc.2]⟩
        · refine .inr ⟨a, ?_, ?_, ?_⟩
          · rw [hM, hit_lastOf (by rw [rc_last]; exact ⟨hpg, .inl rfl⟩)]
            rfl
          · left
            rw [hM]
            show _ < ((e.log.length + 1 : Nat) : Int)
            omega
          · rcases d with d | d
            · exact .inl (by rw [hM, hR, d])
            · have d' := hasZ_congr hA.symm (fun m hm => by have := UA_mem hm; omega) d
              rw [hU2] at d'
              obtain ⟨x, hx, hx1, hx2⟩ := d'
              rcases List.mem_cons.1 hx with rfl | hx
              · left
                have hz : ∀ P : Page, withR P (backR (rc (e.log ++ [backR (rc e.log (m - 1)) (lastN e.log tx e.log.length)]) (x - 1)) 0) = ⟨P.lsn, 0, [0, 0, 0]⟩ := fun P => withR_zero (r := backR (rc (e.log ++ [backR (rc e.log (m - 1)) (lastN e.log tx e.log.length)]) (x - 1)) 0) hx1 hx2
                rw [hM, hR, doR_withR, doR_withR, hw, hw, hz, hz]
              · exact .inr ⟨x, hx, hx1, hx2⟩
    · rw [if_neg hpg] at hU2
      rw [if_neg (fun hc => hpg hc.2)] at hM hR
      have hlo : lastOfN (e.log ++ [backR (rc e.log (m - 1)) (lastN e.log tx e.log.length)]) p (e.log.length + 1) = lastOfN e.log p e.log.length := by
        rw [miss_lastOf (by rw [rc_last]; exact fun hc => hpg hc.1), lastOfN_congr _ hA]
      refine ⟨by rw [hM]; exact hr.ok, by rw [hM, hR]; exact hr.owner, ?_, ?_⟩
      · rw [hM, hLl, hlen1]; have := hr.lsn; omega
      · rw [hM, hR, hLl, hlen1, hdisk, hls, hlo, ← hU2]
        rcases hcs with hc | ⟨a, b, c, d⟩
        · exact .inl hc
        · exact .inr ⟨a, b, c, d.imp id (fun hz => hasZ_congr hA.symm (fun m hm => by have := UA_mem hm; omega) hz)⟩
end Go.Proofs.YtlmlcnokiipilaaGreat

/- A put, an own, a load, a 'done', a write, a force, a fall keep what holds of an engine; in plain Lean. -/
namespace Go.Proofs.YtlmlcnokiipilaaGreat

/-- What a page is ahead of a record that changes it anew. -/
def Apt (M : Page) (r : Rec) : Prop :=
  (r.kind = 1 ∧ M.owner ≠ 0 ∧ 0 ≤ r.slot ∧ r.slot ≤ 2 ∧ 0 ≤ r.new ∧ r.new ≤ 9 ∧ r.old = iv M.vals r.slot.toNat) ∨
  (r.kind = 2 ∧ r.slot = -1 ∧ 0 ≤ r.new ∧ r.new ≤ 3 ∧ (M.owner = 0 ↔ r.new ≠ 0) ∧ M.vals = [0, 0, 0] ∧ r.old = M.owner)
theorem Apt.kind {M : Page} {r : Rec} (h : Apt M r) : r.kind = 1 ∨ r.kind = 2 := by rcases h with h | h; exact .inl h.1; exact .inr h.1
theorem Apt.chg {M : Page} {r : Rec} (h : Apt M r) : chgB r.kind = true := by rcases h.kind with h | h <;> (rw [h]; rfl)
theorem iv_range {M : Page} (h : pageOk M = true) {k : Nat} (hk : k < 3) : 0 ≤ iv M.vals k ∧ iv M.vals k ≤ 9 := by
  rw [pageOk_iff] at h
  have := h.2.2.2.2.2 _ (iv_mem (l := M.vals) (k := k) (by omega))
  omega
theorem Apt.old {M : Page} {r : Rec} (h : Apt M r) (hM : pageOk M = true) : 0 ≤ r.old ∧ r.old ≤ (if r.slot = -1 then 3 else 9) := by
  rcases h with h | h
  · have := iv_range hM (k := r.slot.toNat) (by omega)
    rw [if_neg (by omega), h.2.2.2.2.2.2]
    exact this
  · rw [if_pos h.2.1, h.2.2.2.2.2.2]
    rw [pageOk_iff] at hM
    exact ⟨hM.2.2.1, hM.2.2.2.1⟩
theorem set_iv {vs : List Int} {i : Nat} (h : i < vs.length) : vs.set i (iv vs i) = vs := by
  apply List.ext_getElem?
  intro j
  rw [List.getElem?_set]
  split
  · rename_i e
    subst e
    simp [iv, List.getD_eq_getElem?_getD, h]
  · rfl
theorem Apt.page {M R : Page} {r : Rec} {n : Int} (ha : Apt M r) (hM : pageOk M = true) (hR : pageOk R = true) (ho : M.owner = R.owner) (h0 : 0 ≤ n) (h1 : n ≤ 150) :
    pageOk (doR R r n) = true ∧ pageOk (withR (doR R r n) (backR r 0)) = true ∧ (withR (doR R r n) (backR r 0)).owner = R.owner ∧ (M = R → (withR (doR R r n) (backR r 0)).vals = R.vals) := by
  have hold := ha.old hM
  have hR' := pageOk_iff.1 hR
  rcases ha with ⟨_, a1, a2, a3, a4, a5, a6⟩ | ⟨_, a1, a2, a3, a4, a5, a6⟩
  · rw [if_neg (by omega)] at hold
    have e1 : doR R r n = ⟨n, R.owner, R.vals.set r.slot.toNat r.new⟩ := by rw [doR, withR, if_pos a2]
    have e2 : withR (doR R r n) (backR r 0) = ⟨n, R.owner, R.vals.set r.slot.toNat r.old⟩ := by
      rw [e1, withR, if_pos (show 0 ≤ (backR r 0).slot from a2)]
      show (⟨n, R.owner, (R.vals.set r.slot.toNat r.new).set r.slot.toNat r.old⟩ : Page) = _
      rw [List.set_set]
    have hR0 : R.owner ≠ 0 := by rw [← ho]; exact a1
    have hset : ∀ v : Int, 0 ≤ v → v ≤ 9 → pageOk ⟨n, R.owner, R.vals.set r.slot.toNat v⟩ = true := fun v v0 v9 => by
      rw [pageOk_iff]
      refine ⟨h0, h1, hR'.2.2.1, hR'.2.2.2.1, by simpa using hR'.2.2.2.2.1, fun x hx => ?_⟩
      rcases mem_set3 hx with hx | rfl
      · exact hR'.2.2.2.2.2 x hx
      · exact ⟨v0, v9, fun e => absurd e hR0⟩
    refine ⟨by rw [e1]; exact hset _ a4 a5, by rw [e2]; exact hset _ hold.1 hold.2, by rw [e2], fun e => ?_⟩
    rw [e2]
    show R.vals.set _ _ = R.vals
    rw [a6, e]
    exact set_iv (by omega)
  · have hs : r.slot < 0 := by omega
    by_cases hn : r.new = 0
    · have hM0 : M.owner ≠ 0 := fun e => (a4.1 e) hn
      have e1 : doR R r n = ⟨n, 0, [0, 0, 0]⟩ := by rw [doR, withR_zero hs hn]
      have e2 : withR (doR R r n) (backR r 0) = ⟨n, r.old, [0, 0, 0]⟩ := by
        rw [e1, withR, if_neg (show ¬ 0 ≤ (backR r 0).slot by simp only [backR]; omega), if_neg (show ¬ (backR r 0).new = 0 by simp only [backR]; rw [a6]; exact hM0)]
        rfl
      have hz : ∀ o : Int, 0 ≤ o → o ≤ 3 → pageOk ⟨n, o, [0, 0, 0]⟩ = true := fun o o0 o3 => by
        rw [pageOk_iff]
        exact ⟨h0, h1, o0, o3, rfl, fun x hx => by simp at hx; rw [hx]; simp⟩
      refine ⟨by rw [e1]; exact hz 0 (by omega) (by omega), by rw [e2]; exact hz _ hold.1 (by rw [if_pos a1] at hold; exact hold.2), by rw [e2, a6, ho], fun e => ?_⟩
      rw [e2, ← e, a5]
    · have hM0 : M.owner = 0 := a4.2 hn
      have hRz : R.vals = [0, 0, 0] := zeros3 hR'.2.2.2.2.1 (fun x hx => (hR'.2.2.2.2.2 x hx).2.2 (by rw [← ho]; exact hM0))
      have e1 : doR R r n = ⟨n, r.new, [0, 0, 0]⟩ := by rw [doR, withR, if_neg (by omega), if_neg hn, hRz]
      have e2 : withR (doR R r n) (backR r 0) = ⟨n, 0, [0, 0, 0]⟩ := by
        rw [withR_zero (show (backR r 0).slot < 0 from hs) (show (backR r 0).new = 0 by simp only [backR]; rw [a6, hM0]), e1]
      have hz : ∀ o : Int, 0 ≤ o → o ≤ 3 → pageOk ⟨n, o, [0, 0, 0]⟩ = true := fun o o0 o3 => by
        rw [pageOk_iff]
        exact ⟨h0, h1, o0, o3, rfl, fun x hx => by simp at hx; rw [hx]; simp⟩
      refine ⟨by rw [e1]; exact hz _ a2 a3, by rw [e2]; exact hz 0 (by omega) (by omega), by rw [e2, ← ho, hM0], fun _ => ?_⟩
      rw [e2, hRz]
theorem Core.need_le {e : Eng} {C : Nat → Page} {B : Nat} (h : Core e C B) : e.log.length ≤ B := by
  have := h.room e.log.length (Nat.le_refl _)
  omega
/-- A record more of tx, that is no end, takes at most three more. -/
theorem room_more {l : List Rec} {r : Rec} {t : Int} (ht : t = 1 ∨ t = 2 ∨ t = 3) (hr : r.tx = t) (hU : (U (l ++ [r]) t (l.length + 1)).length ≤ (U l t l.length).length + 1) : needAt (l ++ [r]) (l.length + 1) ≤ needAt l l.length + 2 := by
  have hs := needAt_step (l := l ++ [r]) (n := l.length) (t := t) (by rw [rc_last, hr]) ht
  rw [needAt_app, cst_app] at hs
  have e1 : cst (l ++ [r]) t (l.length + 1) ≤ (U l t l.length).length + 2 := by
    rw [cst]
    split <;> omega
  have e2 : (U l t l.length).length ≤ cst l t l.length := by rw [cst]; omega
  omega
theorem UpC.more {l : List Rec} {r : Rec} (h : UpC l) (hl : logOk (l ++ [r]) = true) (hk : r.kind ≠ 6) : UpC (l ++ [r]) := by
  intro t m hm
  have hA := agree_app l [r]
  have hlen : l.length < (l ++ [r]).length := by simp
  have hlen1 : (l ++ [r]).length = l.length + 1 := by simp
  have old : ∀ t, ∀ m ∈ Ch (l ++ [r]) t l.length, (rc (l ++ [r]) (m - 1)).kind ≠ 6 := fun t m hm => by
    rw [Ch_congr hA t (Nat.le_refl _)] at hm
    have h1 := chainN_mem_le _ m hm
    have h2 := lastN_le l t l.length
    rw [rc_app (by omega)]
    exact h t m hm
  rw [hlen1] at hm
  by_cases e1 : (rc (l ++ [r]) l.length).tx = t
  · subst e1
    cases he : endB (rc (l ++ [r]) l.length).kind
    · rw [Ch_more hl hlen he] at hm
      rcases List.mem_cons.1 hm with rfl | hm
      · rw [Nat.add_sub_cancel, rc_last]; exact hk
      · exact old _ m hm
    · rw [Ch_end rfl he] at hm; cases hm
  · rw [Ch_other e1] at hm
    exact old t m hm
theorem Inv.chg {e : Eng} {C : Nat → Page} {B : Nat} (h : Inv e C B) (hup : e.down = false) {r : Rec} {p : Nat} (hp : p < 5) (hpg : r.page = p) (ht : r.tx = 1 ∨ r.tx = 2 ∨ r.tx = 3) (ha : Apt (pg e.mem p) r) (hnx : r.next = 0) (hfree : ∀ t, t ≠ r.tx → has e.log t e.log.length p = false) (hB : B + 3 ≤ 150) : Inv (e.app r) C (B + 3) := by
  have hc := h.core
  have hm := h.upm hup
  have hMp := hm p hp
  have hle := lastN_le e.log r.tx e.log.length
  have hn := hc.need_le
  have hold := ha.old hMp.ok
  have hs1 := hc.s1
  obtain ⟨r', hr'⟩ : ∃ r' : Rec, { r with prev := (lastN e.log r.tx e.log.length : Int) } = r' := ⟨_, rfl⟩
  have k1 : r'.kind = r.kind := by rw [← hr']
  have k2 : r'.tx = r.tx := by rw [← hr']
  have k3 : r'.page = r.page := by rw [← hr']
  have k4 : r'.slot = r.slot := by rw [← hr']
  have k5 : r'.old = r.old := by rw [← hr']
  have k6 : r'.new = r.new := by rw [← hr']
  have k7 : r'.prev = lastN e.log r.tx e.log.length := by rw [← hr']
  have k8 : r'.next = r.next := by rw [← hr']
  have hkind : r'.kind = 1 ∨ r'.kind = 2 := by rw [k1]; exact ha.kind
  have hdo : ∀ P n, doR P r' n = doR P r n := fun P n => by rw [← hr']; rfl
  have hbk : ∀ P, withR P (backR r' 0) = withR P (backR r 0) := fun P => by rw [← hr']; rfl
  have hok : recOk r' = true := by
    rw [recOk_iff, k1, k2, k3, k4, k5, k6, k7, k8]
    rcases ha with ⟨a0, a1, a2, a3, a4, a5, a6⟩ | ⟨a0, a1, a2, a3, a4, a5, a6⟩
    · rw [if_neg (by omega)] at hold
      omega
    · rw [if_pos a1] at hold
      omega
  have hl' : logOk (e.log ++ [r']) = true := logOk_snoc hc.log hok (by rw [k7, k2]) (by rw [k8, hnx]; omega) (.inl (by rw [k8, hnx]; omega)) (by omega)
  have hA := agree_app e.log [r']
  have hlen : e.log.length < (e.log ++ [r']).length := by simp
  have hlen1 : (e.log ++ [r']).length = e.log.length + 1 := by simp
  have hrl : rc (e.log ++ [r']) e.log.length = r' := rc_last _ _
  have hpr : RecProp (e.log ++ [r']) e.log.length := by
    refine ⟨?_, ?_, ?_, ?_, ?_⟩
    all_goals rw [hrl]
    · rw [k1, k5, k6]
      intro h2 hnew
      rcases ha with ha | ha
      · omega
      · rw [ha.2.2.2.2.2.2]; exact ha.2.2.2.2.1.2 hnew
    · intro hk; omega
    · intro hk; omega
    · intro he; rw [endB_not (by omega)] at he; cases he
    · intro _ t htn
      rw [k2] at htn
      rw [has_congr hA _ _ (Nat.le_refl _), k3, hpg]
      exact hfree t htn
  have hP := proper_snoc hc.prop hpr
  have hUA := fun q => UA_chg hl' hP hlen (by rw [hrl]; exact hkind) q
  have hroom : e.log.length + 1 + needAt (e.log ++ [r']) (e.log.length + 1) ≤ B + 3 := by
    have h1 := hc.room e.log.length (Nat.le_refl _)
    have h2 := room_more (l := e.log) (r := r') ht k2 (by
      have := U_chg hl' hlen (by rw [hrl]; exact hkind)
      rw [hrl, k2] at this
      rw [this, List.length_cons, U_congr hA _ (Nat.le_refl _)]; exact Nat.le_refl _)
    omega
  have hch : chgB r'.kind = true := by rw [k1]; exact ha.chg
  have hRok := fun q (hq : q < 5) => hc.rok (p := q) hq hs1 (Nat.le_refl _)
  have hap := ha.page (n := (e.log.length + 1 : Nat)) hMp.ok (hRok p hp) hMp.owner (by omega) (by omega)
  have hapM := ha.page (R := pg e.mem p) (n := (e.log.length + 1 : Nat)) hMp.ok hMp.ok rfl (by omega) (by omega)
  have hE : e.app r = { e with log := e.log ++ [r'], mem := e.mem.set r.page.toNat (doR (pg e.mem r.page.toNat) r (e.log.length + 1 : Nat)) } := by
    rw [← hr', Eng.app, if_pos ha.chg]
  have hM := fun q => app_mem h.mlen (r := r) (fun _ => by omega) q
  have hR := fun q (hq : q < 5) => app_redo hc r hq
  have hpathR := fun q (hq : q < 5) => okPath_congr hA.symm (fun m hm => by have := UA_mem hm; omega) (hc.good e.log.length hs1 (Nat.le_refl _) q hq)
  have hcore : Core { e with log := e.log ++ [r'] } C (B + 3) := by
    refine Core.snoc hc (by omega) hB hl' hpr (by omega) hroom fun q hq => ?_
    have hrq := hc.rlsn (p := q) hq hs1
    rw [hUA q, hrl, k3, redo1_snoc, k3, UA_congr hA q (Nat.le_refl _)]
    by_cases e1 : r.page = q
    · obtain rfl : q = p := by omega
      rw [if_pos e1, if_pos ⟨hch, e1, by omega⟩, hdo]
      refine ⟨hap.1, ?_⟩
      rw [Nat.add_sub_cancel, hrl, hbk]
      rcases hMp.alt with hal | hal
      · have hv := hap.2.2.2 hal
        have ho := hap.2.2.1
        have hpx := okPath_lsn (k := (e.log.length + 1 : Nat)) (by omega) (by omega) (hpathR q hq)
        rw [← ho, ← hv] at hpx
        have hls : (withR (doR (redo1 (pg e.disk q) e.log q e.log.length) r (e.log.length + 1 : Nat)) (backR r 0)).lsn = (e.log.length + 1 : Nat) := by rw [withR_lsn]; rfl
        rw [show withR (doR (redo1 (pg e.disk q) e.log q e.log.length) r (e.log.length + 1 : Nat)) (backR r 0) = ⟨(e.log.length + 1 : Nat), _, _⟩ from page_ext hls rfl rfl]
        exact hpx
      · exact okPath_swap (fun m hm => by rw [rc_app (by have := UA_mem hm; omega)]; exact UA_slot hc.log (Nat.le_refl _) m hm) (hasZ_congr hA.symm (fun m hm => by have := UA_mem hm; omega) hal) hap.2.1 hap.2.2.1 (hpathR q hq)
    · rw [if_neg e1, if_neg (fun hx => e1 hx.2.1)]
      exact hpathR q hq
  refine ⟨?_, by rw [app_mlen]; exact h.mlen, fun hd => ?_, fun _ => ?_, fun _ q hq => ?_⟩
  · rw [hE]
    exact hcore.mem _ _
  · rw [hE] at hd
    rw [show e.down = true from hd] at hup; cases hup
  · rw [hE]
    exact (h.upc hup).more hl' (by omega)
  · have hMq := hm q hq
    have hls : lds (e.log ++ [r']) (e.log.length + 1) q = lds e.log e.log.length q := by
      rw [lds_step hl' hlen (by rw [hrl]; exact endB_not (by omega)) (by rw [hrl]; omega), lds_congr hA q (Nat.le_refl _)]
    have hd := hc.dlsn q hq
    have hLl : (e.app r).log = e.log ++ [r'] := by rw [hE]
    have hdk : (e.app r).disk = e.disk := rfl
    have hMx := hM q
    have hRx := hR q hq
    have hUq := hUA q
    rw [hrl, k3, UA_congr hA q (Nat.le_refl _)] at hUq
    by_cases e1 : r.page = q
    · obtain rfl : q = p := by omega
      rw [if_pos ⟨ha.chg, e1⟩] at hMx hRx
      rw [if_pos e1] at hUq
      refine ⟨by rw [hMx]; exact hapM.1, ?_, ?_, ?_⟩
      · rw [hMx, hRx, doR_withR, doR_withR]
        exact withR_owner _ hMq.owner
      · rw [hMx, hLl, hlen1]; exact Int.le_refl _
      · rw [hLl, hlen1, hls, hdk]
        rcases hMq.cases with hx | ⟨a, b, c, d⟩
        · exact .inl ⟨hx.1, by rw [hMx, hRx, hx.2]⟩
        · refine .inr ⟨a, ?_, .inl ?_, ?_⟩
          · rw [hMx, hit_lastOf (by rw [hrl, k3]; exact ⟨e1, .inl hch⟩)]; rfl
          · rw [hMx]; show _ < ((e.log.length + 1 : Nat) : Int); omega
          · rcases d with d | d
            · exact .inl (by rw [hMx, hRx, d])
            · right
              rw [hUq]
              obtain ⟨x, hx, h1, h2⟩ := hasZ_congr hA.symm (fun m hm => by have := UA_mem hm; omega) d
              exact ⟨x, List.mem_cons_of_mem _ hx, h1, h2⟩
    · rw [if_neg (fun hx => e1 hx.2)] at hMx hRx
      rw [if_neg e1] at hUq
      refine ⟨by rw [hMx]; exact hMq.ok, by rw [hMx, hRx]; exact hMq.owner, ?_, ?_⟩
      · rw [hMx, hLl, hlen1]; have := hMq.lsn; omega
      · rw [hMx, hRx, hLl, hlen1, hls, hdk, hUq, miss_lastOf (by rw [hrl, k3]; exact fun hx => e1 hx.1), lastOfN_congr _ hA]
        rcases hMq.cases with hx | ⟨a, b, c, d⟩
        · exact .inl hx
        · exact .inr ⟨a, b, c, d.imp id (fun hz => hasZ_congr hA.symm (fun m hm => by have := UA_mem hm; omega) hz)⟩
/-- Where no undoing is under way, what is to be undone is all that was put, or owned. -/
theorem und_of_chain {l : List Rec} (hl : logOk l = true) (n : Nat) : n ≤ l.length → (∀ m ∈ chainN l n, (rc l (m - 1)).kind ≠ 6) → ∀ m ∈ chainN l n, (rc l (m - 1)).kind = 1 ∨ (rc l (m - 1)).kind = 2 → m ∈ undN l n := by
  induction n using Nat.strongRecOn with
  | _ n ih =>
    intro hn h6 m hm hk
    match n with
    | 0 => rw [chainN_zero] at hm; cases hm
    | n + 1 =>
      have FF := logOk_facts hl (k := n) (by omega)
      have hp := FF.prev_le
      rw [chainN_succ hp] at hm h6
      have ih' := ih (prevN l (n + 1)) (by omega) (by omega) (fun x hx => h6 x (List.mem_cons_of_mem _ hx)) m
      have hk6 : (rc l n).kind ≠ 6 := by have := h6 (n + 1) (by simp); simpa using this
      by_cases hk1 : (rc l n).kind = 1 ∨ (rc l n).kind = 2
      · rw [undN_put hk1 hp]
        rcases List.mem_cons.1 hm with rfl | hm
        · simp
        · exact List.mem_cons_of_mem _ (ih' hm hk)
      · rw [undN_else (by omega) (by omega) hk6 hp]
        rcases List.mem_cons.1 hm with rfl | hm
        · rw [Nat.add_sub_cancel] at hk; exact absurd hk hk1
        · exact ih' hm hk
end Go.Proofs.YtlmlcnokiipilaaGreat

/- A load, a 'done', a write, a force, a fall keep what holds of an engine; in plain Lean. -/
namespace Go.Proofs.YtlmlcnokiipilaaGreat

theorem lastOf_calm {l : List Rec} {p : Int} : ∀ {n k : Nat}, k < n → lastOfN l p n < k + 1 → ¬ ((rc l k).page = p ∧ (chgB (rc l k).kind = true ∨ (rc l k).kind = 3))
  | 0, k, hk, _ => by omega
  | n + 1, k, hk, h => by
    rw [lastOfN] at h
    split at h
    · omega
    · rename_i hc
      rcases Nat.eq_or_lt_of_le (Nat.le_of_lt_succ hk) with rfl | hlt
      · exact hc
      · exact lastOf_calm hlt h
/-- Behind its number nothing changes a page in memory. -/
theorem MemR.calm {e : Eng} {p : Nat} (h : MemR e p) : ∀ k, k < e.log.length → (pg e.mem p).lsn < (k + 1 : Nat) → ¬ chgAt e.log p k := by
  intro k hk hlt
  rcases h.cases with ⟨_, h2⟩ | ⟨_, h2, _⟩
  · rw [h2] at hlt
    exact redo1_last hk hlt
  · intro hc
    exact lastOf_calm (p := (p : Int)) hk (by omega) ⟨hc.2, .inl hc.1⟩
theorem Inv.load {e : Eng} {C : Nat → Page} {B : Nat} (h : Inv e C B) (hup : e.down = false) {tx : Int} {p : Nat} {vals : List Int} (hp : p < 5) (ht : tx = 1 ∨ tx = 2 ∨ tx = 3) (ho : (pg e.mem p).owner ≠ 0) (hv : vals.length = 3 ∧ ∀ x ∈ vals, 0 ≤ x ∧ x ≤ 9) (hfree : ∀ t, t ≠ tx → has e.log t e.log.length p = false)
    (htook : ∃ m ∈ Ch e.log tx e.log.length, (rc e.log (m - 1)).kind = 2 ∧ (rc e.log (m - 1)).page = p ∧ (rc e.log (m - 1)).new ≠ 0) (hB : B + 3 ≤ 150) :
    Inv { e with log := e.log ++ [⟨3, tx, p, 0, 0, 0, lastN e.log tx e.log.length, 0⟩], mem := e.mem.set p ⟨(e.log.length + 1 : Nat), (pg e.mem p).owner, vals⟩ } C (B + 3) := by
  have hc := h.core
  have hm := h.upm hup
  have hle := lastN_le e.log tx e.log.length
  have hn := hc.need_le
  have hs1 := hc.s1
  obtain ⟨r', hr'⟩ : ∃ r' : Rec, (⟨3, tx, p, 0, 0, 0, lastN e.log tx e.log.length, 0⟩ : Rec) = r' := ⟨_, rfl⟩
  rw [hr']
  have k1 : r'.kind = 3 := by rw [← hr']
  have k2 : r'.tx = tx := by rw [← hr']
  have k3 : r'.page = p := by rw [← hr']
  have hok : recOk r' = true := by
    rw [← hr', recOk_iff]
    exact ⟨.inr (.inr (.inl ⟨rfl, (by show (0 : Int) ≤ (p : Int); omega), (by show (p : Int) ≤ 4; omega), rfl, rfl, rfl, rfl⟩)), (by show 1 ≤ tx; omega), (by show tx ≤ 3; omega), (by show (0 : Int) ≤ (lastN e.log tx e.log.length : Int); omega), (by show (lastN e.log tx e.log.length : Int) ≤ 150; omega)⟩
  have hl' : logOk (e.log ++ [r']) = true := logOk_snoc hc.log hok (by rw [← hr']) (by rw [← hr']; simp) (.inl (by rw [← hr']; exact Int.le_refl _)) (by omega)
  have hA := agree_app e.log [r']
  have hlen : e.log.length < (e.log ++ [r']).length := by simp
  have hlen1 : (e.log ++ [r']).length = e.log.length + 1 := by simp
  have hrl : rc (e.log ++ [r']) e.log.length = r' := rc_last _ _
  have hpr : RecProp (e.log ++ [r']) e.log.length := by
    refine ⟨?_, ?_, ?_, ?_, ?_⟩
    all_goals rw [hrl]
    · intro hk; omega
    · intro hk; omega
    · intro hk; omega
    · intro he; rw [endB_not (by omega)] at he; cases he
    · intro _ t htn
      rw [k2] at htn
      rw [has_congr hA _ _ (Nat.le_refl _), k3]
      exact hfree t htn
  have hP := proper_snoc hc.prop hpr
  have hUA := fun q => UA_load hl' hlen (by rw [hrl]; exact k1) q
  have hUA' : ∀ q, UA (e.log ++ [r']) (e.log.length + 1) q = UA e.log e.log.length q := fun q => by rw [hUA q, UA_congr hA q (Nat.le_refl _)]
  have hroom : e.log.length + 1 + needAt (e.log ++ [r']) (e.log.length + 1) ≤ B + 3 := by
    have h1 := hc.room e.log.length (Nat.le_refl _)
    have h2 := room_more (l := e.log) (r := r') ht k2 (by
      have := U_load hl' hlen (by rw [hrl]; exact k1)
      rw [hrl, k2] at this
      rw [this, U_congr hA _ (Nat.le_refl _)]; omega)
    omega
  have hno : ∀ q : Nat, ¬ (chgB r'.kind = true ∧ r'.page = (q : Int) ∧ (redo1 (pg e.disk q) e.log q e.log.length).lsn < (e.log.length + 1 : Nat)) := fun q hx => by rw [k1] at hx; simp [chgB] at hx
  have hrd : ∀ q : Nat, redo1 (pg e.disk q) (e.log ++ [r']) q (e.log.length + 1) = redo1 (pg e.disk q) e.log q e.log.length := fun q => by rw [redo1_snoc, if_neg (hno q)]
  have hcore : Core { e with log := e.log ++ [r'] } C (B + 3) := by
    refine Core.snoc hc (by omega) hB hl' hpr (by omega) hroom fun q hq => ?_
    rw [hUA', hrd]
    exact okPath_congr hA.symm (fun m hm => by have := UA_mem hm; omega) (hc.good e.log.length hs1 (Nat.le_refl _) q hq)
  refine ⟨hcore.mem _ _, by simpa using h.mlen, fun hd => ?_, fun _ => (h.upc hup).more hl' (by omega), fun _ q hq => ?_⟩
  · rw [show e.down = true from hd] at hup; cases hup
  · have hMq := hm q hq
    have hd := hc.dlsn q hq
    have hRx : redoP ({ e with log := e.log ++ [r'], mem := e.mem.set p ⟨(e.log.length + 1 : Nat), (pg e.mem p).owner, vals⟩ } : Eng) q = redoP e q := by
      show redo1 (pg e.disk q) (e.log ++ [r']) q (e.log ++ [r']).length = _
      rw [hlen1, hrd]; rfl
    have hMx : pg (e.mem.set p ⟨(e.log.length + 1 : Nat), (pg e.mem p).owner, vals⟩) q = if p = q then ⟨(e.log.length + 1 : Nat), (pg e.mem p).owner, vals⟩ else pg e.mem q := pg_set (by rw [h.mlen]; exact hp)
    by_cases e1 : p = q
    · subst e1
      rw [if_pos rfl] at hMx
      have hMo := pageOk_iff.1 hMq.ok
      have hls : lds (e.log ++ [r']) (e.log.length + 1) p = true := by
        rw [lds_iff]
        refine ⟨tx, ht, ?_⟩
        have := ld_more hl' hlen (by rw [hrl]; exact endB_not (by omega)) p
        rw [hrl, k2] at this
        rw [this, k1, k3]
        simp
      refine ⟨?_, ?_, ?_, .inr ⟨?_, ?_, .inl ?_, .inr ?_⟩⟩
      · show pageOk (pg (e.mem.set p _) p) = true
        rw [hMx, pageOk_iff]
        exact ⟨by show (0 : Int) ≤ ((e.log.length + 1 : Nat) : Int); omega, by show ((e.log.length + 1 : Nat) : Int) ≤ 150; omega, hMo.2.2.1, hMo.2.2.2.1, hv.1, fun x hx => ⟨(hv.2 x hx).1, (hv.2 x hx).2, fun e => absurd e ho⟩⟩
      · rw [hRx]
        show (pg (e.mem.set p _) p).owner = _
        rw [hMx]
        exact hMq.owner
      · show (pg (e.mem.set p _) p).lsn ≤ ((e.log ++ [r']).length : Int)
        rw [hMx, hlen1]
        exact Int.le_refl _
      · show lds (e.log ++ [r']) (e.log ++ [r']).length p = true
        rw [hlen1]; exact hls
      · show (pg (e.mem.set p _) p).lsn = (lastOfN (e.log ++ [r']) p (e.log ++ [r']).length : Int)
        rw [hMx, hlen1, hit_lastOf (by rw [hrl]; exact ⟨k3, .inr k1⟩)]
      · show (pg e.disk p).lsn < (pg (e.mem.set p _) p).lsn
        rw [hMx]
        show _ < ((e.log.length + 1 : Nat) : Int)
        omega
      · show hasZ (e.log ++ [r']) (UA (e.log ++ [r']) (e.log ++ [r']).length p)
        rw [hlen1, hUA']
        refine hasZ_congr hA.symm (fun m hm => by have := UA_mem hm; omega) ?_
        obtain ⟨m, h1, h2, h3, h4⟩ := htook
        have hmU : m ∈ U e.log tx e.log.length := und_of_chain hc.log _ hle (fun x hx => h.upc hup tx x hx) m h1 (.inr h2)
        have hmb := U_mem hmU
        have hrec := (logOk_facts hc.log (k := m - 1) (by omega)).ok
        have hprop := (hc.prop (m - 1) (by omega)).own h2 h4
        rw [recOk_iff] at hrec
        refine ⟨m, ?_, by omega, hprop⟩
        rw [UA_one hc.log hc.prop (Nat.le_refl _) ht hfree, F, List.mem_filter]
        exact ⟨hmU, by simpa using h3⟩
    · rw [if_neg e1] at hMx
      have hls : lds (e.log ++ [r']) (e.log.length + 1) q = lds e.log e.log.length q := by
        rw [lds_step hl' hlen (by rw [hrl]; exact endB_not (by omega)) (by rw [hrl, k3]; omega), lds_congr hA q (Nat.le_refl _)]
      have hlo : lastOfN (e.log ++ [r']) q (e.log.length + 1) = lastOfN e.log q e.log.length := by
        rw [miss_lastOf (by rw [hrl, k3]; omega), lastOfN_congr _ hA]
      refine ⟨?_, ?_, ?_, ?_⟩
      · show pageOk (pg (e.mem.set p _) q) = true
        rw [hMx]; exact hMq.ok
      · rw [hRx]
        show (pg (e.mem.set p _) q).owner = _
        rw [hMx]; exact hMq.owner
      · show (pg (e.mem.set p _) q).lsn ≤ ((e.log ++ [r']).length : Int)
        rw [hMx, hlen1]; have := hMq.lsn; omega
      · rw [hRx]
        show (lds (e.log ++ [r']) (e.log ++ [r']).length q = false ∧ pg (e.mem.set p _) q = redoP e q) ∨ (lds (e.log ++ [r']) (e.log ++ [r']).length q = true ∧ (pg (e.mem.set p _) q).lsn = (lastOfN (e.log ++ [r']) q (e.log ++ [r']).length : Int) ∧ ((pg e.disk q).lsn < (pg (e.mem.set p _) q).lsn ∨ pg (e.mem.set p _) q = pg e.disk q) ∧ (pg (e.mem.set p _) q = redoP e q ∨ hasZ (e.log ++ [r']) (UA (e.log ++ [r']) (e.log ++ [r']).length q)))
        rw [hMx, hlen1, hls, hlo, hUA']
        rcases hMq.cases with hx | ⟨a, b, c, d⟩
        · exact .inl hx
        · exact .inr ⟨a, b, c, d.imp id (fun hz => hasZ_congr hA.symm (fun m hm => by have := UA_mem hm; omega) hz)⟩
/-- The disk behind a 'done' of tx: pages that it loaded are written. -/
def diskD (e : Eng) (tx : Int) : List Page := (List.range 5).map fun p : Nat => if ld e.log tx e.log.length p = true then pg e.mem p else pg e.disk p
theorem pg_diskD (e : Eng) (tx : Int) {p : Nat} (hp : p < 5) : pg (diskD e tx) p = if ld e.log tx e.log.length p = true then pg e.mem p else pg e.disk p := by
  simp [pg, diskD, List.getD_eq_getElem?_getD, hp]
def doneE (e : Eng) (tx : Int) : Eng := { e with disk := diskD e tx, log := e.log ++ [⟨4, tx, 0, 0, 0, 0, lastN e.log tx e.log.length, 0⟩], safe := (e.log.length + 1 : Nat) }
/-- What was done, behind a 'done' of tx. -/
def trueD (e : Eng) (tx : Int) (C : Nat → Page) (p : Nat) : Page := if has e.log tx e.log.length p = true then ⟨0, (pg e.mem p).owner, (pg e.mem p).vals⟩ else C p
theorem Inv.doneI {e : Eng} {C : Nat → Page} {B : Nat} (h : Inv e C B) (hup : e.down = false) {tx : Int} (ht : tx = 1 ∨ tx = 2 ∨ tx = 3) (hlast : lastT e tx ≠ 0) : Inv (doneE e tx) (trueD e tx C) B := by
  have hc := h.core
  have hm := h.upm hup
  have hle := lastN_le e.log tx e.log.length
  have h150 := hc.one ht hlast
  have hs0 := hc.s0
  have hs1 := hc.s1
  obtain ⟨r', hr'⟩ : ∃ r' : Rec, (⟨4, tx, 0, 0, 0, 0, lastN e.log tx e.log.length, 0⟩ : Rec) = r' := ⟨_, rfl⟩
  unfold doneE
  rw [hr']
  have k1 : r'.kind = 4 := by rw [← hr']
  have k2 : r'.tx = tx := by rw [← hr']
  have hok : recOk r' = true := by
    rw [← hr', recOk_iff]
    exact ⟨.inr (.inr (.inr (.inl ⟨.inl rfl, rfl, rfl, rfl, rfl, rfl⟩))), (by show 1 ≤ tx; omega), (by show tx ≤ 3; omega), (by show (0 : Int) ≤ (lastN e.log tx e.log.length : Int); omega), (by show (lastN e.log tx e.log.length : Int) ≤ 150; omega)⟩
  have hl' : logOk (e.log ++ [r']) = true := logOk_snoc hc.log hok (by rw [← hr']) (by rw [← hr']; simp) (.inl (by rw [← hr']; exact Int.le_refl _)) h150
  have hA := agree_app e.log [r']
  have hlen : e.log.length < (e.log ++ [r']).length := by simp
  have hlen1 : (e.log ++ [r']).length = e.log.length + 1 := by simp
  have hrl : rc (e.log ++ [r']) e.log.length = r' := rc_last _ _
  have hend : endB (rc (e.log ++ [r']) e.log.length).kind = true := by rw [hrl, k1]; rfl
  have htx : (rc (e.log ++ [r']) e.log.length).tx = tx := by rw [hrl, k2]
  have hpr : RecProp (e.log ++ [r']) e.log.length := by
    refine ⟨?_, ?_, ?_, ?_, ?_⟩
    all_goals rw [hrl]
    · intro hk; omega
    · intro hk; omega
    · intro hk; omega
    · intro _; rw [k2, lastN_congr tx hA]; exact Nat.pos_of_ne_zero hlast
    · intro hk; omega
  have hP := proper_snoc hc.prop hpr
  have hUA : ∀ q, UA (e.log ++ [r']) (e.log.length + 1) q = if has e.log tx e.log.length q = true then [] else UA e.log e.log.length q := fun q => by
    rw [UA_done hl' hP hlen (by rw [hrl]; exact k1), htx, has_congr hA _ _ (Nat.le_refl _), UA_congr hA q (Nat.le_refl _)]
  have hroom : e.log.length + 1 + needAt (e.log ++ [r']) (e.log.length + 1) ≤ B := by
    have h1 := hc.room e.log.length (Nat.le_refl _)
    have hs := needAt_step (l := e.log ++ [r']) (n := e.log.length) (t := tx) htx ht
    rw [needAt_app, cst_app] at hs
    have e1 : cst (e.log ++ [r']) tx (e.log.length + 1) = 0 := by rw [cst, U_end htx hend, last_end htx hend]; rfl
    have e2 : 1 ≤ cst e.log tx e.log.length := by rw [cst, if_neg hlast]; omega
    omega
  have hoth : ∀ q, has e.log tx e.log.length q = true → lds (e.log ++ [r']) (e.log.length + 1) q = false := fun q hq => by
    rw [Bool.eq_false_iff]
    intro hl
    obtain ⟨t, _, hlt⟩ := lds_iff.1 hl
    by_cases e1 : tx = t
    · subst e1
      rw [ld_end htx hend] at hlt; cases hlt
    · rw [ld_other (by rw [htx]; exact e1), ld_congr hA _ _ (Nat.le_refl _)] at hlt
      have := lock_one hc.log hc.prop _ (Nat.le_refl _) _ _ _ e1 hq
      rw [ld_has hlt] at this; cases this
  have hrd : ∀ (P : Page) (q : Nat), redo1 P (e.log ++ [r']) q (e.log.length + 1) = redo1 P e.log q e.log.length := fun P q => by
    rw [redo1_snoc, if_neg]
    intro hx
    rw [k1] at hx
    simp [chgB] at hx
  have hRed : ∀ q : Nat, q < 5 → has e.log tx e.log.length q = true → redo1 (pg (diskD e tx) q) e.log q e.log.length = pg e.mem q := fun q hq hhas => by
    rw [pg_diskD e tx hq]
    split
    · exact redo1_calm (hm q hq).calm
    · rename_i hld
      rcases (hm q hq).cases with hx | ⟨a, _⟩
      · exact hx.2.symm
      · obtain ⟨t, _, hlt⟩ := lds_iff.1 a
        by_cases e1 : tx = t
        · subst e1; exact absurd hlt hld
        · have := lock_one hc.log hc.prop _ (Nat.le_refl _) _ _ _ e1 hhas
          rw [ld_has hlt] at this; cases this
  have hRed' : ∀ q : Nat, q < 5 → has e.log tx e.log.length q = false → pg (diskD e tx) q = pg e.disk q := fun q hq hhas => by
    rw [pg_diskD e tx hq, if_neg]
    intro hld
    rw [ld_has hld] at hhas; cases hhas
  have hcore : Core ({ e with disk := diskD e tx, log := e.log ++ [r'], safe := (e.log.length + 1 : Nat) } : Eng) (trueD e tx C) B := by
    refine ⟨by simp [diskD], fun q hq => ?_, hl', hP, by show (0 : Int) ≤ ((e.log.length + 1 : Nat) : Int); omega, by show ((e.log.length + 1 : Nat) : Int) ≤ ((e.log ++ [r']).length : Int); rw [hlen1]; exact Int.le_refl _, hc.b150, fun n hn => ?_, fun k hk _ => ?_, fun q hq => ?_, fun n hs hn q hq => ?_⟩
    · show pageOk (pg (diskD e tx) q) = true
      rw [pg_diskD e tx hq]
      split
      · exact (hm q hq).ok
      · exact hc.dok q hq
    · have hn : n ≤ (e.log ++ [r']).length := hn
      show n + needAt (e.log ++ [r']) n ≤ B
      rw [hlen1] at hn
      rcases Nat.lt_or_ge e.log.length n with hlt | hge
      · obtain rfl : n = e.log.length + 1 := by omega
        exact hroom
      · rw [needAt_congr hA hge]
        exact hc.room n hge
    · have hk : k < (e.log ++ [r']).length := hk
      rw [hlen1] at hk
      show ((k + 1 : Nat) : Int) ≤ ((e.log.length + 1 : Nat) : Int)
      omega
    · show (pg (diskD e tx) q).lsn ≤ ((e.log.length + 1 : Nat) : Int)
      have h1 := hc.dlsn q hq
      have h2 := (hm q hq).lsn
      rw [pg_diskD e tx hq]
      split <;> omega
    · have hs : ((e.log.length + 1 : Nat) : Int) ≤ n := hs
      have hn : n ≤ (e.log ++ [r']).length := hn
      rw [hlen1] at hn
      obtain rfl : n = e.log.length + 1 := by omega
      show okPath (e.log ++ [r']) (trueD e tx C q) (UA (e.log ++ [r']) (e.log.length + 1) q) (redo1 (pg (diskD e tx) q) (e.log ++ [r']) q (e.log.length + 1))
      rw [hUA, hrd]
      unfold trueD
      cases hhas : has e.log tx e.log.length q
      · rw [if_neg (by simp), if_neg (by simp), hRed' q hq hhas]
        exact okPath_congr hA.symm (fun m hm => by have := UA_mem hm; omega) (hc.good e.log.length hs1 (Nat.le_refl _) q hq)
      · rw [if_pos rfl, if_pos rfl, hRed q hq hhas]
        exact ⟨(hm q hq).ok, rfl, rfl⟩
  refine ⟨hcore, h.mlen, fun hd => ?_, fun _ => (h.upc hup).more hl' (by omega), fun _ q hq => ?_⟩
  · rw [show e.down = true from hd] at hup; cases hup
  · have hMq := hm q hq
    have hRx : redoP ({ e with disk := diskD e tx, log := e.log ++ [r'], safe := (e.log.length + 1 : Nat) } : Eng) q = redo1 (pg (diskD e tx) q) e.log q e.log.length := by
      show redo1 (pg (diskD e tx) q) (e.log ++ [r']) q (e.log ++ [r']).length = _
      rw [hlen1, hrd]
    cases hhas : has e.log tx e.log.length q
    · have hdq := hRed' q hq hhas
      have hRe : redo1 (pg (diskD e tx) q) e.log q e.log.length = redoP e q := by rw [hdq]; rfl
      have hls : lds (e.log ++ [r']) (e.log.length + 1) q = lds e.log e.log.length q := by
        rw [lds_end hend (by rw [htx, ld_congr hA _ _ (Nat.le_refl _), Bool.eq_false_iff]; intro hld; rw [ld_has hld] at hhas; cases hhas), lds_congr hA q (Nat.le_refl _)]
      have hlo : lastOfN (e.log ++ [r']) q (e.log.length + 1) = lastOfN e.log q e.log.length := by
        rw [miss_lastOf (by rw [hrl, k1]; simp [chgB]), lastOfN_congr _ hA]
      have hUq := hUA q
      rw [hhas, if_neg (by simp)] at hUq
      refine ⟨hMq.ok, by rw [hRx, hRe]; exact hMq.owner, ?_, ?_⟩
      · show (pg e.mem q).lsn ≤ ((e.log ++ [r']).length : Int)
        rw [hlen1]; have := hMq.lsn; omega
      · rw [hRx, hRe]
        show (lds (e.log ++ [r']) (e.log ++ [r']).length q = false ∧ pg e.mem q = redoP e q) ∨ (lds (e.log ++ [r']) (e.log ++ [r']).length q = true ∧ (pg e.mem q).lsn = (lastOfN (e.log ++ [r']) q (e.log ++ [r']).length : Int) ∧ ((pg (diskD e tx) q).lsn < (pg e.mem q).lsn ∨ pg e.mem q = pg (diskD e tx) q) ∧ (pg e.mem q = redoP e q ∨ hasZ (e.log ++ [r']) (UA (e.log ++ [r']) (e.log ++ [r']).length q)))
        rw [hlen1, hls, hlo, hUq, hdq]
        rcases hMq.cases with hx | ⟨a, b, c, d⟩
        · exact .inl hx
        · exact .inr ⟨a, b, c, d.imp id (fun hz => hasZ_congr hA.symm (fun m hm => by have := UA_mem hm; omega) hz)⟩
    · have hRe := hRed q hq hhas
      refine ⟨hMq.ok, by rw [hRx, hRe], ?_, .inl ⟨?_, by rw [hRx, hRe]⟩⟩
      · show (pg e.mem q).lsn ≤ ((e.log ++ [r']).length : Int)
        rw [hlen1]; have := hMq.lsn; omega
      · show lds (e.log ++ [r']) (e.log ++ [r']).length q = false
        rw [hlen1]; exact hoth q hhas
def writeE (e : Eng) (p : Nat) : Eng := { e with safe := max e.safe (pg e.mem p).lsn, disk := e.disk.set p (pg e.mem p) }
theorem Inv.write {e : Eng} {C : Nat → Page} {B : Nat} (h : Inv e C B) (hup : e.down = false) {p : Nat} (hp : p < 5) : Inv (writeE e p) C B := by
  have hc := h.core
  have hm := h.upm hup
  have hs0 := hc.s0
  have hs1 := hc.s1
  have hpl := (hm p hp).lsn
  have hD : ∀ q, pg (e.disk.set p (pg e.mem p)) q = if p = q then pg e.mem p else pg e.disk q := fun q => pg_set (by rw [hc.dlen]; exact hp)
  have hcalm := (hm p hp).calm
  have hcore : Core (writeE e p) C B := by
    refine ⟨by show (e.disk.set p _).length = 5; simpa using hc.dlen, fun q hq => ?_, hc.log, hc.prop, by show 0 ≤ max e.safe _; omega, by show max e.safe (pg e.mem p).lsn ≤ (e.log.length : Int); omega, hc.b150, hc.room, fun k hk h4 => ?_, fun q hq => ?_, fun n hs hn q hq => ?_⟩
    · show pageOk (pg (e.disk.set p _) q) = true
      rw [hD]
      split
      · exact (hm p hp).ok
      · exact hc.dok q hq
    · have := hc.done k hk h4
      show _ ≤ max e.safe _
      omega
    · show (pg (e.disk.set p _) q).lsn ≤ max e.safe _
      have := hc.dlsn q hq
      rw [hD]
      split <;> omega
    · have hs : max e.safe (pg e.mem p).lsn ≤ n := hs
      show okPath e.log (C q) (UA e.log n q) (redo1 (pg (e.disk.set p (pg e.mem p)) q) e.log q n)
      rw [hD]
      split
      · rename_i e1
        subst e1
        rw [redo1_calm (fun k hk hlt => hcalm k (by have : n ≤ e.log.length := hn; omega) hlt)]
        have hU : UA e.log e.log.length p = UA e.log n p := UA_stays hc.log hc.prop hn (Nat.le_refl _) fun k h1 h2 => ⟨hcalm k h2 (by omega), fun h4 => by have := hc.done k h2 h4; omega⟩
        rw [← hU]
        exact hc.memPath hp (hm p hp).ok (hm p hp).owner (hm p hp).alt
      · exact hc.good n (by omega) hn q hq
  refine ⟨hcore, h.mlen, fun hd => ?_, h.upc, fun _ q hq => ?_⟩
  · rw [show e.down = true from hd] at hup; cases hup
  · have hMq := hm q hq
    by_cases e1 : p = q
    · subst e1
      have hRx : redoP (writeE e p) p = pg e.mem p := by
        show redo1 (pg (e.disk.set p (pg e.mem p)) p) e.log p e.log.length = _
        rw [hD, if_pos rfl]
        exact redo1_calm hcalm
      refine ⟨hMq.ok, by rw [hRx]; rfl, hMq.lsn, ?_⟩
      rw [hRx]
      rcases hMq.cases with hx | ⟨a, b, c, d⟩
      · exact .inl ⟨hx.1, rfl⟩
      · exact .inr ⟨a, b, .inr (by show _ = pg (e.disk.set p _) p; rw [hD, if_pos rfl]; rfl), .inl rfl⟩
    · have hdq : pg (writeE e p).disk q = pg e.disk q := by
        show pg (e.disk.set p _) q = _
        rw [hD, if_neg e1]
      have hRx : redoP (writeE e p) q = redoP e q := by
        show redo1 (pg (writeE e p).disk q) e.log q e.log.length = _
        rw [hdq]; rfl
      refine ⟨hMq.ok, by rw [hRx]; exact hMq.owner, hMq.lsn, ?_⟩
      rw [hRx, hdq]
      exact hMq.cases
def forceE (e : Eng) : Eng := { e with safe := e.log.length }
theorem Inv.force {e : Eng} {C : Nat → Page} {B : Nat} (h : Inv e C B) (hup : e.down = false) : Inv (forceE e) C B := by
  have hc := h.core
  have hs0 := hc.s0
  have hs1 := hc.s1
  refine ⟨⟨hc.dlen, hc.dok, hc.log, hc.prop, by show (0 : Int) ≤ (e.log.length : Int); omega, Int.le_refl _, hc.b150, hc.room, fun k hk h4 => ?_, fun q hq => ?_, fun n hs hn q hq => ?_⟩, h.mlen, fun hd => ?_, h.upc, fun hd q hq => ?_⟩
  · have := hc.done k hk h4
    show _ ≤ (e.log.length : Int)
    omega
  · have := hc.dlsn q hq
    show (pg e.disk q).lsn ≤ (e.log.length : Int)
    omega
  · have hs : (e.log.length : Int) ≤ n := hs
    exact hc.good n (by omega) hn q hq
  · rw [show e.down = true from hd] at hup; cases hup
  · have hMq := h.upm hup q hq
    exact ⟨hMq.ok, hMq.owner, hMq.lsn, hMq.cases⟩
/-- How many records stay. -/
def leftN (e : Eng) (left : Int) : Nat := (max e.safe (min left e.log.length)).toNat
def fallE (e : Eng) (left : Int) : Eng := { e with mem := e.disk, log := e.log.take (leftN e left), down := true }
theorem Core.take {e : Eng} {C : Nat → Page} {B : Nat} (h : Core e C B) {n : Nat} (h1 : e.safe ≤ n) (h2 : n ≤ e.log.length) : Core { e with log := e.log.take n } C B := by
  have hA := agree_take e.log n
  have hl : (e.log.take n).length = n := by rw [List.length_take]; omega
  refine ⟨h.dlen, h.dok, logOk_take h.log n, proper_take h.prop n, h.s0, by show e.safe ≤ ((e.log.take n).length : Int); rw [hl]; exact h1, h.b150, fun k hk => ?_, fun k hk h4 => ?_, h.dlsn, fun k hs hk q hq => ?_⟩
  · have hk : k ≤ (e.log.take n).length := hk
    show k + needAt (e.log.take n) k ≤ B
    rw [needAt_congr hA (by omega)]
    exact h.room k (by omega)
  · have hk : k < (e.log.take n).length := hk
    have h4 : (rc (e.log.take n) k).kind = 4 := h4
    rw [hA k (by omega)] at h4
    exact h.done k (by omega) h4
  · have hk : k ≤ (e.log.take n).length := hk
    show okPath (e.log.take n) (C q) (UA (e.log.take n) k q) (redo1 (pg e.disk q) (e.log.take n) q k)
    rw [UA_congr hA q (by omega), redo1_congr _ q (hA.le (by omega))]
    exact okPath_congr hA.symm (fun m hm => by have := UA_mem hm; omega) (h.good k hs (by omega) q hq)
theorem leftN_le {e : Eng} {left : Int} (h0 : 0 ≤ e.safe) (h1 : e.safe ≤ e.log.length) : e.safe ≤ leftN e left ∧ leftN e left ≤ e.log.length := by
  unfold leftN
  omega
theorem Inv.fall {e : Eng} {C : Nat → Page} {B : Nat} (h : Inv e C B) (left : Int) : Inv (fallE e left) C B := by
  have hl := leftN_le (left := left) h.core.s0 h.core.s1
  exact ⟨(h.core.take hl.1 hl.2).mem _ _, h.core.dlen, fun _ => rfl, fun hd => (by cases hd), fun hd => (by cases hd)⟩
end Go.Proofs.YtlmlcnokiipilaaGreat

/- An undoing, a rising keep what holds of an engine; what was done is there; in plain Lean. -/
namespace Go.Proofs.YtlmlcnokiipilaaGreat

def undoK (tx : Int) : Nat → Eng → Eng
  | 0, e => e
  | k + 1, e => undoK tx k (stepE e tx)
def undoE (e : Eng) (tx : Int) : Eng := if lastT e tx = 0 then e else undoK tx ((U e.log tx e.log.length).length + 1) e
/-- What holds while tx is being undone. -/
structure UndInv (e : Eng) (C : Nat → Page) (B : Nat) (tx : Int) : Prop where
  core : Core e C B
  mlen : e.mem.length = 5
  up : e.down = false
  oth : ∀ t, t ≠ tx → ∀ m ∈ Ch e.log t e.log.length, (rc e.log (m - 1)).kind ≠ 6
  upm : ∀ p, p < 5 → MemR e p
theorem stepE_len (e : Eng) (tx : Int) : (stepE e tx).log.length = e.log.length + 1 := by rw [stepE_log]; simp
theorem Core.stepU {e : Eng} {C : Nat → Page} {B : Nat} (h : Core e C B) {tx : Int} (ht : tx = 1 ∨ tx = 2 ∨ tx = 3) (hlast : lastT e tx ≠ 0) :
    U (stepE e tx).log tx (stepE e tx).log.length = (U e.log tx e.log.length).tail ∧ (∀ t, t ≠ tx → U (stepE e tx).log t (stepE e tx).log.length = U e.log t e.log.length ∧ lastT (stepE e tx) t = lastT e t) ∧ (lastT (stepE e tx) tx = if U e.log tx e.log.length = [] then 0 else e.log.length + 1) ∧ needAt (stepE e tx).log (stepE e tx).log.length + 1 = needAt e.log e.log.length := by
  have h1 := h.one ht hlast
  have hk := step_kind (e := e) h.log tx
  have hn := hk.next h.log (by omega) h1
  have hd := hk.need h.log ht h1 hlast
  unfold lastT
  rw [stepE_len, stepE_log]
  exact ⟨hn.1, hn.2.1, hn.2.2, hd⟩
theorem Core.stepCh {e : Eng} {C : Nat → Page} {B : Nat} (h : Core e C B) {tx t : Int} (hne : t ≠ tx) : Ch (stepE e tx).log t (stepE e tx).log.length = Ch e.log t e.log.length := by
  have hk := step_kind (e := e) h.log tx
  rw [stepE_len, stepE_log, Ch_other (by rw [rc_last, hk.tx]; exact Ne.symm hne), Ch_congr (agree_app _ _) t (Nat.le_refl _)]
theorem UndInv.step {e : Eng} {C : Nat → Page} {B : Nat} {tx : Int} (h : UndInv e C B tx) (ht : tx = 1 ∨ tx = 2 ∨ tx = 3) (hlast : lastT e tx ≠ 0) : UndInv (stepE e tx) C B tx := by
  refine ⟨h.core.step ht hlast, by unfold stepE; rw [app_mlen]; exact h.mlen, h.up, fun t hne m hm => ?_, fun p hp => (h.upm p hp).step h.core h.mlen ht hlast hp⟩
  rw [h.core.stepCh hne] at hm
  have h1 := chainN_mem_le _ m hm
  have h2 := lastN_le e.log t e.log.length
  rw [stepE_log, rc_app (by omega)]
  exact h.oth t hne m hm
theorem UndInv.all {C : Nat → Page} {B : Nat} {tx : Int} (ht : tx = 1 ∨ tx = 2 ∨ tx = 3) : ∀ (k : Nat) (e : Eng), UndInv e C B tx → lastT e tx ≠ 0 → (U e.log tx e.log.length).length = k → UndInv (undoK tx (k + 1) e) C B tx ∧ lastT (undoK tx (k + 1) e) tx = 0
  | 0, e, h, hlast, hk => by
    have hs := h.core.stepU ht hlast
    have h0 := List.eq_nil_of_length_eq_zero hk
    refine ⟨h.step ht hlast, ?_⟩
    show lastT (stepE e tx) tx = 0
    rw [hs.2.2.1, if_pos h0]
  | k + 1, e, h, hlast, hk => by
    have hs := h.core.stepU ht hlast
    have hne : U e.log tx e.log.length ≠ [] := fun h0 => by rw [h0] at hk; cases hk
    exact UndInv.all ht k (stepE e tx) (h.step ht hlast) (by rw [hs.2.2.1, if_neg hne]; omega) (by rw [hs.1, List.length_tail, hk]; omega)
theorem Ch_zero {e : Eng} {t : Int} (h : lastT e t = 0) : Ch e.log t e.log.length = [] := by
  rw [Ch, show lastN e.log t e.log.length = 0 from h, chainN_zero]
theorem Inv.und {e : Eng} {C : Nat → Page} {B : Nat} (h : Inv e C B) (hup : e.down = false) (tx : Int) : UndInv e C B tx := ⟨h.core, h.mlen, hup, fun t _ => h.upc hup t, h.upm hup⟩
theorem UndInv.inv {e : Eng} {C : Nat → Page} {B : Nat} {tx : Int} (h : UndInv e C B tx) (h0 : lastT e tx = 0) : Inv e C B := by
  refine ⟨h.core, h.mlen, fun hd => ?_, fun _ t m hm => ?_, fun _ => h.upm⟩
  · rw [h.up] at hd; cases hd
  · by_cases e1 : t = tx
    · subst e1
      rw [Ch_zero h0] at hm; cases hm
    · exact h.oth t e1 m hm
theorem Inv.undo {e : Eng} {C : Nat → Page} {B : Nat} (h : Inv e C B) (hup : e.down = false) {tx : Int} (ht : tx = 1 ∨ tx = 2 ∨ tx = 3) : Inv (undoE e tx) C B ∧ lastT (undoE e tx) tx = 0 ∧ (undoE e tx).down = false := by
  unfold undoE
  split
  · rename_i h0
    exact ⟨h, h0, hup⟩
  · rename_i h0
    have := UndInv.all ht _ e (h.und hup tx) h0 rfl
    exact ⟨this.1.inv this.2, this.2, this.1.up⟩
def firstO (e : Eng) : Int := if lastT e 1 ≠ 0 then 1 else if lastT e 2 ≠ 0 then 2 else if lastT e 3 ≠ 0 then 3 else 0
def riseK : Nat → Eng → Eng
  | 0, e => e
  | k + 1, e => if firstO e = 0 then e else riseK k (stepE e (firstO e))
def riseE (e : Eng) (steps : Nat) : Eng :=
  let x := riseK steps { e with mem := redoN e.disk e.log e.log.length }
  if firstO x = 0 then { x with down := false } else { x with mem := x.disk }
theorem firstO_some {e : Eng} (h : firstO e ≠ 0) : (firstO e = 1 ∨ firstO e = 2 ∨ firstO e = 3) ∧ lastT e (firstO e) ≠ 0 := by
  unfold firstO at h ⊢
  split at h
  · rename_i h1; rw [if_pos h1]; exact ⟨.inl rfl, h1⟩
  · rename_i h1
    rw [if_neg h1]
    split at h
    · rename_i h2; rw [if_pos h2]; exact ⟨.inr (.inl rfl), h2⟩
    · rename_i h2
      rw [if_neg h2]
      split at h
      · rename_i h3; rw [if_pos h3]; exact ⟨.inr (.inr rfl), h3⟩
      · exact absurd rfl h
theorem firstO_none {e : Eng} (h : firstO e = 0) : lastT e 1 = 0 ∧ lastT e 2 = 0 ∧ lastT e 3 = 0 := by
  unfold firstO at h
  split at h
  · cases h
  · rename_i h1
    split at h
    · cases h
    · rename_i h2
      split at h
      · cases h
      · rename_i h3
        exact ⟨Decidable.not_not.1 h1, Decidable.not_not.1 h2, Decidable.not_not.1 h3⟩
theorem firstO_zero {e : Eng} (h : needAt e.log e.log.length = 0) : firstO e = 0 := by
  by_cases h0 : firstO e = 0
  · exact h0
  · obtain ⟨h1, h2⟩ := firstO_some h0
    have h3 : 1 ≤ cst e.log (firstO e) e.log.length := by rw [cst, if_neg h2]; omega
    rw [needAt] at h
    rcases h1 with h1 | h1 | h1 <;> rw [h1] at h3 <;> omega
/-- What holds while an engine rises. -/
structure RiseInv (e : Eng) (C : Nat → Page) (B : Nat) : Prop where
  core : Core e C B
  mlen : e.mem.length = 5
  same : ∀ p, p < 5 → pg e.mem p = redoP e p
theorem RiseInv.step {e : Eng} {C : Nat → Page} {B : Nat} (h : RiseInv e C B) {tx : Int} (ht : tx = 1 ∨ tx = 2 ∨ tx = 3) (hlast : lastT e tx ≠ 0) : RiseInv (stepE e tx) C B :=
  ⟨h.core.step ht hlast, by unfold stepE; rw [app_mlen]; exact h.mlen, step_redo h.core h.mlen tx h.same⟩
theorem RiseInv.all {C : Nat → Page} {B : Nat} : ∀ (k : Nat) (e : Eng), RiseInv e C B → RiseInv (riseK k e) C B ∧ (riseK k e).disk = e.disk ∧ (riseK k e).safe = e.safe ∧ (riseK k e).down = e.down ∧ (needAt e.log e.log.length ≤ k → firstO (riseK k e) = 0)
  | 0, e, h => ⟨h, rfl, rfl, rfl, fun hn => firstO_zero (e := e) (by omega)⟩
  | k + 1, e, h => by
    rw [riseK]
    split
    · rename_i h0
      exact ⟨h, rfl, rfl, rfl, fun _ => h0⟩
    · rename_i h0
      obtain ⟨h1, h2⟩ := firstO_some h0
      obtain ⟨a, b, c, d, f⟩ := RiseInv.all k (stepE e (firstO e)) (h.step h1 h2)
      have hs := h.core.stepU h1 h2
      exact ⟨a, b, c, d, fun hn => f (by omega)⟩
theorem Core.start {e : Eng} {C : Nat → Page} {B : Nat} (h : Core e C B) : RiseInv { e with mem := redoN e.disk e.log e.log.length } C B := by
  refine ⟨h.mem _ e.down, by show (redoN e.disk e.log e.log.length).length = 5; rw [redoN_len]; exact h.dlen, fun p hp => ?_⟩
  exact pg_redo h.dlen (fun k hk => (logOk_facts h.log hk).ok) p _ (Nat.le_refl _)
/-- Nobody is open: no chain, nothing to undo. -/
theorem Core.noCh {e : Eng} {C : Nat → Page} {B : Nat} (h : Core e C B) (h0 : firstO e = 0) (t : Int) : Ch e.log t e.log.length = [] := by
  have hz := firstO_none h0
  by_cases h1 : Ch e.log t e.log.length = []
  · exact h1
  · obtain ⟨m, hm⟩ := List.exists_mem_of_ne_nil _ h1
    have hb := chainN_mem_le _ m hm
    have hle := lastN_le e.log t e.log.length
    have hrec := logOk_facts h.log (k := m - 1) (by omega)
    have ht : t = 1 ∨ t = 2 ∨ t = 3 := by
      have hlt := lastN_tx e.log t e.log.length
      have hF := logOk_facts h.log (k := lastN e.log t e.log.length - 1) (by omega)
      rcases hlt with hlt | hlt
      · omega
      · have h2 := hF.tx1
        have h3 := hF.tx3
        rw [hlt] at h2 h3
        omega
    rcases ht with rfl | rfl | rfl
    · exact Ch_zero hz.1
    · exact Ch_zero hz.2.1
    · exact Ch_zero hz.2.2
theorem Core.noU {e : Eng} {C : Nat → Page} {B : Nat} (_h : Core e C B) (h0 : firstO e = 0) (p : Int) : UA e.log e.log.length p = [] := by
  have hz := firstO_none h0
  have hF : ∀ t, lastT e t = 0 → F e.log e.log.length p t = [] := fun t ht => by
    rw [F, U, show lastN e.log t e.log.length = 0 from ht, undN_zero]; rfl
  rw [UA, hF 1 hz.1, hF 2 hz.2.1, hF 3 hz.2.2]; rfl
theorem Core.noL {e : Eng} {C : Nat → Page} {B : Nat} (h : Core e C B) (h0 : firstO e = 0) (p : Int) : lds e.log e.log.length p = false := by
  rw [Bool.eq_false_iff]
  intro hl
  obtain ⟨t, _, hlt⟩ := lds_iff.1 hl
  obtain ⟨m, hm, _⟩ := ld_iff.1 hlt
  rw [h.noCh h0 t] at hm
  cases hm
theorem RiseInv.up {e : Eng} {C : Nat → Page} {B : Nat} (h : RiseInv e C B) (h0 : firstO e = 0) : Inv { e with down := false } C B := by
  refine ⟨h.core.mem e.mem false, h.mlen, fun hd => (by cases hd), fun _ t m hm => ?_, fun _ p hp => ?_⟩
  · have hm : m ∈ Ch e.log t e.log.length := hm
    rw [h.core.noCh h0 t] at hm; cases hm
  · have hsm := h.same p hp
    have hs1 := h.core.s1
    refine ⟨?_, ?_, ?_, .inl ⟨h.core.noL h0 p, hsm⟩⟩
    · show pageOk (pg e.mem p) = true
      rw [hsm]; exact h.core.rok hp hs1 (Nat.le_refl _)
    · show (pg e.mem p).owner = (redoP e p).owner
      rw [hsm]
    · show (pg e.mem p).lsn ≤ (e.log.length : Int)
      rw [hsm]; exact h.core.rlsn hp hs1
theorem Inv.rise {e : Eng} {C : Nat → Page} {B : Nat} (h : Inv e C B) (hd : e.down = true) (k : Nat) : Inv (riseE e k) C B := by
  obtain ⟨a, b, c, d, _⟩ := RiseInv.all k _ h.core.start
  unfold riseE
  simp only
  split
  · rename_i h0
    exact a.up h0
  · refine ⟨a.core.mem _ _, by show (riseK k _).disk.length = 5; rw [b]; exact h.core.dlen, fun _ => rfl, fun hx => ?_, fun hx => ?_⟩
    · have hx : (riseK k { e with mem := redoN e.disk e.log e.log.length }).down = false := hx
      rw [d] at hx
      rw [show e.down = false from hx] at hd; cases hd
    · have hx : (riseK k { e with mem := redoN e.disk e.log e.log.length }).down = false := hx
      rw [d] at hx
      rw [show e.down = false from hx] at hd; cases hd
theorem Inv.rises {e : Eng} {C : Nat → Page} {B : Nat} (h : Inv e C B) {k : Nat} (hk : needAt e.log e.log.length ≤ k) : (riseE e k).down = false ∧ firstO (riseE e k) = 0 := by
  obtain ⟨a, b, c, d, f⟩ := RiseInv.all k _ h.core.start
  have h0 := f hk
  unfold riseE
  simp only
  rw [if_pos h0]
  exact ⟨rfl, h0⟩
/-- What was done is there, once nobody is open. -/
theorem Inv.truth {e : Eng} {C : Nat → Page} {B : Nat} (h : Inv e C B) (hup : e.down = false) (h0 : firstO e = 0) {p : Nat} (hp : p < 5) : (pg e.mem p).owner = (C p).owner ∧ (pg e.mem p).vals = (C p).vals := by
  have hc := h.core
  have hg := hc.memPath hp (h.upm hup p hp).ok (h.upm hup p hp).owner (h.upm hup p hp).alt
  rw [hc.noU h0] at hg
  exact hg.2
theorem Inv.need_le {e : Eng} {C : Nat → Page} {B : Nat} (h : Inv e C B) : needAt e.log e.log.length ≤ 150 := by
  have h1 := h.core.room e.log.length (Nat.le_refl _)
  have h2 := h.core.b150
  omega
end Go.Proofs.YtlmlcnokiipilaaGreat

/- EngineOk, in plain Lean; engines that plays make are ok. -/
namespace Go.Proofs.YtlmlcnokiipilaaGreat

theorem samePg_iff {p q : Page} : samePg p q = true ↔ p = q := by
  simp only [samePg, Bool.and_eq_true, beq_iff_eq]
  constructor
  · rintro ⟨⟨h1, h2⟩, h3⟩
    exact page_ext h1 h2 h3
  · rintro rfl
    exact ⟨⟨rfl, rfl⟩, rfl⟩
def memB (e : Eng) (p : Nat) : Bool :=
  if loadR e.log p 3 = true then (pg e.mem p).owner == (pg (redoN e.disk e.log e.log.length) p).owner && (pg e.mem p).lsn == lastOfN e.log p e.log.length && (decide ((pg e.disk p).lsn < (pg e.mem p).lsn) || samePg (pg e.mem p) (pg e.disk p))
  else samePg (pg e.mem p) (pg (redoN e.disk e.log e.log.length) p)
def pageB (e : Eng) (p : Nat) : Bool :=
  (lockF e.log p (openR e.log 3) 0 true).2 && decide ((pg e.disk p).lsn ≤ e.safe) && (if e.down = true then samePg (pg e.mem p) (pg e.disk p) else memB e p)
/-- Whatever stays of the log, from n records on. -/
def prefB (e : Eng) (n : Nat) : Bool := psOk (redoN e.disk (e.log.take n) (e.log.take n).length) && undoneB (e.log.take n) (redoN e.disk (e.log.take n) (e.log.take n).length)
def prefsB (e : Eng) : Nat → Nat → Bool
  | 0, _ => true
  | k + 1, n => prefB e n && prefsB e k (n + 1)
def eOk (e : Eng) : Bool :=
  psOk e.disk && (psOk e.mem && (logOk e.log && (inB e.safe 0 e.log.length && (fitsB e.log && (prefsB e (e.log.length + 1 - e.safe.toNat) e.safe.toNat && (List.range 5).all fun p => pageB e p)))))
theorem prefsB_iff {e : Eng} : ∀ {k n : Nat}, prefsB e k n = true ↔ ∀ m, n ≤ m → m < n + k → prefB e m = true
  | 0, n => ⟨fun _ m h1 h2 => by omega, fun _ => rfl⟩
  | k + 1, n => by
    rw [prefsB, Bool.and_eq_true, prefsB_iff]
    constructor
    · rintro ⟨h1, h2⟩ m h3 h4
      rcases Nat.eq_or_lt_of_le h3 with rfl | h3
      · exact h1
      · exact h2 m h3 (by omega)
    · intro h
      exact ⟨h n (Nat.le_refl _) (by omega), fun m h1 h2 => h m (by omega) (by omega)⟩
theorem undoB_of_path {l : List Rec} {C : Nat → Page} : ∀ {ms : List Nat} {ps : List Page}, ps.length = 5 → (∀ m ∈ ms, 0 ≤ (rc l (m - 1)).page ∧ (rc l (m - 1)).page < 5) → (∀ p, p < 5 → okPath l (C p) (ms.filter fun m => (rc l (m - 1)).page == (p : Int)) (pg ps p)) → undoB l ps ms = true
  | [], _, _, _, _ => rfl
  | m :: ms, ps, hl, hm, hp => by
    have h5 := hm m (by simp)
    obtain ⟨q, hq⟩ : ∃ q : Nat, (rc l (m - 1)).page = (q : Int) := ⟨(rc l (m - 1)).page.toNat, by omega⟩
    have hq5 : q < 5 := by omega
    have hpq := hp q hq5
    rw [List.filter_cons, if_pos (by rw [hq]; simp)] at hpq
    have e1 : (rc l (m - 1)).page.toNat = q := by omega
    rw [undoB, e1, okPath_ok hpq.2, Bool.true_and]
    refine undoB_of_path (C := C) (by simpa using hl) (fun x hx => hm x (by simp [hx])) fun p hp5 => ?_
    rw [pg_set (by omega)]
    by_cases e2 : q = p
    · subst e2
      rw [if_pos rfl]
      exact hpq.2
    · rw [if_neg e2]
      have hpp := hp p hp5
      rw [List.filter_cons, if_neg (by rw [hq, beq_iff_eq]; omega)] at hpp
      exact hpp
theorem undR_UA (l : List Rec) (p : Int) : (undR l 3).filter (fun m => (rc l (m - 1)).page == p) = UA l l.length p := by
  have e1 : (3 - ((2 : Nat) : Int)) = 1 := rfl
  have e2 : (3 - ((1 : Nat) : Int)) = 2 := rfl
  have e3 : (3 - ((0 : Nat) : Int)) = 3 := rfl
  rw [undR, undR, undR, undR, e1, e2, e3, List.append_nil, List.filter_append, List.filter_append]
  rfl
theorem undR_mem {l : List Rec} (hl : logOk l = true) : ∀ m ∈ undR l 3, 0 ≤ (rc l (m - 1)).page ∧ (rc l (m - 1)).page < 5 := by
  have hU : ∀ t, ∀ m ∈ undN l (lastN l t l.length), 0 ≤ (rc l (m - 1)).page ∧ (rc l (m - 1)).page < 5 := fun t m hm => by
    have h1 := U_mem (l := l) (tx := t) (n := l.length) hm
    have h2 := und_rec hl h1.1 h1.2 (U_kind hl (Nat.le_refl _) hm)
    exact ⟨h2.2.1, h2.2.2.1⟩
  intro m hm
  rw [undR, undR, undR, undR, List.append_nil, List.mem_append, List.mem_append] at hm
  rcases hm with hm | hm | hm <;> exact hU _ m hm
theorem lockF_one {l : List Rec} {p : Int} : ∀ {txs : List Int} {b : Int} {ok : Bool}, ok = true → (∀ t ∈ txs, t ≠ 0) → (∀ t ∈ txs, ∀ t' ∈ txs, t ≠ t' → hasN l (lastN l t l.length) p = true → hasN l (lastN l t' l.length) p = false) → txs.Nodup → (b = 0 ∨ ∀ t ∈ txs, hasN l (lastN l t l.length) p = false) →
    (lockF l p txs b ok).2 = true ∧ ((lockF l p txs b ok).1 = b ∧ (∀ t ∈ txs, hasN l (lastN l t l.length) p = false) ∨ ((lockF l p txs b ok).1 ∈ txs ∧ hasN l (lastN l (lockF l p txs b ok).1 l.length) p = true))
  | [], b, ok, hok, _, _, _, _ => ⟨hok, .inl ⟨rfl, fun t ht => by cases ht⟩⟩
  | t :: txs, b, ok, hok, hz, hone, hnd, hb => by
    rw [List.nodup_cons] at hnd
    cases hh : hasN l (lastN l t l.length) p
    · rw [lockF, if_neg (by rw [hh]; simp)]
      have ih := lockF_one (b := b) (ok := ok) hok (fun x hx => hz x (by simp [hx])) (fun x hx y hy => hone x (by simp [hx]) y (by simp [hy])) hnd.2 (hb.imp id fun h x hx => h x (by simp [hx]))
      refine ⟨ih.1, ih.2.imp (fun h => ⟨h.1, fun x hx => ?_⟩) (fun h => ⟨List.mem_cons_of_mem _ h.1, h.2⟩)⟩
      rcases List.mem_cons.1 hx with rfl | hx
      · exact hh
      · exact h.2 x hx
    · have hb0 : b = 0 := by
        rcases hb with hb | hb
        · exact hb
        · have := hb t (by simp)
          rw [hh] at this; cases this
      have hrest : ∀ x ∈ txs, hasN l (lastN l x l.length) p = false := fun x hx => hone t (by simp) x (by simp [hx]) (fun e => hnd.1 (e ▸ hx)) hh
      rw [lockF, if_pos hh]
      have ih := lockF_one (b := t) (ok := b == 0) (by rw [hb0]; rfl) (fun x hx => hz x (by simp [hx])) (fun x hx y hy => hone x (by simp [hx]) y (by simp [hy])) hnd.2 (.inr hrest)
      refine ⟨ih.1, .inr ?_⟩
      rcases ih.2 with h | h
      · rw [h.1]; exact ⟨by simp, hh⟩
      · have := hrest _ h.1
        rw [h.2] at this; cases this
theorem openR_three (l : List Rec) : openR l 3 = (if lastN l 1 l.length = 0 then [] else [1]) ++ ((if lastN l 2 l.length = 0 then [] else [2]) ++ (if lastN l 3 l.length = 0 then [] else [3])) := by
  have e1 : (3 - ((2 : Nat) : Int)) = 1 := rfl
  have e2 : (3 - ((1 : Nat) : Int)) = 2 := rfl
  have e3 : (3 - ((0 : Nat) : Int)) = 3 := rfl
  rw [openR, openR, openR, openR, e1, e2, e3, List.append_nil]
theorem openR_nodup (l : List Rec) : (openR l 3).Nodup := by
  rw [openR_three]
  split <;> split <;> split <;> decide
theorem openR_mem {l : List Rec} {t : Int} : t ∈ openR l 3 ↔ (t = 1 ∨ t = 2 ∨ t = 3) ∧ lastN l t l.length ≠ 0 := by
  rw [openR_three, List.mem_append, List.mem_append]
  constructor
  · rintro (h | h | h)
    · split at h
      · cases h
      · rename_i h1; rw [List.mem_singleton.1 h]; exact ⟨.inl rfl, h1⟩
    · split at h
      · cases h
      · rename_i h1; rw [List.mem_singleton.1 h]; exact ⟨.inr (.inl rfl), h1⟩
    · split at h
      · cases h
      · rename_i h1; rw [List.mem_singleton.1 h]; exact ⟨.inr (.inr rfl), h1⟩
  · rintro ⟨rfl | rfl | rfl, h⟩
    · left; rw [if_neg h]; simp
    · right; left; rw [if_neg h]; simp
    · right; right; rw [if_neg h]; simp
/-- Who holds a page; 0: nobody. -/
def lk (l : List Rec) (p : Int) : Int := (lockF l p (openR l 3) 0 true).1
theorem lk_all {l : List Rec} {p : Int} (hone : ∀ t t', t ≠ t' → has l t l.length p = true → has l t' l.length p = false) : (lockF l p (openR l 3) 0 true).2 = true ∧ ((lk l p = 0 ∧ ∀ t, (t = 1 ∨ t = 2 ∨ t = 3) → has l t l.length p = false) ∨ ((lk l p = 1 ∨ lk l p = 2 ∨ lk l p = 3) ∧ has l (lk l p) l.length p = true)) := by
  have h := lockF_one (l := l) (p := p) (txs := openR l 3) (b := 0) (ok := true) rfl (fun t ht => by have := (openR_mem.1 ht).1; omega) (fun t _ t' _ hne hh => hone t t' hne hh) (openR_nodup l) (.inl rfl)
  refine ⟨h.1, h.2.imp (fun hx => ⟨hx.1, fun t ht => ?_⟩) (fun hx => ⟨(openR_mem.1 hx.1).1, hx.2⟩)⟩
  by_cases h0 : lastN l t l.length = 0
  · rw [has, h0, hasN_zero]
  · exact hx.2 t (openR_mem.2 ⟨ht, h0⟩)
theorem Core.one_holds {e : Eng} {C : Nat → Page} {B : Nat} (h : Core e C B) (p : Int) : ∀ t t', t ≠ t' → has e.log t e.log.length p = true → has e.log t' e.log.length p = false := fun t t' hne hh => lock_one h.log h.prop _ (Nat.le_refl _) t t' p hne hh
theorem psOk_iff {ps : List Page} : psOk ps = true ↔ ps.length = 5 ∧ ∀ p, p < 5 → pageOk (pg ps p) = true := by
  simp only [psOk, Bool.and_eq_true, beq_iff_eq, Bool.not_eq_true', List.any_eq_false]
  constructor
  · rintro ⟨h1, h2⟩
    refine ⟨h1, fun p hp => ?_⟩
    have := h2 (pg ps p) (by simp [pg, List.getD_eq_getElem?_getD, h1, hp])
    simpa using this
  · rintro ⟨h1, h2⟩
    refine ⟨h1, fun x hx => ?_⟩
    obtain ⟨k, hk, rfl⟩ := List.getElem_of_mem hx
    have := h2 k (by omega)
    simp [pg, List.getD_eq_getElem?_getD, hk] at this
    simp [this]
theorem Core.pref {e : Eng} {C : Nat → Page} {B : Nat} (h : Core e C B) {n : Nat} (h1 : e.safe ≤ n) (h2 : n ≤ e.log.length) : prefB e n = true := by
  have ht := h.take h1 h2
  have hl : (e.log.take n).length = n := by rw [List.length_take]; omega
  have hrd := fun p => pg_redo h.dlen (fun k hk => (logOk_facts ht.log hk).ok) p n (by show n ≤ (e.log.take n).length; omega)
  have hg := ht.good n h1 (by show n ≤ (e.log.take n).length; omega)
  rw [prefB, hl, Bool.and_eq_true]
  refine ⟨psOk_iff.2 ⟨by rw [redoN_len]; exact h.dlen, fun p hp => ?_⟩, ?_⟩
  · rw [hrd]; exact okPath_ok (hg p hp)
  · rw [undoneB, undAll_open]
    refine undoB_of_path (C := C) (by rw [redoN_len]; exact h.dlen) (undR_mem ht.log) fun p hp => ?_
    rw [undR_UA, hl, hrd]
    exact hg p hp
theorem Inv.psMem {e : Eng} {C : Nat → Page} {B : Nat} (h : Inv e C B) : psOk e.mem = true := by
  rw [psOk_iff]
  refine ⟨h.mlen, fun p hp => ?_⟩
  cases hd : e.down
  · exact (h.upm hd p hp).ok
  · rw [h.dn hd]; exact h.core.dok p hp
theorem loadR_lds (l : List Rec) (p : Int) : loadR l p 3 = lds l l.length p := loadR_ld l p
theorem Inv.ok {e : Eng} {C : Nat → Page} {B : Nat} (h : Inv e C B) : eOk e = true := by
  have hc := h.core
  have hs0 := hc.s0
  have hs1 := hc.s1
  have hroom := hc.room e.log.length (Nat.le_refl _)
  have hb := hc.b150
  simp only [eOk, Bool.and_eq_true]
  refine ⟨psOk_iff.2 ⟨hc.dlen, hc.dok⟩, h.psMem, hc.log, inB_iff.2 ⟨hs0, hs1⟩, ?_, ?_, ?_⟩
  · rw [fitsB, need_at, decide_eq_true_eq]; omega
  · rw [prefsB_iff]
    intro m h1 h2
    exact hc.pref (by omega) (by omega)
  · rw [List.all_eq_true]
    intro p hp
    have hp : p < 5 := by simpa using hp
    have hrd := pg_redo hc.dlen (fun k hk => (logOk_facts hc.log hk).ok) p e.log.length (Nat.le_refl _)
    simp only [pageB, Bool.and_eq_true, decide_eq_true_eq]
    refine ⟨⟨(lk_all (hc.one_holds p)).1, hc.dlsn p hp⟩, ?_⟩
    split
    · rename_i hd
      rw [h.dn hd]
      exact samePg_iff.2 rfl
    · rename_i hd
      have hM := h.upm (by simpa using hd) p hp
      rw [memB, hrd, loadR_lds]
      rcases hM.cases with hx | ⟨a, b, c, d⟩
      · rw [if_neg (by rw [hx.1]; simp)]
        exact samePg_iff.2 hx.2
      · rw [if_pos a]
        simp only [Bool.and_eq_true, beq_iff_eq, Bool.or_eq_true, decide_eq_true_eq]
        exact ⟨⟨hM.owner, b⟩, c.imp id samePg_iff.2⟩
end Go.Proofs.YtlmlcnokiipilaaGreat

/- The program's prefixesOk. -/
namespace Go.Proofs.YtlmlcnokiipilaaGreat
open Go.RowKit Go.Proofs.YtlmlcnokiipilaaGreatW.PrintWords Go.Proofs.YtlmlcnokiipilaaGreatW.PrintLast Go.Proofs.YtlmlcnokiipilaaGreatW.PrintMore

theorem take_ok {l : List Rec} (hl : logOk l = true) (n : Nat) : ∀ k, k < (l.take n).length → recOk (rc (l.take n) k) = true := fun k hk => (logOk_facts (logOk_take hl n) hk).ok
set_option maxRecDepth 100000 in
set_option maxHeartbeats 4000000 in
theorem prefixesOk_calls {w0 w : World} {e : Eng} {Ad Am Al : Option Addr} {cd cm cl : Nat} {b : Bool} (hv : prefsB e (e.log.length + 1 - e.safe.toNat) e.safe.toNat = b) (hs0 : 0 ≤ e.safe) (hs1 : e.safe ≤ e.log.length) (hg : geo e.disk) (hl : logOk e.log = true) (hcl : e.log.length ≤ cl) (hb : Below w0.heap.size w0 w) (hr : EngC w0 e Ad Am Al) : Calls Tryz.prog 59 #[e.val Ad Am Al cd cm cl] w fun x w' => x = .returned (.bool b) ∧ Below w.heap.size w w' := by
  have HR := Aside0.mk (hr.up hb)
  have HG := Aside0.mk hg
  have HL := Aside0.mk hl
  have HV := Aside0.mk hv
  have hm := logOk_len hl
  obtain ⟨s, hs⟩ : ∃ s : Nat, e.safe = s := ⟨e.safe.toNat, by omega⟩
  have HS := Aside0.mk hs
  have hs2 : s ≤ e.log.length := by omega
  clear hr hb hg hl hv hs0 hs1 hs
  obtain ⟨w1, hw1⟩ : ∃ w1, w.alloc (e.obox (.slice Ad e.disk.length cd) (.slice Am e.mem.length cm) (.slice Al e.log.length cl)) = w1 := ⟨_, rfl⟩
  have HW1 := Aside0.mk hw1
  have HB1 : Aside0 (Below w.heap.size w w1) := ⟨by rw [← hw1]; exact bel_alloc (Below.refl _ _) _⟩
  have HQ1 : Aside0 (EgBox w1 w.heap.size e (.slice Ad e.disk.length cd) (.slice Am e.mem.length cm) (.slice Al e.log.length cl)) := ⟨by rw [← hw1]; exact EgBox.mk1 _ _ _ _ _⟩
  clear hw1
  go_enter Tryz.func59, Tryz.ntmps59
  go_wp2
  rw [HW1.out]
  go_loopw [3] (fun i wr => ∃ n : Nat, s ≤ n ∧ n ≤ e.log.length + 1 ∧ i = .int .i64 (n : Int) ∧ Aside0 (prefsB e (e.log.length + 1 - n) n = b) ∧ Aside0 (Below w1.heap.size w1 wr)) (fun i _ => (e.log.length + 1 - intOf i).toNat)
  case atStart => exact ⟨s, Nat.le_refl _, by omega, by rw [HS.out], ⟨by have := HV.out; rw [HS.out] at this; exact this⟩, ⟨Below.refl _ _⟩⟩
  case round =>
    obtain ⟨n, hn1, hn2, rfl, HK, HW⟩ := hrel
    have HWW := Aside0.mk (bel_then HB1.out HW.out)
    have HQ := Aside0.mk (HQ1.out.up HW.out)
    have x0 := HQ.out.c0
    have x2 := HQ.out.c2
    by_cases hlt : n ≤ e.log.length
    · have hl : (e.log.take n).length = n := by rw [List.length_take]; omega
      obtain ⟨ps, hps⟩ : ∃ ps, redoN e.disk (e.log.take n) (e.log.take n).length = ps := ⟨_, rfl⟩
      obtain ⟨ok, hok⟩ : ∃ ok, psOk ps = ok := ⟨_, rfl⟩
      have hgeo : geo ps := by rw [← hps]; exact geo_redo HG.out (take_ok HL.out n) _ (Nat.le_refl _)
      have HGP := Aside0.mk hgeo
      have HPS := Aside0.mk (And.intro hps hok)
      have hcall : ∀ wx, Below wr.heap.size wr wx → Calls Tryz.prog 60 #[.slice Ad e.disk.length cd, .slice Al n cl] wx (RetPB wx ps ok) := fun wx hb => by
        have h := redo_calls (c := cd) (d := cl) HG.out (take_ok HL.out n) (by omega) hb (C_up HR.out.d HWW.out) (take_C (C_up HR.out.l HWW.out) hlt)
        rw [hps, hok, hl] at h
        exact h
      have HLn := Aside0.mk hl
      clear hps hok hl hgeo
      have hncl : n ≤ cl := Nat.le_trans hlt hcl
      go_wp2
      refine reg_start (fun lx a wx => Below wr.heap.size wr wx ∧ Sl 6 22 (fun v wx => ∃ u, v = .tuple #[u, .bool ok] ∧ OwnPs wx wr.heap.size u ps) lx a wx) 12 rfl (by kernel_rfl) (⟨below_drew (Below.refl _ _), sl_start⟩) (fun HT => ?_)
      refine reg_val (i := 0) (v := ?_) HT rfl (by kernel_rfl) rfl (keeps_and keeps_world (keeps_sl rfl rfl)) (by rfl) (fun _ _ _ h => h) (fun lx ax wx hS => ?_) ?_; rotate_left; (have hbx := hS.1; clear hS; replace x0 := bel_cell hbx x0; replace x2 := bel_cell hbx x2; go_simp; with_reducible rfl); rotate_left; simp only [List.set_cons_zero, List.set_cons_succ]
      refine reg_val (i := 1) (v := ?_) HT rfl (by kernel_rfl) rfl (keeps_and keeps_world (keeps_sl rfl rfl)) (by rfl) (fun _ _ _ h => h) (fun lx ax wx hS => ?_) ?_; rotate_left; (have hbx := hS.1; clear hS; replace x0 := bel_cell hbx x0; replace x2 := bel_cell hbx x2; go_simp; with_reducible rfl); rotate_left; simp only [List.set_cons_zero, List.set_cons_succ]
      refine reg_val (i := 2) (v := ?_) HT rfl (by kernel_rfl) rfl (keeps_and keeps_world (keeps_sl rfl rfl)) (by rfl) (fun _ _ _ h => h) (fun lx ax wx hS => ?_) ?_; rotate_left; (have hbx := hS.1; clear hS; replace x0 := bel_cell hbx x0; replace x2 := bel_cell hbx x2; go_simp; with_reducible rfl); rotate_left; simp only [List.set_cons_zero, List.set_cons_succ]
      refine reg_val (i := 3) (v := ?_) HT rfl (by kernel_rfl) rfl (keeps_and keeps_world (keeps_sl rfl rfl)) (by rfl) (fun _ _ _ h => h) (fun lx ax wx hS => ?_) ?_; rotate_left; (have hbx := hS.1; clear hS; replace x0 := bel_cell hbx x0; replace x2 := bel_cell hbx x2; go_simp; with_reducible rfl); rotate_left; simp only [List.set_cons_zero, List.set_cons_succ]
      refine reg_val (i := 4) (v := ?_) HT rfl (by kernel_rfl) rfl (keeps_and keeps_world (keeps_sl rfl rfl)) (by rfl) (fun _ _ _ h => h) (fun lx ax wx hS => ?_) ?_; rotate_left; (have hbx := hS.1; clear hS; replace x0 := bel_cell hbx x0; replace x2 := bel_cell hbx x2; go_simp; with_reducible rfl); rotate_left; simp only [List.set_cons_zero, List.set_cons_succ]
      refine reg_val (i := 5) (v := ?_) HT rfl (by kernel_rfl) rfl (keeps_and keeps_world (keeps_sl rfl rfl)) (by rfl) (fun _ _ _ h => h) (fun lx ax wx hS => ?_) ?_; rotate_left; (have hbx := hS.1; clear hS; replace x0 := bel_cell hbx x0; replace x2 := bel_cell hbx x2; go_simp; with_reducible rfl); rotate_left; simp only [List.set_cons_zero, List.set_cons_succ]
      refine reg_only (i := 6) (f := 60) (args := #[.slice Ad e.disk.length cd, .slice Al n cl]) (fun v => ∃ u, v = .tuple #[u, .bool ok]) rfl (by kernel_rfl) rfl Tryz.func60 (by kernel_rfl) rfl rfl (by rfl) (by simp only [List.map_toArray, List.map_cons, List.map_nil]; rfl) (fun wx hS => (hcall wx hS.1).mono (by rintro e w6 ⟨u, rfl, ho, hb⟩; exact ⟨_, rfl, ⟨u, rfl⟩, bel_then hS.1 hb, fun _ => ⟨u, rfl, Kd.S_lower ho hS.1.size⟩⟩)) (fun vx hg => ?_); simp only [List.set_cons_zero, List.set_cons_succ]
      obtain ⟨u, rfl⟩ := hg
      refine reg_val (i := 7) (v := ?_) HT rfl (by kernel_rfl) rfl (keeps_and keeps_world (keeps_sl rfl rfl)) (by rfl) (fun _ _ _ h => h) (fun lx ax wx hS => ?_) ?_; rotate_left; (go_simp; with_reducible rfl); rotate_left; simp only [List.set_cons_zero, List.set_cons_succ]
      refine reg_val (i := 8) (v := ?_) HT rfl (by kernel_rfl) rfl (keeps_and keeps_world (keeps_sl rfl rfl)) (by rfl) (fun _ _ _ h => h) (fun lx ax wx hS => ?_) ?_; rotate_left; (go_simp; with_reducible rfl); rotate_left; simp only [List.set_cons_zero, List.set_cons_succ]
      refine reg_val (i := 9) (v := ?_) HT rfl (by kernel_rfl) rfl (keeps_and keeps_world (keeps_sl rfl rfl)) (by rfl) (fun _ _ _ h => h) (fun lx ax wx hS => ?_) ?_; rotate_left; (go_simp; with_reducible rfl); rotate_left; simp only [List.set_cons_zero, List.set_cons_succ]
      refine reg_val (i := 10) (v := ?_) HT rfl (by kernel_rfl) rfl (keeps_and keeps_world (keeps_sl rfl rfl)) (by rfl) (fun _ _ _ h => h) (fun lx ax wx hS => ?_) ?_; rotate_left; (go_simp; with_reducible rfl); rotate_left; simp only [List.set_cons_zero, List.set_cons_succ]
      refine reg_val (i := 11) (v := ?_) HT rfl (by kernel_rfl) rfl (keeps_and keeps_world (keeps_sl rfl rfl)) (by rfl) (fun _ _ _ h => h) (fun lx ax wx hS => ?_) ?_; rotate_left; (go_simp; with_reducible rfl); rotate_left; simp only [List.set_cons_zero, List.set_cons_succ]
      refine reg_end (by kernel_rfl) (fun wx hS => ?_)
      obtain ⟨h1, h2⟩ := hS
      obtain ⟨u1, hu1, hown⟩ := h2 (by kernel_rfl)
      have hu1 : Value.tuple #[u, .bool ok] = .tuple #[u1, .bool ok] := hu1
      obtain rfl : u = u1 := by simpa using hu1
      obtain ⟨g, cap, rfl, hgb, hgl⟩ := psS_form hown (by rw [HGP.out.1]; omega)
      have HO := Aside0.mk (Kd.S_R hown)
      have HX := Aside0.mk h1
      rw [HGP.out.1] at HO ⊢
      replace x0 := bel_cell h1 x0
      replace x2 := bel_cell h1 x2
      clear h1 h2 hu1 hown hcall hgb hgl
      have HP := Aside0.mk (show prefsB e (e.log.length + 1 - n) n = (prefB e n && prefsB e (e.log.length + 1 - (n + 1)) (n + 1)) by rw [show e.log.length + 1 - n = (e.log.length + 1 - (n + 1)) + 1 by omega, prefsB])
      cases ok
      · go_wp2
        go_ret
        exact ⟨ret_bool (by rw [← HK.out, HP.out, prefB, HPS.out.1, HPS.out.2]; rfl), bel_then HWW.out HX.out⟩
      · obtain ⟨ub, hub⟩ : ∃ ub, undoneB (e.log.take n) ps = ub := ⟨_, rfl⟩
        have hcall2 : Calls Tryz.prog 112 #[.slice (some ⟨g, 0, none⟩) 5 cap, .slice Al n cl] wx fun x w' => x = .returned (.bool ub) ∧ Below wr.heap.size wr w' := by
          have h := undone_calls (d := cl) hub HGP.out (logOk_take HL.out n) HO.out HX.out (take_C (C_up HR.out.l HWW.out) hlt)
          rw [HLn.out] at h
          exact h
        have HUB := Aside0.mk hub
        clear hub
        cases ub
        · go_wp2_with (go_at_call 112; refine hcall2.mono ?_; rintro x w7 ⟨rfl, hb7⟩; have HB7 := Aside0.mk hb7; clear hb7)
          go_ret
          exact ⟨ret_bool (by rw [← HK.out, HP.out, prefB, HPS.out.1, HPS.out.2, HUB.out]; rfl), bel_then HWW.out HB7.out⟩
        · go_wp2_with (go_at_call 112; refine hcall2.mono ?_; rintro x w7 ⟨rfl, hb7⟩; have HB7 := Aside0.mk hb7; clear hb7)
          go_roundw
          case rel => exact ⟨n + 1, by omega, by omega, by go_num, ⟨by rw [← HK.out, HP.out, prefB, HPS.out.1, HPS.out.2, HUB.out]; rfl⟩, ⟨bel_then HW.out HB7.out⟩⟩
          case measure => simp [intOf]; omega
    · go_wp2
      go_ret
      exact ⟨ret_bool (by rw [← HK.out, show e.log.length + 1 - n = 0 by omega]; rfl), HWW.out⟩
end Go.Proofs.YtlmlcnokiipilaaGreat

/- The program's memOk. -/
namespace Go.Proofs.YtlmlcnokiipilaaGreat
open Go.RowKit Go.Proofs.YtlmlcnokiipilaaGreatW.PrintWords Go.Proofs.YtlmlcnokiipilaaGreatW.PrintLast Go.Proofs.YtlmlcnokiipilaaGreatW.PrintMore

/-- Is a page in memory as it must be? -/
def memQ (e : Eng) (p : Nat) (q : Page) : Bool :=
  if loadR e.log p 3 = true then (pg e.mem p).owner == q.owner && (pg e.mem p).lsn == lastOfN e.log p e.log.length && (decide ((pg e.disk p).lsn < (pg e.mem p).lsn) || samePg (pg e.mem p) (pg e.disk p))
  else samePg (pg e.mem p) q
theorem zpBox (w : World) : PgBox (w.alloc pageCell) w.heap.size zp (.slice none 0 0) := PgBox.mk1 w zp (.slice none 0 0)
set_option maxRecDepth 100000 in
set_option maxHeartbeats 8000000 in
theorem memOk_calls {w0 w : World} {e : Eng} {Ad Am Al Ar : Option Addr} {cd cm cl cr : Nat} {p : Nat} {q : Page} {b : Bool} (hv : memQ e p q = b) (hp : p < 5) (hd : e.disk.length = 5) (hm : e.mem.length = 5) (hl : logOk e.log = true) (hb : Below w0.heap.size w0 w) (hr : EngC w0 e Ad Am Al) (hq : Kd.C (Kd.int .i64) w0 Ar q.vals.length q.vals) : Calls Tryz.prog 63 #[e.val Ad Am Al cd cm cl, .int .i64 p, q.val Ar cr] w fun x w' => x = .returned (.bool b) ∧ Below w.heap.size w w' := by
  have HR := Aside0.mk (hr.up hb)
  have HRq := Aside0.mk (C_up hq hb)
  have HL := Aside0.mk hl
  have HV := Aside0.mk hv
  clear hr hb hq hl hv
  obtain ⟨adm, Am2, cm2, rfl, QM, -, hmC⟩ := at_page HR.out.m p (by omega)
  obtain ⟨add, Ad2, cd2, rfl, QD, -, hdC⟩ := at_page HR.out.d p (by omega)
  have HQM := Aside0.mk QM
  have HQD := Aside0.mk QD
  have HMC := Aside0.mk hmC
  have HDC := Aside0.mk hdC
  obtain ⟨M, hM⟩ : ∃ M, pg e.mem p = M := ⟨_, rfl⟩
  obtain ⟨Dp, hD⟩ : ∃ Dp, pg e.disk p = Dp := ⟨_, rfl⟩
  rw [hM] at HQM HMC
  rw [hD] at HQD HDC
  have HMD := Aside0.mk (And.intro hM hD)
  clear QM QD hmC hdC hM hD
  obtain ⟨w1, hw1⟩ : ∃ w1, w.alloc (e.obox (.slice (some add) e.disk.length cd) (.slice (some adm) e.mem.length cm) (.slice Al e.log.length cl)) = w1 := ⟨_, rfl⟩
  obtain ⟨w2, hw2⟩ : ∃ w2, w1.alloc (q.box Ar cr) = w2 := ⟨_, rfl⟩
  have hz1 : w1.heap.size = w.heap.size + 1 := by rw [← hw1]; exact size1 _ _
  have hz2 : w2.heap.size = w.heap.size + 2 := by rw [← hw2, size1, hz1]
  have hb1 : Below w.heap.size w w1 := by rw [← hw1]; exact bel_alloc (Below.refl _ _) _
  have hb12 : Below w1.heap.size w1 w2 := by rw [← hw2]; exact bel_alloc (Below.refl _ _) _
  have HB2 := Aside0.mk (bel_then hb1 hb12)
  have HQ2 : Aside0 (EgBox w2 w.heap.size e (.slice (some add) e.disk.length cd) (.slice (some adm) e.mem.length cm) (.slice Al e.log.length cl)) := ⟨EgBox.up (by rw [← hw1]; exact EgBox.mk1 _ _ _ _ _) hb12⟩
  have HP2 : Aside0 (PgBox w2 (w.heap.size + 1) q (.slice Ar q.vals.length cr)) := ⟨by rw [← hw2, ← hz1]; exact PgBox.mk1 _ _ _⟩
  have HW2 : Aside0 ((w.alloc (e.obox (.slice (some add) e.disk.length cd) (.slice (some adm) e.mem.length cm) (.slice Al e.log.length cl))).alloc (q.box Ar cr) = w2) := ⟨by rw [hw1, hw2]⟩
  have HZ2 := Aside0.mk hz2
  clear hw1 hw2 hz1 hz2 hb1 hb12
  have hpm : p < e.mem.length := by omega
  have hpd : p < e.disk.length := by omega
  clear hd hm
  go_enter Tryz.func63, Tryz.ntmps63
  go_wp2
  rw [HW2.out]
  have hQM := HQM.out.up HB2.out
  have hQD := HQD.out.up HB2.out
  obtain ⟨m0, m1, m2⟩ := hQM
  obtain ⟨d0, d1, d2⟩ := hQD
  have x0 := HQ2.out.c0
  have x1 := HQ2.out.c1
  refine reg_start (fun lx a wx => Below w2.heap.size w2 wx ∧ (Sl 10 7 (fun v wx => ∃ B, v = ptr B ∧ w2.heap.size ≤ B ∧ ∃ p u, PgBox wx B p u) lx a wx ∧ (Sl 11 8 (fun v wx => ∃ B, v = ptr B ∧ w2.heap.size ≤ B ∧ ∃ p u, PgBox wx B p u) lx a wx ∧ Sl 12 7 (fun v wx => ∃ B, v = ptr B ∧ PgBox wx B M (.slice Am2 M.vals.length cm2)) lx a wx))) 13 rfl (by kernel_rfl) (⟨below_drew (Below.refl _ _), sl_start, sl_start, sl_start⟩) (fun HT => ?_)
  refine reg_val (i := 0) (v := ?_) HT rfl (by kernel_rfl) rfl (keeps_and keeps_world (keeps_and (keeps_sl rfl rfl) (keeps_and (keeps_sl rfl rfl) (keeps_sl rfl rfl)))) (by rfl) (fun _ _ _ h => h) (fun lx ax wx hS => ?_) ?_; rotate_left; (have hbx := hS.1; clear hS; replace x0 := bel_cell hbx x0; replace x1 := bel_cell hbx x1; replace m0 := bel_cell hbx m0; replace m1 := bel_cell hbx m1; replace m2 := bel_cell hbx m2; replace d0 := bel_cell hbx d0; replace d1 := bel_cell hbx d1; replace d2 := bel_cell hbx d2; go_simp; with_reducible rfl); rotate_left; simp only [List.set_cons_zero, List.set_cons_succ]
  refine reg_val (i := 1) (v := ?_) HT rfl (by kernel_rfl) rfl (keeps_and keeps_world (keeps_and (keeps_sl rfl rfl) (keeps_and (keeps_sl rfl rfl) (keeps_sl rfl rfl)))) (by rfl) (fun _ _ _ h => h) (fun lx ax wx hS => ?_) ?_; rotate_left; (have hbx := hS.1; clear hS; replace x0 := bel_cell hbx x0; replace x1 := bel_cell hbx x1; replace m0 := bel_cell hbx m0; replace m1 := bel_cell hbx m1; replace m2 := bel_cell hbx m2; replace d0 := bel_cell hbx d0; replace d1 := bel_cell hbx d1; replace d2 := bel_cell hbx d2; go_simp; with_reducible rfl); rotate_left; simp only [List.set_cons_zero, List.set_cons_succ]
  refine reg_val (i := 2) (v := ?_) HT rfl (by kernel_rfl) rfl (keeps_and keeps_world (keeps_and (keeps_sl rfl rfl) (keeps_and (keeps_sl rfl rfl) (keeps_sl rfl rfl)))) (by rfl) (fun _ _ _ h => h) (fun lx ax wx hS => ?_) ?_; rotate_left; (have hbx := hS.1; clear hS; replace x0 := bel_cell hbx x0; replace x1 := bel_cell hbx x1; replace m0 := bel_cell hbx m0; replace m1 := bel_cell hbx m1; replace m2 := bel_cell hbx m2; replace d0 := bel_cell hbx d0; replace d1 := bel_cell hbx d1; replace d2 := bel_cell hbx d2; go_simp; with_reducible rfl); rotate_left; simp only [List.set_cons_zero, List.set_cons_succ]
  refine reg_val (i := 3) (v := ?_) HT rfl (by kernel_rfl) rfl (keeps_and keeps_world (keeps_and (keeps_sl rfl rfl) (keeps_and (keeps_sl rfl rfl) (keeps_sl rfl rfl)))) (by rfl) (fun _ _ _ h => h) (fun lx ax wx hS => ?_) ?_; rotate_left; (have hbx := hS.1; clear hS; replace x0 := bel_cell hbx x0; replace x1 := bel_cell hbx x1; replace m0 := bel_cell hbx m0; replace m1 := bel_cell hbx m1; replace m2 := bel_cell hbx m2; replace d0 := bel_cell hbx d0; replace d1 := bel_cell hbx d1; replace d2 := bel_cell hbx d2; go_simp; with_reducible rfl); rotate_left; simp only [List.set_cons_zero, List.set_cons_succ]
  refine reg_val (i := 4) (v := ?_) HT rfl (by kernel_rfl) rfl (keeps_and keeps_world (keeps_and (keeps_sl rfl rfl) (keeps_and (keeps_sl rfl rfl) (keeps_sl rfl rfl)))) (by rfl) (fun _ _ _ h => h) (fun lx ax wx hS => ?_) ?_; rotate_left; (have hbx := hS.1; clear hS; replace x0 := bel_cell hbx x0; replace x1 := bel_cell hbx x1; replace m0 := bel_cell hbx m0; replace m1 := bel_cell hbx m1; replace m2 := bel_cell hbx m2; replace d0 := bel_cell hbx d0; replace d1 := bel_cell hbx d1; replace d2 := bel_cell hbx d2; go_simp; with_reducible rfl); rotate_left; simp only [List.set_cons_zero, List.set_cons_succ]
  refine reg_val (i := 5) (v := ?_) HT rfl (by kernel_rfl) rfl (keeps_and keeps_world (keeps_and (keeps_sl rfl rfl) (keeps_and (keeps_sl rfl rfl) (keeps_sl rfl rfl)))) (by rfl) (fun _ _ _ h => h) (fun lx ax wx hS => ?_) ?_; rotate_left; (have hbx := hS.1; clear hS; replace x0 := bel_cell hbx x0; replace x1 := bel_cell hbx x1; replace m0 := bel_cell hbx m0; replace m1 := bel_cell hbx m1; replace m2 := bel_cell hbx m2; replace d0 := bel_cell hbx d0; replace d1 := bel_cell hbx d1; replace d2 := bel_cell hbx d2; go_simp; with_reducible rfl); rotate_left; simp only [List.set_cons_zero, List.set_cons_succ]
  refine reg_val (i := 6) (v := ?_) HT rfl (by kernel_rfl) rfl (keeps_and keeps_world (keeps_and (keeps_sl rfl rfl) (keeps_and (keeps_sl rfl rfl) (keeps_sl rfl rfl)))) (by rfl) (fun _ _ _ h => h) (fun lx ax wx hS => ?_) ?_; rotate_left; (have hbx := hS.1; clear hS; replace x0 := bel_cell hbx x0; replace x1 := bel_cell hbx x1; replace m0 := bel_cell hbx m0; replace m1 := bel_cell hbx m1; replace m2 := bel_cell hbx m2; replace d0 := bel_cell hbx d0; replace d1 := bel_cell hbx d1; replace d2 := bel_cell hbx d2; go_simp; with_reducible rfl); rotate_left; simp only [List.set_cons_zero, List.set_cons_succ]
  refine reg_val (i := 7) (v := ?_) HT rfl (by kernel_rfl) rfl (keeps_and keeps_world (keeps_and (keeps_sl rfl rfl) (keeps_and (keeps_sl rfl rfl) (keeps_sl rfl rfl)))) (by rfl) (fun _ _ _ h => h) (fun lx ax wx hS => ?_) ?_; rotate_left; (have hbx := hS.1; clear hS; replace x0 := bel_cell hbx x0; replace x1 := bel_cell hbx x1; replace m0 := bel_cell hbx m0; replace m1 := bel_cell hbx m1; replace m2 := bel_cell hbx m2; replace d0 := bel_cell hbx d0; replace d1 := bel_cell hbx d1; replace d2 := bel_cell hbx d2; go_simp; with_reducible rfl); rotate_left; simp only [List.set_cons_zero, List.set_cons_succ]
  refine reg_val (i := 8) (v := ?_) HT rfl (by kernel_rfl) rfl (keeps_and keeps_world (keeps_and (keeps_sl rfl rfl) (keeps_and (keeps_sl rfl rfl) (keeps_sl rfl rfl)))) (by rfl) (fun _ _ _ h => h) (fun lx ax wx hS => ?_) ?_; rotate_left; (have hbx := hS.1; clear hS; replace x0 := bel_cell hbx x0; replace x1 := bel_cell hbx x1; replace m0 := bel_cell hbx m0; replace m1 := bel_cell hbx m1; replace m2 := bel_cell hbx m2; replace d0 := bel_cell hbx d0; replace d1 := bel_cell hbx d1; replace d2 := bel_cell hbx d2; go_simp; with_reducible rfl); rotate_left; simp only [List.set_cons_zero, List.set_cons_succ]
  refine reg_val (i := 9) (v := ?_) HT rfl (by kernel_rfl) rfl (keeps_and keeps_world (keeps_and (keeps_sl rfl rfl) (keeps_and (keeps_sl rfl rfl) (keeps_sl rfl rfl)))) (by rfl) (fun _ _ _ h => h) (fun lx ax wx hS => ?_) ?_; rotate_left; (have hbx := hS.1; clear hS; replace x0 := bel_cell hbx x0; replace x1 := bel_cell hbx x1; replace m0 := bel_cell hbx m0; replace m1 := bel_cell hbx m1; replace m2 := bel_cell hbx m2; replace d0 := bel_cell hbx d0; replace d1 := bel_cell hbx d1; replace d2 := bel_cell hbx d2; go_simp; with_reducible rfl); rotate_left; simp only [List.set_cons_zero, List.set_cons_succ]
  refine reg_allocs2 (ob1 := pageCell) (ob2 := pageCell) 10 11 rfl rfl (by kernel_rfl) rfl rfl rfl (fun _ => rfl) (fun _ => rfl) (fun a wx => by go_simp) (fun a wx => by go_simp) (fun wx hS => ?_) (fun wx hS => ?_) (fun B wx hS => ?_) (fun B wx hS => ?_) (fun B wx hS => ?_) (fun B wx hS => ?_) (fun B1 B2 hne => ?_)
  · exact ⟨bel_alloc hS.1 _, fun _ => ⟨_, rfl, hS.1.size, _, _, zpBox wx⟩, fun h => (no_yes h (by kernel_rfl)).elim, fun h => (no_yes h (by kernel_rfl)).elim⟩
  · exact ⟨bel_alloc hS.1 _, fun h => (no_yes h (by kernel_rfl)).elim, fun _ => ⟨_, rfl, hS.1.size, _, _, zpBox wx⟩, fun h => (no_yes h (by kernel_rfl)).elim⟩
  · obtain ⟨B', h1, _, p', u', h2⟩ := hS.2.1 (by kernel_rfl)
    obtain rfl : B = B' := by simpa [ptr] using h1
    exact (Array.getElem?_eq_some_iff.1 h2).1
  · obtain ⟨B', h1, _, p', u', h2⟩ := hS.2.2.1 (by kernel_rfl)
    obtain rfl : B = B' := by simpa [ptr] using h1
    exact (Array.getElem?_eq_some_iff.1 h2).1
  · obtain ⟨B', h1, h3, p', u', h2⟩ := hS.2.1 (by kernel_rfl)
    exact ⟨bel_alloc hS.1 _, fun _ => ⟨B', h1, h3, p', u', h2.up (bel_alloc (Below.refl _ _) _)⟩, fun _ => ⟨_, rfl, hS.1.size, _, _, zpBox wx⟩, fun h => (no_yes h (by kernel_rfl)).elim⟩
  · obtain ⟨B', h1, h3, p', u', h2⟩ := hS.2.2.1 (by kernel_rfl)
    exact ⟨bel_alloc hS.1 _, fun _ => ⟨_, rfl, hS.1.size, _, _, zpBox wx⟩, fun _ => ⟨B', h1, h3, p', u', h2.up (bel_alloc (Below.refl _ _) _)⟩, fun h => (no_yes h (by kernel_rfl)).elim⟩
  simp only [List.set_cons_zero, List.set_cons_succ]
  refine reg_each [12] (by kernel_rfl) (fun i hi w4 hS => ?_)
  obtain rfl := List.mem_singleton.1 hi
  obtain ⟨h1, h2, h3, -⟩ := hS
  obtain ⟨B, hB, hle1, p1, u1, hbox1⟩ := h2 (by kernel_rfl)
  obtain rfl : B1 = B := by
    have hB : ptr B1 = ptr B := hB
    simpa [ptr] using hB
  obtain ⟨B, hB', hle2, p2, u2, hbox2⟩ := h3 (by kernel_rfl)
  obtain rfl : B2 = B := by
    have hB : ptr B2 = ptr B := hB'
    simpa [ptr] using hB
  have b0 := hbox1.c0
  have b1 := hbox1.c1
  have b2 := hbox1.c2
  have f0 := hbox1.frz 0
  have f1 := hbox1.frz 1
  have f2 := hbox1.frz 2
  refine wpOp_skip (w1 := set3 w4 B1 M (.slice Am2 M.vals.length cm2)) rfl (by rfl) (by go_simp) ?_
  have hfar2 : PgBox (set3 w4 B1 M (.slice Am2 M.vals.length cm2)) B2 p2 u2 := ((hbox2.far hne _ _).far hne _ _).far hne _ _
  refine ⟨⟨bel_set3 h1 hle1 M _, fun _ => ⟨B1, rfl, hle1, M, _, hbox1.set3 M _⟩, fun _ => ⟨B2, rfl, hle2, p2, u2, hfar2⟩, fun _ => ⟨B1, rfl, hbox1.set3 M _⟩⟩, ?_⟩
  clear h1 h2 h3 hB hB' hbox1 hbox2 b0 b1 b2 f0 f1 f2 hfar2 p1 u1 p2 u2
  refine reg_tail (i := 13) (by kernel_rfl) rfl (fun w5 hS => ?_)
  obtain ⟨h1, h2, h3, h4⟩ := hS
  obtain ⟨B, hB, hbox1⟩ := h4 (by kernel_rfl)
  obtain rfl : B1 = B := by
    have hB : ptr B1 = ptr B := hB
    simpa [ptr] using hB
  obtain ⟨B, hB', -, p2, u2, hbox2⟩ := h3 (by kernel_rfl)
  obtain rfl : B2 = B := by
    have hB : ptr B2 = ptr B := hB'
    simpa [ptr] using hB
  have b0 := hbox2.c0
  have b1 := hbox2.c1
  have b2 := hbox2.c2
  have f0 := hbox2.frz 0
  have f1 := hbox2.frz 1
  have f2 := hbox2.frz 2
  refine wpOp_skip (w1 := set3 w5 B2 Dp (.slice Ad2 Dp.vals.length cd2)) rfl (by rfl) (by go_simp) ?_
  have hne' : B2 ≠ B1 := Ne.symm hne
  have hbM : PgBox (set3 w5 B2 Dp (.slice Ad2 Dp.vals.length cd2)) B1 M (.slice Am2 M.vals.length cm2) := ((hbox1.far hne' _ _).far hne' _ _).far hne' _ _
  have hbD := hbox2.set3 Dp (.slice Ad2 Dp.vals.length cd2)
  have hbW := bel_set3 h1 hle2 Dp (.slice Ad2 Dp.vals.length cd2)
  refine regAt_end (by kernel_rfl) ?_
  obtain ⟨W8, hW8⟩ : ∃ W8, set3 w5 B2 Dp (.slice Ad2 Dp.vals.length cd2) = W8 := ⟨_, rfl⟩
  rw [hW8] at hbM hbD hbW ⊢
  have HBM := Aside0.mk hbM
  have HBD := Aside0.mk hbD
  have HBW := Aside0.mk hbW
  clear h1 h2 h3 h4 hB hB' hbox1 hbox2 b0 b1 b2 f0 f1 f2 p2 u2 hW8 hbM hbD hbW m0 m1 m2 d0 d1 d2 x0 x1 hle1 hle2 hi
  have HW8 := Aside0.mk (bel_then HB2.out HBW.out)
  have HQ8 := Aside0.mk (HQ2.out.up HBW.out)
  have HP8 := Aside0.mk (HP2.out.up HBW.out)
  have x2 := HQ8.out.c2
  obtain ⟨ldb, hld⟩ : ∃ ldb, loadR e.log p 3 = ldb := ⟨_, rfl⟩
  have HLD := Aside0.mk hld
  obtain ⟨sR, hsR⟩ : ∃ sR, samePg M q = sR := ⟨_, rfl⟩
  have HSR := Aside0.mk hsR
  obtain ⟨sD, hsD⟩ : ∃ sD, samePg M Dp = sD := ⟨_, rfl⟩
  have HSD := Aside0.mk hsD
  clear hld hsR hsD
  cases ldb
  · have y0 := HP8.out.c0
    have y1 := HP8.out.c1
    have y2 := HP8.out.c2
    have z0 := HBM.out.c0
    have z1 := HBM.out.c1
    have z2 := HBM.out.c2
    go_wp2_with (first | (go_at_call 119; refine (loaded_calls p HLD.out HW8.out HR.out.l HL.out).mono ?_; rintro x w9 ⟨rfl, hb9⟩; have HW9 := Aside0.mk (bel_then HW8.out hb9); have HB9 := Aside0.mk hb9; replace y0 := bel_cell hb9 y0; replace y1 := bel_cell hb9 y1; replace y2 := bel_cell hb9 y2; replace z0 := bel_cell hb9 z0; replace z1 := bel_cell hb9 z1; replace z2 := bel_cell hb9 z2; clear hb9) | (go_at_call 62; refine (same_calls (c := cm2) (d := cr) HSR.out HW9.out HMC.out HRq.out).mono ?_; rintro x w10 ⟨rfl, hb10⟩; have HW10 := Aside0.mk (bel_then HW9.out hb10); clear hb10))
    go_ret
    exact ⟨ret_bool (by rw [← HV.out, memQ, HLD.out, HMD.out.1, HSR.out]; rfl), HW10.out⟩
  · rcases beqs M.owner q.owner with ⟨e1, b1, c1⟩ | ⟨e1, b1, c1⟩
    · rcases beqs M.lsn (lastOfN e.log p e.log.length) with ⟨e2, b2, c2⟩ | ⟨e2, b2, c2⟩
      · rcases lts Dp.lsn M.lsn with ⟨e3, k1, k2⟩ | ⟨e3, k1, k2⟩
        · go_wp2_with (go_at_call 119; refine (loaded_calls p HLD.out HW8.out HR.out.l HL.out).mono ?_; rintro x w9 ⟨rfl, hb9⟩; have HW9 := Aside0.mk (bel_then HW8.out hb9); have HB9 := Aside0.mk hb9; have y0 := bel_cell hb9 HP8.out.c0; have y1 := bel_cell hb9 HP8.out.c1; have y2 := bel_cell hb9 HP8.out.c2; have z0 := bel_cell hb9 HBM.out.c0; have z1 := bel_cell hb9 HBM.out.c1; have z2 := bel_cell hb9 HBM.out.c2; have v0 := bel_cell hb9 HBD.out.c0; have v1 := bel_cell hb9 HBD.out.c1; have v2 := bel_cell hb9 HBD.out.c2; replace x2 := bel_cell hb9 x2; clear hb9)
          refine text_start (fun w' => Below w9.heap.size w9 w') rfl rfl (by kernel_rfl) (below_drew (Below.refl _ _)) (fun HT => ?_)
          repeat (first
            | (refine text_end (fun wx hS => ?_))
            | ((with_reducible refine text_gate (f := 120) rfl ?_); refine text_call (v := .int .i64 (lastOfN e.log p e.log.length)) (args := #[.slice Al e.log.length cl, .int .i64 p]) HT rfl Tryz.func120 (by kernel_rfl) rfl rfl (by rfl) (fun _ _ _ h => h) (by simp only [List.map_toArray, List.map_cons, List.map_nil]; rfl) (fun wx hS => (lastOf_calls p (bel_then HW9.out hS) HR.out.l).mono fun _ _ h => ⟨h.1, bel_then hS h.2⟩) ?_; simp only [List.set_cons_zero, List.set_cons_succ])
            | ((with_reducible refine text_gate (f := 62) rfl ?_); refine text_call (v := .bool sD) (args := #[M.val Am2 cm2, Dp.val Ad2 cd2]) HT rfl Tryz.func62 (by kernel_rfl) rfl rfl (by rfl) (fun _ _ _ h => h) (by simp only [List.map_toArray, List.map_cons, List.map_nil]; rfl) (fun wx hS => (same_calls (c := cm2) (d := cd2) HSD.out (bel_then HW9.out hS) HMC.out HDC.out).mono fun _ _ h => ⟨h.1, bel_then hS h.2⟩) ?_; simp only [List.set_cons_zero, List.set_cons_succ])
            | (refine text_skip HT rfl (by rfl) (fun _ _ _ h => h) ?_; simp only [List.set_cons_zero, List.set_cons_succ])
            | (refine text_val (v := ?_) HT rfl (by rfl) (fun _ _ _ h => h) (fun wx hS => ?_) ?_; rotate_left; (replace y0 := bel_cell hS y0; replace y1 := bel_cell hS y1; replace y2 := bel_cell hS y2; replace z0 := bel_cell hS z0; replace z1 := bel_cell hS z1; replace z2 := bel_cell hS z2; replace v0 := bel_cell hS v0; replace v1 := bel_cell hS v1; replace v2 := bel_cell hS v2; replace x2 := bel_cell hS x2; go_simp; with_reducible rfl); rotate_left; simp only [List.set_cons_zero, List.set_cons_succ]))
          go_wp2
          go_ret
          exact ⟨ret_bool (by rw [← HV.out, memQ, HLD.out, HMD.out.1, HMD.out.2, HSD.out]; simp [b1, b2, k1]), bel_then HW9.out hS⟩
        · go_wp2_with (go_at_call 119; refine (loaded_calls p HLD.out HW8.out HR.out.l HL.out).mono ?_; rintro x w9 ⟨rfl, hb9⟩; have HW9 := Aside0.mk (bel_then HW8.out hb9); have HB9 := Aside0.mk hb9; have y0 := bel_cell hb9 HP8.out.c0; have y1 := bel_cell hb9 HP8.out.c1; have y2 := bel_cell hb9 HP8.out.c2; have z0 := bel_cell hb9 HBM.out.c0; have z1 := bel_cell hb9 HBM.out.c1; have z2 := bel_cell hb9 HBM.out.c2; have v0 := bel_cell hb9 HBD.out.c0; have v1 := bel_cell hb9 HBD.out.c1; have v2 := bel_cell hb9 HBD.out.c2; replace x2 := bel_cell hb9 x2; clear hb9)
          refine text_start (fun w' => Below w9.heap.size w9 w') rfl rfl (by kernel_rfl) (below_drew (Below.refl _ _)) (fun HT => ?_)
          repeat (first
            | (refine text_end (fun wx hS => ?_))
            | ((with_reducible refine text_gate (f := 120) rfl ?_); refine text_call (v := .int .i64 (lastOfN e.log p e.log.length)) (args := #[.slice Al e.log.length cl, .int .i64 p]) HT rfl Tryz.func120 (by kernel_rfl) rfl rfl (by rfl) (fun _ _ _ h => h) (by simp only [List.map_toArray, List.map_cons, List.map_nil]; rfl) (fun wx hS => (lastOf_calls p (bel_then HW9.out hS) HR.out.l).mono fun _ _ h => ⟨h.1, bel_then hS h.2⟩) ?_; simp only [List.set_cons_zero, List.set_cons_succ])
            | ((with_reducible refine text_gate (f := 62) rfl ?_); refine text_call (v := .bool sD) (args := #[M.val Am2 cm2, Dp.val Ad2 cd2]) HT rfl Tryz.func62 (by kernel_rfl) rfl rfl (by rfl) (fun _ _ _ h => h) (by simp only [List.map_toArray, List.map_cons, List.map_nil]; rfl) (fun wx hS => (same_calls (c := cm2) (d := cd2) HSD.out (bel_then HW9.out hS) HMC.out HDC.out).mono fun _ _ h => ⟨h.1, bel_then hS h.2⟩) ?_; simp only [List.set_cons_zero, List.set_cons_succ])
            | (refine text_skip HT rfl (by rfl) (fun _ _ _ h => h) ?_; simp only [List.set_cons_zero, List.set_cons_succ])
            | (refine text_val (v := ?_) HT rfl (by rfl) (fun _ _ _ h => h) (fun wx hS => ?_) ?_; rotate_left; (replace y0 := bel_cell hS y0; replace y1 := bel_cell hS y1; replace y2 := bel_cell hS y2; replace z0 := bel_cell hS z0; replace z1 := bel_cell hS z1; replace z2 := bel_cell hS z2; replace v0 := bel_cell hS v0; replace v1 := bel_cell hS v1; replace v2 := bel_cell hS v2; replace x2 := bel_cell hS x2; go_simp; with_reducible rfl); rotate_left; simp only [List.set_cons_zero, List.set_cons_succ]))
          go_wp2
          go_ret
          exact ⟨ret_bool (by rw [← HV.out, memQ, HLD.out, HMD.out.1, HMD.out.2, HSD.out]; simp [b1, b2, k1]), bel_then HW9.out hS⟩
      · go_wp2_with (go_at_call 119; refine (loaded_calls p HLD.out HW8.out HR.out.l HL.out).mono ?_; rintro x w9 ⟨rfl, hb9⟩; have HW9 := Aside0.mk (bel_then HW8.out hb9); have HB9 := Aside0.mk hb9; have y0 := bel_cell hb9 HP8.out.c0; have y1 := bel_cell hb9 HP8.out.c1; have y2 := bel_cell hb9 HP8.out.c2; have z0 := bel_cell hb9 HBM.out.c0; have z1 := bel_cell hb9 HBM.out.c1; have z2 := bel_cell hb9 HBM.out.c2; have v0 := bel_cell hb9 HBD.out.c0; have v1 := bel_cell hb9 HBD.out.c1; have v2 := bel_cell hb9 HBD.out.c2; replace x2 := bel_cell hb9 x2; clear hb9)
        refine text_start (fun w' => Below w9.heap.size w9 w') rfl rfl (by kernel_rfl) (below_drew (Below.refl _ _)) (fun HT => ?_)
        repeat (first
          | (refine text_end (fun wx hS => ?_))
          | ((with_reducible refine text_gate (f := 120) rfl ?_); refine text_call (v := .int .i64 (lastOfN e.log p e.log.length)) (args := #[.slice Al e.log.length cl, .int .i64 p]) HT rfl Tryz.func120 (by kernel_rfl) rfl rfl (by rfl) (fun _ _ _ h => h) (by simp only [List.map_toArray, List.map_cons, List.map_nil]; rfl) (fun wx hS => (lastOf_calls p (bel_then HW9.out hS) HR.out.l).mono fun _ _ h => ⟨h.1, bel_then hS h.2⟩) ?_; simp only [List.set_cons_zero, List.set_cons_succ])
          | ((with_reducible refine text_gate (f := 62) rfl ?_); refine text_call (v := .bool sD) (args := #[M.val Am2 cm2, Dp.val Ad2 cd2]) HT rfl Tryz.func62 (by kernel_rfl) rfl rfl (by rfl) (fun _ _ _ h => h) (by simp only [List.map_toArray, List.map_cons, List.map_nil]; rfl) (fun wx hS => (same_calls (c := cm2) (d := cd2) HSD.out (bel_then HW9.out hS) HMC.out HDC.out).mono fun _ _ h => ⟨h.1, bel_then hS h.2⟩) ?_; simp only [List.set_cons_zero, List.set_cons_succ])
          | (refine text_skip HT rfl (by rfl) (fun _ _ _ h => h) ?_; simp only [List.set_cons_zero, List.set_cons_succ])
          | (refine text_val (v := ?_) HT rfl (by rfl) (fun _ _ _ h => h) (fun wx hS => ?_) ?_; rotate_left; (replace y0 := bel_cell hS y0; replace y1 := bel_cell hS y1; replace y2 := bel_cell hS y2; replace z0 := bel_cell hS z0; replace z1 := bel_cell hS z1; replace z2 := bel_cell hS z2; replace v0 := bel_cell hS v0; replace v1 := bel_cell hS v1; replace v2 := bel_cell hS v2; replace x2 := bel_cell hS x2; go_simp; with_reducible rfl); rotate_left; simp only [List.set_cons_zero, List.set_cons_succ]))
        go_wp2
        go_ret
        exact ⟨ret_bool (by rw [← HV.out, memQ, HLD.out, HMD.out.1, HMD.out.2, HSD.out]; simp [b1, b2]), bel_then HW9.out hS⟩
    · go_wp2_with (go_at_call 119; refine (loaded_calls p HLD.out HW8.out HR.out.l HL.out).mono ?_; rintro x w9 ⟨rfl, hb9⟩; have HW9 := Aside0.mk (bel_then HW8.out hb9); have HB9 := Aside0.mk hb9; have y0 := bel_cell hb9 HP8.out.c0; have y1 := bel_cell hb9 HP8.out.c1; have y2 := bel_cell hb9 HP8.out.c2; have z0 := bel_cell hb9 HBM.out.c0; have z1 := bel_cell hb9 HBM.out.c1; have z2 := bel_cell hb9 HBM.out.c2; have v0 := bel_cell hb9 HBD.out.c0; have v1 := bel_cell hb9 HBD.out.c1; have v2 := bel_cell hb9 HBD.out.c2; replace x2 := bel_cell hb9 x2; clear hb9)
      refine text_start (fun w' => Below w9.heap.size w9 w') rfl rfl (by kernel_rfl) (below_drew (Below.refl _ _)) (fun HT => ?_)
      repeat (first
        | (refine text_end (fun wx hS => ?_))
        | ((with_reducible refine text_gate (f := 120) rfl ?_); refine text_call (v := .int .i64 (lastOfN e.log p e.log.length)) (args := #[.slice Al e.log.length cl, .int .i64 p]) HT rfl Tryz.func120 (by kernel_rfl) rfl rfl (by rfl) (fun _ _ _ h => h) (by simp only [List.map_toArray, List.map_cons, List.map_nil]; rfl) (fun wx hS => (lastOf_calls p (bel_then HW9.out hS) HR.out.l).mono fun _ _ h => ⟨h.1, bel_then hS h.2⟩) ?_; simp only [List.set_cons_zero, List.set_cons_succ])
        | ((with_reducible refine text_gate (f := 62) rfl ?_); refine text_call (v := .bool sD) (args := #[M.val Am2 cm2, Dp.val Ad2 cd2]) HT rfl Tryz.func62 (by kernel_rfl) rfl rfl (by rfl) (fun _ _ _ h => h) (by simp only [List.map_toArray, List.map_cons, List.map_nil]; rfl) (fun wx hS => (same_calls (c := cm2) (d := cd2) HSD.out (bel_then HW9.out hS) HMC.out HDC.out).mono fun _ _ h => ⟨h.1, bel_then hS h.2⟩) ?_; simp only [List.set_cons_zero, List.set_cons_succ])
        | (refine text_skip HT rfl (by rfl) (fun _ _ _ h => h) ?_; simp only [List.set_cons_zero, List.set_cons_succ])
        | (refine text_val (v := ?_) HT rfl (by rfl) (fun _ _ _ h => h) (fun wx hS => ?_) ?_; rotate_left; (replace y0 := bel_cell hS y0; replace y1 := bel_cell hS y1; replace y2 := bel_cell hS y2; replace z0 := bel_cell hS z0; replace z1 := bel_cell hS z1; replace z2 := bel_cell hS z2; replace v0 := bel_cell hS v0; replace v1 := bel_cell hS v1; replace v2 := bel_cell hS v2; replace x2 := bel_cell hS x2; go_simp; with_reducible rfl); rotate_left; simp only [List.set_cons_zero, List.set_cons_succ]))
      go_wp2
      go_ret
      exact ⟨ret_bool (by rw [← HV.out, memQ, HLD.out, HMD.out.1, HMD.out.2, HSD.out]; simp [b1]), bel_then HW9.out hS⟩
end Go.Proofs.YtlmlcnokiipilaaGreat

/- The program's EngineOk. -/
namespace Go.Proofs.YtlmlcnokiipilaaGreat
open Go.RowKit Go.Proofs.YtlmlcnokiipilaaGreatW.PrintWords Go.Proofs.YtlmlcnokiipilaaGreatW.PrintLast Go.Proofs.YtlmlcnokiipilaaGreatW.PrintMore

def pgsB (e : Eng) : Nat → Nat → Bool
  | 0, _ => true
  | j + 1, p => pageB e p && pgsB e j (p + 1)
theorem pgsB_all (e : Eng) : ((List.range 5).all fun p => pageB e p) = pgsB e 5 0 := rfl
theorem memB_Q (e : Eng) (p : Nat) : memB e p = memQ e p (pg (redoN e.disk e.log e.log.length) p) := rfl
set_option maxRecDepth 100000 in
set_option maxHeartbeats 16000000 in
theorem EngineOk_calls {w0 w : World} {e : Eng} {Ad Am Al : Option Addr} {cd cm cl : Nat} {b : Bool} (hv : eOk e = b) (hcl : e.log.length ≤ cl) (hb : Below w0.heap.size w0 w) (hr : EngC w0 e Ad Am Al) : Calls Tryz.prog 25 #[e.val Ad Am Al cd cm cl] w fun x w' => x = .returned (.bool b) ∧ Below w.heap.size w w' := by
  have HR := Aside0.mk (hr.up hb)
  have HV := Aside0.mk hv
  have hlm := (C_len HR.out.l).2
  clear hr hb hv
  obtain ⟨w1, hw1⟩ : ∃ w1, w.alloc (e.obox (.slice Ad e.disk.length cd) (.slice Am e.mem.length cm) (.slice Al e.log.length cl)) = w1 := ⟨_, rfl⟩
  have HW1 := Aside0.mk hw1
  have HB1 : Aside0 (Below w.heap.size w w1) := ⟨by rw [← hw1]; exact bel_alloc (Below.refl _ _) _⟩
  have HQ1 : Aside0 (EgBox w1 w.heap.size e (.slice Ad e.disk.length cd) (.slice Am e.mem.length cm) (.slice Al e.log.length cl)) := ⟨by rw [← hw1]; exact EgBox.mk1 _ _ _ _ _⟩
  clear hw1
  have HX := Aside0.mk (Below.refl w1.heap.size w1)
  have x0 := HQ1.out.c0
  have x1 := HQ1.out.c1
  have x2 := HQ1.out.c2
  have x3 := HQ1.out.c3
  have x4 := HQ1.out.c4
  cases hvd : psOk e.disk
  · have HVd := Aside0.mk hvd
    clear hvd
    go_enter Tryz.func25, Tryz.ntmps25
    go_wp2_with (first | (go_at_call 57; rw [HW1.out]; refine (pagesOk_calls (c := cd) HVd.out (bel_then HB1.out HX.out) HR.out.d).mono ?_; rintro x w9 ⟨rfl, hb9⟩; have HX := Aside0.mk (bel_then HX.out hb9); replace x0 := bel_cell hb9 x0; replace x1 := bel_cell hb9 x1; replace x2 := bel_cell hb9 x2; replace x3 := bel_cell hb9 x3; replace x4 := bel_cell hb9 x4; clear hb9))
    go_ret
    exact ⟨ret_bool (by rw [← HV.out, eOk, HVd.out]; simp), bel_then HB1.out HX.out⟩
  · have HVd := Aside0.mk hvd
    clear hvd
    cases hvm : psOk e.mem
    · have HVm := Aside0.mk hvm
      clear hvm
      go_enter Tryz.func25, Tryz.ntmps25
      go_wp2_with (first | (go_at_call 57; rw [HW1.out]; refine (pagesOk_calls (c := cd) HVd.out (bel_then HB1.out HX.out) HR.out.d).mono ?_; rintro x w9 ⟨rfl, hb9⟩; have HX := Aside0.mk (bel_then HX.out hb9); replace x0 := bel_cell hb9 x0; replace x1 := bel_cell hb9 x1; replace x2 := bel_cell hb9 x2; replace x3 := bel_cell hb9 x3; replace x4 := bel_cell hb9 x4; clear hb9) | (go_at_call 57; refine (pagesOk_calls (c := cm) HVm.out (bel_then HB1.out HX.out) HR.out.m).mono ?_; rintro x w9 ⟨rfl, hb9⟩; have HX := Aside0.mk (bel_then HX.out hb9); replace x0 := bel_cell hb9 x0; replace x1 := bel_cell hb9 x1; replace x2 := bel_cell hb9 x2; replace x3 := bel_cell hb9 x3; replace x4 := bel_cell hb9 x4; clear hb9))
      go_ret
      exact ⟨ret_bool (by rw [← HV.out, eOk, HVd.out, HVm.out]; simp), bel_then HB1.out HX.out⟩
    · have HVm := Aside0.mk hvm
      clear hvm
      cases hvl : logOk e.log
      · have HVl := Aside0.mk hvl
        clear hvl
        go_enter Tryz.func25, Tryz.ntmps25
        go_wp2_with (first | (go_at_call 57; rw [HW1.out]; refine (pagesOk_calls (c := cd) HVd.out (bel_then HB1.out HX.out) HR.out.d).mono ?_; rintro x w9 ⟨rfl, hb9⟩; have HX := Aside0.mk (bel_then HX.out hb9); replace x0 := bel_cell hb9 x0; replace x1 := bel_cell hb9 x1; replace x2 := bel_cell hb9 x2; replace x3 := bel_cell hb9 x3; replace x4 := bel_cell hb9 x4; clear hb9) | (go_at_call 57; refine (pagesOk_calls (c := cm) HVm.out (bel_then HB1.out HX.out) HR.out.m).mono ?_; rintro x w9 ⟨rfl, hb9⟩; have HX := Aside0.mk (bel_then HX.out hb9); replace x0 := bel_cell hb9 x0; replace x1 := bel_cell hb9 x1; replace x2 := bel_cell hb9 x2; replace x3 := bel_cell hb9 x3; replace x4 := bel_cell hb9 x4; clear hb9) | (go_at_call 28; refine (LogOk_calls (c := cl) HVl.out (bel_then HB1.out HX.out) HR.out.l).mono ?_; rintro x w9 ⟨rfl, hb9⟩; have HX := Aside0.mk (bel_then HX.out hb9); replace x0 := bel_cell hb9 x0; replace x1 := bel_cell hb9 x1; replace x2 := bel_cell hb9 x2; replace x3 := bel_cell hb9 x3; replace x4 := bel_cell hb9 x4; clear hb9))
        go_ret
        exact ⟨ret_bool (by rw [← HV.out, eOk, HVd.out, HVm.out, HVl.out]; simp), bel_then HB1.out HX.out⟩
      · have HVl := Aside0.mk hvl
        clear hvl
        have hm150 := logOk_len HVl.out
        cases hvs : inB e.safe 0 e.log.length
        · have HVs := Aside0.mk hvs
          clear hvs
          go_enter Tryz.func25, Tryz.ntmps25
          go_wp2_with (first | (go_at_call 57; rw [HW1.out]; refine (pagesOk_calls (c := cd) HVd.out (bel_then HB1.out HX.out) HR.out.d).mono ?_; rintro x w9 ⟨rfl, hb9⟩; have HX := Aside0.mk (bel_then HX.out hb9); replace x0 := bel_cell hb9 x0; replace x1 := bel_cell hb9 x1; replace x2 := bel_cell hb9 x2; replace x3 := bel_cell hb9 x3; replace x4 := bel_cell hb9 x4; clear hb9) | (go_at_call 57; refine (pagesOk_calls (c := cm) HVm.out (bel_then HB1.out HX.out) HR.out.m).mono ?_; rintro x w9 ⟨rfl, hb9⟩; have HX := Aside0.mk (bel_then HX.out hb9); replace x0 := bel_cell hb9 x0; replace x1 := bel_cell hb9 x1; replace x2 := bel_cell hb9 x2; replace x3 := bel_cell hb9 x3; replace x4 := bel_cell hb9 x4; clear hb9) | (go_at_call 28; refine (LogOk_calls (c := cl) HVl.out (bel_then HB1.out HX.out) HR.out.l).mono ?_; rintro x w9 ⟨rfl, hb9⟩; have HX := Aside0.mk (bel_then HX.out hb9); replace x0 := bel_cell hb9 x0; replace x1 := bel_cell hb9 x1; replace x2 := bel_cell hb9 x2; replace x3 := bel_cell hb9 x3; replace x4 := bel_cell hb9 x4; clear hb9) | (go_at_call 55; refine (in_is HVs.out _).mono ?_; rintro x w9 ⟨rfl, rfl⟩))
          go_ret
          exact ⟨ret_bool (by rw [← HV.out, eOk, HVd.out, HVm.out, HVl.out, HVs.out]; simp), bel_then HB1.out HX.out⟩
        · have HVs := Aside0.mk hvs
          clear hvs
          have HS01 := Aside0.mk (inB_iff.1 HVs.out)
          cases hvf : fitsB e.log
          · have HVf := Aside0.mk hvf
            clear hvf
            go_enter Tryz.func25, Tryz.ntmps25
            go_wp2_with (first | (go_at_call 57; rw [HW1.out]; refine (pagesOk_calls (c := cd) HVd.out (bel_then HB1.out HX.out) HR.out.d).mono ?_; rintro x w9 ⟨rfl, hb9⟩; have HX := Aside0.mk (bel_then HX.out hb9); replace x0 := bel_cell hb9 x0; replace x1 := bel_cell hb9 x1; replace x2 := bel_cell hb9 x2; replace x3 := bel_cell hb9 x3; replace x4 := bel_cell hb9 x4; clear hb9) | (go_at_call 57; refine (pagesOk_calls (c := cm) HVm.out (bel_then HB1.out HX.out) HR.out.m).mono ?_; rintro x w9 ⟨rfl, hb9⟩; have HX := Aside0.mk (bel_then HX.out hb9); replace x0 := bel_cell hb9 x0; replace x1 := bel_cell hb9 x1; replace x2 := bel_cell hb9 x2; replace x3 := bel_cell hb9 x3; replace x4 := bel_cell hb9 x4; clear hb9) | (go_at_call 28; refine (LogOk_calls (c := cl) HVl.out (bel_then HB1.out HX.out) HR.out.l).mono ?_; rintro x w9 ⟨rfl, hb9⟩; have HX := Aside0.mk (bel_then HX.out hb9); replace x0 := bel_cell hb9 x0; replace x1 := bel_cell hb9 x1; replace x2 := bel_cell hb9 x2; replace x3 := bel_cell hb9 x3; replace x4 := bel_cell hb9 x4; clear hb9) | (go_at_call 55; refine (in_is HVs.out _).mono ?_; rintro x w9 ⟨rfl, rfl⟩) | (go_at_call 58; refine (fits_calls (c := cl) (bel_then HB1.out HX.out) HR.out.l HVl.out).mono ?_; rintro x w9 ⟨rfl, hb9⟩; rw [HVf.out]; have HX := Aside0.mk (bel_then HX.out hb9); replace x0 := bel_cell hb9 x0; replace x1 := bel_cell hb9 x1; replace x2 := bel_cell hb9 x2; replace x3 := bel_cell hb9 x3; replace x4 := bel_cell hb9 x4; clear hb9))
            go_ret
            exact ⟨ret_bool (by rw [← HV.out, eOk, HVd.out, HVm.out, HVl.out, HVs.out, HVf.out]; simp), bel_then HB1.out HX.out⟩
          · have HVf := Aside0.mk hvf
            clear hvf
            cases hvp : prefsB e (e.log.length + 1 - e.safe.toNat) e.safe.toNat
            · have HVp := Aside0.mk hvp
              clear hvp
              go_enter Tryz.func25, Tryz.ntmps25
              go_wp2_with (first | (go_at_call 57; rw [HW1.out]; refine (pagesOk_calls (c := cd) HVd.out (bel_then HB1.out HX.out) HR.out.d).mono ?_; rintro x w9 ⟨rfl, hb9⟩; have HX := Aside0.mk (bel_then HX.out hb9); replace x0 := bel_cell hb9 x0; replace x1 := bel_cell hb9 x1; replace x2 := bel_cell hb9 x2; replace x3 := bel_cell hb9 x3; replace x4 := bel_cell hb9 x4; clear hb9) | (go_at_call 57; refine (pagesOk_calls (c := cm) HVm.out (bel_then HB1.out HX.out) HR.out.m).mono ?_; rintro x w9 ⟨rfl, hb9⟩; have HX := Aside0.mk (bel_then HX.out hb9); replace x0 := bel_cell hb9 x0; replace x1 := bel_cell hb9 x1; replace x2 := bel_cell hb9 x2; replace x3 := bel_cell hb9 x3; replace x4 := bel_cell hb9 x4; clear hb9) | (go_at_call 28; refine (LogOk_calls (c := cl) HVl.out (bel_then HB1.out HX.out) HR.out.l).mono ?_; rintro x w9 ⟨rfl, hb9⟩; have HX := Aside0.mk (bel_then HX.out hb9); replace x0 := bel_cell hb9 x0; replace x1 := bel_cell hb9 x1; replace x2 := bel_cell hb9 x2; replace x3 := bel_cell hb9 x3; replace x4 := bel_cell hb9 x4; clear hb9) | (go_at_call 55; refine (in_is HVs.out _).mono ?_; rintro x w9 ⟨rfl, rfl⟩) | (go_at_call 58; refine (fits_calls (c := cl) (bel_then HB1.out HX.out) HR.out.l HVl.out).mono ?_; rintro x w9 ⟨rfl, hb9⟩; rw [HVf.out]; have HX := Aside0.mk (bel_then HX.out hb9); replace x0 := bel_cell hb9 x0; replace x1 := bel_cell hb9 x1; replace x2 := bel_cell hb9 x2; replace x3 := bel_cell hb9 x3; replace x4 := bel_cell hb9 x4; clear hb9) | (go_at_call 59; refine (prefixesOk_calls (cd := cd) (cm := cm) (cl := cl) HVp.out HS01.out.1 HS01.out.2 (psOk_geo HVd.out) HVl.out hcl (bel_then HB1.out HX.out) HR.out).mono ?_; rintro x w9 ⟨rfl, hb9⟩; have HX := Aside0.mk (bel_then HX.out hb9); replace x0 := bel_cell hb9 x0; replace x1 := bel_cell hb9 x1; replace x2 := bel_cell hb9 x2; replace x3 := bel_cell hb9 x3; replace x4 := bel_cell hb9 x4; clear hb9))
              go_ret
              exact ⟨ret_bool (by rw [← HV.out, eOk, HVd.out, HVm.out, HVl.out, HVs.out, HVf.out, HVp.out]; simp), bel_then HB1.out HX.out⟩
            · have HVp := Aside0.mk hvp
              clear hvp
              have HGR := Aside0.mk (geo_redo (psOk_geo HVd.out) (fun k hk => (logOk_facts HVl.out hk).ok) e.log.length (Nat.le_refl _))
              have HP5 := Aside0.mk (show pgsB e 5 0 = b by rw [← HV.out, eOk, HVd.out, HVm.out, HVl.out, HVs.out, HVf.out, HVp.out, ← pgsB_all]; simp)
              go_enter Tryz.func25, Tryz.ntmps25
              go_wp2_with (first | (go_at_call 57; rw [HW1.out]; refine (pagesOk_calls (c := cd) HVd.out (bel_then HB1.out HX.out) HR.out.d).mono ?_; rintro x w9 ⟨rfl, hb9⟩; have HX := Aside0.mk (bel_then HX.out hb9); replace x0 := bel_cell hb9 x0; replace x1 := bel_cell hb9 x1; replace x2 := bel_cell hb9 x2; replace x3 := bel_cell hb9 x3; replace x4 := bel_cell hb9 x4; clear hb9) | (go_at_call 57; refine (pagesOk_calls (c := cm) HVm.out (bel_then HB1.out HX.out) HR.out.m).mono ?_; rintro x w9 ⟨rfl, hb9⟩; have HX := Aside0.mk (bel_then HX.out hb9); replace x0 := bel_cell hb9 x0; replace x1 := bel_cell hb9 x1; replace x2 := bel_cell hb9 x2; replace x3 := bel_cell hb9 x3; replace x4 := bel_cell hb9 x4; clear hb9) | (go_at_call 28; refine (LogOk_calls (c := cl) HVl.out (bel_then HB1.out HX.out) HR.out.l).mono ?_; rintro x w9 ⟨rfl, hb9⟩; have HX := Aside0.mk (bel_then HX.out hb9); replace x0 := bel_cell hb9 x0; replace x1 := bel_cell hb9 x1; replace x2 := bel_cell hb9 x2; replace x3 := bel_cell hb9 x3; replace x4 := bel_cell hb9 x4; clear hb9) | (go_at_call 55; refine (in_is HVs.out _).mono ?_; rintro x w9 ⟨rfl, rfl⟩) | (go_at_call 58; refine (fits_calls (c := cl) (bel_then HB1.out HX.out) HR.out.l HVl.out).mono ?_; rintro x w9 ⟨rfl, hb9⟩; rw [HVf.out]; have HX := Aside0.mk (bel_then HX.out hb9); replace x0 := bel_cell hb9 x0; replace x1 := bel_cell hb9 x1; replace x2 := bel_cell hb9 x2; replace x3 := bel_cell hb9 x3; replace x4 := bel_cell hb9 x4; clear hb9) | (go_at_call 59; refine (prefixesOk_calls (cd := cd) (cm := cm) (cl := cl) HVp.out HS01.out.1 HS01.out.2 (psOk_geo HVd.out) HVl.out hcl (bel_then HB1.out HX.out) HR.out).mono ?_; rintro x w9 ⟨rfl, hb9⟩; have HX := Aside0.mk (bel_then HX.out hb9); replace x0 := bel_cell hb9 x0; replace x1 := bel_cell hb9 x1; replace x2 := bel_cell hb9 x2; replace x3 := bel_cell hb9 x3; replace x4 := bel_cell hb9 x4; clear hb9) | (go_at_call 60; refine (redo_calls (c := cd) (d := cl) (psOk_geo HVd.out) (fun k hk => (logOk_facts HVl.out hk).ok) hm150 (bel_then HB1.out HX.out) HR.out.d HR.out.l).mono ?_; rintro x w9 ⟨u, rfl, hO, hb9⟩; obtain ⟨g, cap, rfl, hgb, hgl⟩ := psS_form hO (by rw [HGR.out.1]; omega); rw [HGR.out.1] at hO ⊢; have HO := Aside0.mk hO; have HGB := Aside0.mk (And.intro hgb hgl); clear hO hgb hgl; have HX := Aside0.mk (bel_then HX.out hb9); replace x0 := bel_cell hb9 x0; replace x1 := bel_cell hb9 x1; replace x2 := bel_cell hb9 x2; replace x3 := bel_cell hb9 x3; replace x4 := bel_cell hb9 x4; clear hb9))
              have HL5 := Aside0.mk (And.intro (psOk_iff.1 HVd.out).1 (psOk_iff.1 HVm.out).1)
              obtain ⟨R, hRR⟩ : ∃ R, redoN e.disk e.log e.log.length = R := ⟨_, rfl⟩
              rw [hRR] at HO HGR
              have HRR := Aside0.mk hRR
              clear hRR
              go_loopw [52] (fun i wr => ∃ k : Nat, k ≤ 5 ∧ i = .int .i64 (k : Int) ∧ Aside0 (pgsB e (5 - k) k = b) ∧ Aside0 (Below w9.heap.size w9 wr)) (fun i _ => (5 - intOf i).toNat)
              case atStart => exact ⟨0, by omega, rfl, HP5, ⟨Below.refl _ _⟩⟩
              case round =>
                obtain ⟨k, hk, rfl, HK, HW⟩ := hrel
                have HW2 := Aside0.mk (bel_then HX.out HW.out)
                have HWW := Aside0.mk (bel_then HB1.out HW2.out)
                have y0 := bel_cell HW.out x0
                have y1 := bel_cell HW.out x1
                have y2 := bel_cell HW.out x2
                have y3 := bel_cell HW.out x3
                have y4 := bel_cell HW.out x4
                clear x0 x1 x2 x3 x4
                by_cases hlt : k < 5
                · have hpd : k < e.disk.length := by have := HL5.out; omega
                  have hpm : k < e.mem.length := by have := HL5.out; omega
                  obtain ⟨adm, Am2, cm2, rfl, QM, -, hmC⟩ := at_page HR.out.m k hpm
                  obtain ⟨add, Ad2, cd2, rfl, QD, -, hdC⟩ := at_page HR.out.d k hpd
                  obtain ⟨M, hM⟩ : ∃ M, pg e.mem k = M := ⟨_, rfl⟩
                  obtain ⟨Dp, hD⟩ : ∃ Dp, pg e.disk k = Dp := ⟨_, rfl⟩
                  obtain ⟨lr, hlk⟩ : ∃ lr, lockF e.log (k : Int) (openR e.log 3) 0 true = lr := ⟨_, rfl⟩
                  obtain ⟨m0, m1, m2⟩ := QM.up HWW.out
                  obtain ⟨d0, d1, d2⟩ := QD.up HWW.out
                  rw [hM] at m0 m1 m2 hmC
                  rw [hD] at d0 d1 d2 hdC
                  have HLK := Aside0.mk hlk
                  have HMD := Aside0.mk (And.intro hM hD)
                  have HMC := Aside0.mk hmC
                  have HDC := Aside0.mk hdC
                  have HPG := Aside0.mk (show pgsB e (5 - k) k = (pageB e k && pgsB e (5 - (k + 1)) (k + 1)) by rw [show 5 - k = (5 - (k + 1)) + 1 by omega, pgsB])
                  obtain ⟨by_, lok⟩ := lr
                  obtain ⟨dn, hdn⟩ : ∃ dn, e.down = dn := ⟨_, rfl⟩
                  rw [hdn] at y4
                  have HDN := Aside0.mk hdn
                  clear hM hD hlk hmC hdC QM QD hdn
                  cases lok
                  · go_wp2_with (go_at_call 61; refine (locks_calls (c := cl) (k : Int) HWW.out HR.out.l HVl.out).mono ?_; rintro x w10 ⟨rfl, hb10⟩; rw [HLK.out]; have HX10 := Aside0.mk (bel_then HW.out hb10); clear hb10)
                    refine text_start (fun w' => Below w10.heap.size w10 w') rfl rfl (by kernel_rfl) (below_drew (Below.refl _ _)) (fun HT => ?_)
                    repeat (first
                      | (refine text_end (fun wx hS => ?_))
                      | (refine text_skip HT rfl (by rfl) (fun _ _ _ h => h) ?_; simp only [List.set_cons_zero, List.set_cons_succ])
                      | (refine text_val (v := ?_) HT rfl (by rfl) (fun _ _ _ h => h) (fun wx hS => ?_) ?_; rotate_left; (skip; go_simp; with_reducible rfl); rotate_left; simp only [List.set_cons_zero, List.set_cons_succ]))
                    go_wp2
                    go_ret
                    exact ⟨ret_bool (by rw [← HK.out, HPG.out, pageB, HLK.out]; simp), bel_then HB1.out (bel_then HX.out (bel_then HX10.out hS))⟩
                  · rcases lts e.safe Dp.lsn with ⟨e3, k1, k2⟩ | ⟨e3, k1, k2⟩
                    · go_wp2_with (go_at_call 61; refine (locks_calls (c := cl) (k : Int) HWW.out HR.out.l HVl.out).mono ?_; rintro x w10 ⟨rfl, hb10⟩; rw [HLK.out]; have HX10 := Aside0.mk (bel_then HW.out hb10); replace y0 := bel_cell hb10 y0; replace y1 := bel_cell hb10 y1; replace y2 := bel_cell hb10 y2; replace y3 := bel_cell hb10 y3; replace y4 := bel_cell hb10 y4; replace m0 := bel_cell hb10 m0; replace m1 := bel_cell hb10 m1; replace m2 := bel_cell hb10 m2; replace d0 := bel_cell hb10 d0; replace d1 := bel_cell hb10 d1; replace d2 := bel_cell hb10 d2; clear hb10)
                      refine text_start (fun w' => Below w10.heap.size w10 w') rfl rfl (by kernel_rfl) (below_drew (Below.refl _ _)) (fun HT => ?_)
                      repeat (first
                        | (refine text_end (fun wx hS => ?_))
                        | (refine text_skip HT rfl (by rfl) (fun _ _ _ h => h) ?_; simp only [List.set_cons_zero, List.set_cons_succ])
                        | (refine text_val (v := ?_) HT rfl (by rfl) (fun _ _ _ h => h) (fun wx hS => ?_) ?_; rotate_left; (replace y0 := bel_cell hS y0; replace y3 := bel_cell hS y3; replace d0 := bel_cell hS d0; go_simp; with_reducible rfl); rotate_left; simp only [List.set_cons_zero, List.set_cons_succ]))
                      go_wp2
                      go_ret
                      exact ⟨ret_bool (by rw [← HK.out, HPG.out, pageB, HLK.out, HMD.out.2, k2]; simp), bel_then HB1.out (bel_then HX.out (bel_then HX10.out hS))⟩
                    · obtain ⟨q, hq⟩ : ∃ q, pg R k = q := ⟨_, rfl⟩
                      obtain ⟨pb, hpb⟩ : ∃ pb, (if e.down = true then samePg M Dp else memQ e k q) = pb := ⟨_, rfl⟩
                      have HPB := Aside0.mk hpb
                      have HPK := Aside0.mk (show pageB e k = pb by rw [pageB, HLK.out, memB_Q, HRR.out, hq, HMD.out.1, HMD.out.2, k2, hpb]; rfl)
                      have HQQ := Aside0.mk hq
                      clear hpb hq
                      cases dn
                      · go_wp2_with (go_at_call 61; refine (locks_calls (c := cl) (k : Int) HWW.out HR.out.l HVl.out).mono ?_; rintro x w10 ⟨rfl, hb10⟩; rw [HLK.out]; have HX10 := Aside0.mk (bel_then HW.out hb10); replace y0 := bel_cell hb10 y0; replace y1 := bel_cell hb10 y1; replace y2 := bel_cell hb10 y2; replace y3 := bel_cell hb10 y3; replace y4 := bel_cell hb10 y4; replace m0 := bel_cell hb10 m0; replace m1 := bel_cell hb10 m1; replace m2 := bel_cell hb10 m2; replace d0 := bel_cell hb10 d0; replace d1 := bel_cell hb10 d1; replace d2 := bel_cell hb10 d2; clear hb10)
                        refine text_start (fun w' => Below w10.heap.size w10 w') rfl rfl (by kernel_rfl) (below_drew (Below.refl _ _)) (fun HT => ?_)
                        repeat (first
                          | (refine text_end (fun wx hS => ?_))
                          | (refine text_skip HT rfl (by rfl) (fun _ _ _ h => h) ?_; simp only [List.set_cons_zero, List.set_cons_succ])
                          | (refine text_val (v := ?_) HT rfl (by rfl) (fun _ _ _ h => h) (fun wx hS => ?_) ?_; rotate_left; (replace y0 := bel_cell hS y0; replace y3 := bel_cell hS y3; replace d0 := bel_cell hS d0; go_simp; with_reducible rfl); rotate_left; simp only [List.set_cons_zero, List.set_cons_succ]))
                        rename_i w11
                        have HX11 := Aside0.mk (bel_then HX10.out hS)
                        have HW11 := Aside0.mk (bel_then HB1.out (bel_then HX.out HX11.out))
                        replace y0 := bel_cell hS y0; replace y1 := bel_cell hS y1; replace y2 := bel_cell hS y2; replace y3 := bel_cell hS y3; replace y4 := bel_cell hS y4
                        obtain ⟨A3, c3, q0, q1, q2, qC, -⟩ := psS_at (Kd.S_below HO.out HX11.out) k hlt
                        rw [HQQ.out] at q0 q1 q2 qC
                        have HQC := Aside0.mk qC
                        have hcall : ∀ w', Below wx.heap.size wx w' → Calls Tryz.prog 63 #[.agg #[.slice (some add) e.disk.length cd, .slice (some adm) e.mem.length cm, .slice Al e.log.length cl, .int .i64 e.safe, .bool false], .int .i64 k, q.val A3 c3] w' fun x w2 => x = .returned (.bool pb) ∧ Below w'.heap.size w' w2 := fun w' hb => by
                          have h := memOk_calls (w0 := wx) (cd := cd) (cm := cm) (cl := cl) (cr := c3) (e := e) (b := pb) (by rw [← HPB.out, if_neg (by rw [HDN.out]; simp)]) hlt HL5.out.1 HL5.out.2 HVl.out hb (HR.out.up HW11.out) HQC.out
                          unfold Eng.val Eng.ag at h
                          rw [HDN.out] at h
                          exact h
                        clear hS qC
                        go_wp2
                        refine text_start (fun w' => Below wx.heap.size wx w') rfl rfl (by kernel_rfl) (below_drew (Below.refl _ _)) (fun HT => ?_)
                        repeat (first
                          | (refine text_end (fun wx hS => ?_))
                          | ((with_reducible refine text_gate (f := 63) rfl ?_); refine text_call (v := .bool pb) (args := #[.agg #[.slice (some add) e.disk.length cd, .slice (some adm) e.mem.length cm, .slice Al e.log.length cl, .int .i64 e.safe, .bool false], .int .i64 k, q.val A3 c3]) HT rfl Tryz.func63 (by kernel_rfl) rfl rfl (by rfl) (fun _ _ _ h => h) (by simp only [List.map_toArray, List.map_cons, List.map_nil]; rfl) (fun wx hS => (hcall wx hS).mono fun _ _ h => ⟨h.1, bel_then hS h.2⟩) ?_; simp only [List.set_cons_zero, List.set_cons_succ])
                          | (refine text_skip HT rfl (by rfl) (fun _ _ _ h => h) ?_; simp only [List.set_cons_zero, List.set_cons_succ])
                          | (refine text_val (v := ?_) HT rfl (by rfl) (fun _ _ _ h => h) (fun wx hS => ?_) ?_; rotate_left; (replace y0 := bel_cell hS y0; replace y1 := bel_cell hS y1; replace y2 := bel_cell hS y2; replace y3 := bel_cell hS y3; replace y4 := bel_cell hS y4; replace q0 := bel_cell hS q0; replace q1 := bel_cell hS q1; replace q2 := bel_cell hS q2; go_simp; with_reducible rfl); rotate_left; simp only [List.set_cons_zero, List.set_cons_succ]))
                        cases pb
                        · go_wp2
                          go_ret
                          exact ⟨ret_bool (by rw [← HK.out, HPG.out, HPK.out]; rfl), bel_then HW11.out hS⟩
                        · go_wp2
                          go_roundw
                          case rel => exact ⟨k + 1, by omega, by go_num, ⟨by rw [← HK.out, HPG.out, HPK.out]; rfl⟩, ⟨bel_then HX11.out hS⟩⟩
                          case measure => simp [intOf]; omega
                      · go_wp2_with (go_at_call 61; refine (locks_calls (c := cl) (k : Int) HWW.out HR.out.l HVl.out).mono ?_; rintro x w10 ⟨rfl, hb10⟩; rw [HLK.out]; have HX10 := Aside0.mk (bel_then HW.out hb10); replace y0 := bel_cell hb10 y0; replace y1 := bel_cell hb10 y1; replace y2 := bel_cell hb10 y2; replace y3 := bel_cell hb10 y3; replace y4 := bel_cell hb10 y4; replace m0 := bel_cell hb10 m0; replace m1 := bel_cell hb10 m1; replace m2 := bel_cell hb10 m2; replace d0 := bel_cell hb10 d0; replace d1 := bel_cell hb10 d1; replace d2 := bel_cell hb10 d2; clear hb10)
                        refine text_start (fun w' => Below w10.heap.size w10 w') rfl rfl (by kernel_rfl) (below_drew (Below.refl _ _)) (fun HT => ?_)
                        repeat (first
                          | (refine text_end (fun wx hS => ?_))
                          | (refine text_skip HT rfl (by rfl) (fun _ _ _ h => h) ?_; simp only [List.set_cons_zero, List.set_cons_succ])
                          | (refine text_val (v := ?_) HT rfl (by rfl) (fun _ _ _ h => h) (fun wx hS => ?_) ?_; rotate_left; (replace y0 := bel_cell hS y0; replace y3 := bel_cell hS y3; replace d0 := bel_cell hS d0; go_simp; with_reducible rfl); rotate_left; simp only [List.set_cons_zero, List.set_cons_succ]))
                        have HX11 := Aside0.mk (bel_then HX10.out hS)
                        have HW11 := Aside0.mk (bel_then HB1.out (bel_then HX.out HX11.out))
                        replace y0 := bel_cell hS y0; replace y1 := bel_cell hS y1; replace y4 := bel_cell hS y4; replace m0 := bel_cell hS m0; replace m1 := bel_cell hS m1; replace m2 := bel_cell hS m2; replace d0 := bel_cell hS d0; replace d1 := bel_cell hS d1; replace d2 := bel_cell hS d2
                        clear hS
                        cases pb
                        · go_wp2
                          refine text_start (fun w' => Below wx.heap.size wx w') rfl rfl (by kernel_rfl) (below_drew (Below.refl _ _)) (fun HT => ?_)
                          repeat (first
                            | (refine text_end (fun wx hS => ?_))
                            | ((with_reducible refine text_gate (f := 62) rfl ?_); refine text_call (v := .bool false) (args := #[M.val Am2 cm2, Dp.val Ad2 cd2]) HT rfl Tryz.func62 (by kernel_rfl) rfl rfl (by rfl) (fun _ _ _ h => h) (by simp only [List.map_toArray, List.map_cons, List.map_nil]; rfl) (fun wx hS => (same_calls (c := cm2) (d := cd2) (by have := HPB.out; rw [if_pos HDN.out] at this; exact this) (bel_then HW11.out hS) HMC.out HDC.out).mono fun _ _ h => ⟨h.1, bel_then hS h.2⟩) ?_; simp only [List.set_cons_zero, List.set_cons_succ])
                            | (refine text_skip HT rfl (by rfl) (fun _ _ _ h => h) ?_; simp only [List.set_cons_zero, List.set_cons_succ])
                            | (refine text_val (v := ?_) HT rfl (by rfl) (fun _ _ _ h => h) (fun wx hS => ?_) ?_; rotate_left; (replace y0 := bel_cell hS y0; replace y1 := bel_cell hS y1; replace y4 := bel_cell hS y4; replace m0 := bel_cell hS m0; replace m1 := bel_cell hS m1; replace m2 := bel_cell hS m2; replace d0 := bel_cell hS d0; replace d1 := bel_cell hS d1; replace d2 := bel_cell hS d2; go_simp; with_reducible rfl); rotate_left; simp only [List.set_cons_zero, List.set_cons_succ]))
                          go_wp2
                          go_ret
                          exact ⟨ret_bool (by rw [← HK.out, HPG.out, HPK.out]; rfl), bel_then HW11.out hS⟩
                        · go_wp2
                          refine text_start (fun w' => Below wx.heap.size wx w') rfl rfl (by kernel_rfl) (below_drew (Below.refl _ _)) (fun HT => ?_)
                          repeat (first
                            | (refine text_end (fun wx hS => ?_))
                            | ((with_reducible refine text_gate (f := 62) rfl ?_); refine text_call (v := .bool true) (args := #[M.val Am2 cm2, Dp.val Ad2 cd2]) HT rfl Tryz.func62 (by kernel_rfl) rfl rfl (by rfl) (fun _ _ _ h => h) (by simp only [List.map_toArray, List.map_cons, List.map_nil]; rfl) (fun wx hS => (same_calls (c := cm2) (d := cd2) (by have := HPB.out; rw [if_pos HDN.out] at this; exact this) (bel_then HW11.out hS) HMC.out HDC.out).mono fun _ _ h => ⟨h.1, bel_then hS h.2⟩) ?_; simp only [List.set_cons_zero, List.set_cons_succ])
                            | (refine text_skip HT rfl (by rfl) (fun _ _ _ h => h) ?_; simp only [List.set_cons_zero, List.set_cons_succ])
                            | (refine text_val (v := ?_) HT rfl (by rfl) (fun _ _ _ h => h) (fun wx hS => ?_) ?_; rotate_left; (replace y0 := bel_cell hS y0; replace y1 := bel_cell hS y1; replace y4 := bel_cell hS y4; replace m0 := bel_cell hS m0; replace m1 := bel_cell hS m1; replace m2 := bel_cell hS m2; replace d0 := bel_cell hS d0; replace d1 := bel_cell hS d1; replace d2 := bel_cell hS d2; go_simp; with_reducible rfl); rotate_left; simp only [List.set_cons_zero, List.set_cons_succ]))
                          go_wp2
                          go_roundw
                          case rel => exact ⟨k + 1, by omega, by go_num, ⟨by rw [← HK.out, HPG.out, HPK.out]; rfl⟩, ⟨bel_then HX11.out hS⟩⟩
                          case measure => simp [intOf]; omega
                · go_wp2
                  go_ret
                  exact ⟨ret_bool (by rw [← HK.out, show 5 - k = 0 by omega]; rfl), HWW.out⟩
end Go.Proofs.YtlmlcnokiipilaaGreat

/- What happens to an engine, in plain Lean; plays. -/
namespace Go.Proofs.YtlmlcnokiipilaaGreat

def mayB (e : Eng) (tx page : Int) : Bool := !e.down && (inB tx 1 3 && (inB page 0 4 && (lk e.log page == 0 || lk e.log page == tx)))
/-- Engine x, if that may be, and there is room for it. -/
def changeE (e : Eng) (ok : Bool) (x : Eng) : Eng × Bool := if ok = true ∧ fitsB x.log = true then (x, true) else (e, false)
def putR (e : Eng) (tx page slot val : Int) : Rec := ⟨1, tx, page, slot, iv (pg e.mem page.toNat).vals slot.toNat, val, 0, 0⟩
def putB (e : Eng) (tx page slot val : Int) : Bool := mayB e tx page && ((pg e.mem page.toNat).owner != 0 && (inB slot 0 2 && inB val 0 9))
def putE (e : Eng) (tx page slot val : Int) : Eng × Bool := changeE e (putB e tx page slot val) (e.app (putR e tx page slot val))
def ownR (e : Eng) (tx page table : Int) : Rec := ⟨2, tx, page, -1, (pg e.mem page.toNat).owner, table, 0, 0⟩
def ownB (e : Eng) (tx page table : Int) : Bool := mayB e tx page && (inB table 0 3 && (((pg e.mem page.toNat).owner == 0) != (table == 0) && zeroB (pg e.mem page.toNat).vals))
def ownE (e : Eng) (tx page table : Int) : Eng × Bool := changeE e (ownB e tx page table) (e.app (ownR e tx page table))
def tookB (l : List Rec) (tx page : Int) : Bool := (Ch l tx l.length).any fun m => (rc l (m - 1)).kind == 2 && ((rc l (m - 1)).page == page && (rc l (m - 1)).new != 0)
def loadB (e : Eng) (tx page : Int) (vals : List Int) : Bool := mayB e tx page && ((pg e.mem page.toNat).owner != 0 && (zeroB (pg e.mem page.toNat).vals && (valsB vals && tookB e.log tx page)))
def loadX (e : Eng) (tx page : Int) (vals : List Int) : Eng := { e with log := e.log ++ [⟨3, tx, page, 0, 0, 0, lastN e.log tx e.log.length, 0⟩], mem := e.mem.set page.toNat ⟨(e.log.length + 1 : Nat), (pg e.mem page.toNat).owner, vals⟩ }
def loadE (e : Eng) (tx page : Int) (vals : List Int) : Eng × Bool := changeE e (loadB e tx page vals) (loadX e tx page vals)
/-- Is tx open, and the engine runs? -/
def openB (e : Eng) (tx : Int) : Bool := !e.down && (inB tx 1 3 && lastT e tx != 0)
def playE (e : Eng) (v : Evt) : Eng :=
  if v.kind = 1 then (putE e v.tx v.page v.slot v.n).1
  else if v.kind = 2 then (ownE e v.tx v.page v.n).1
  else if v.kind = 3 then (loadE e v.tx v.page v.vals).1
  else if v.kind = 4 then (if openB e v.tx = true then doneE e v.tx else e)
  else if v.kind = 5 then (if openB e v.tx = true then undoE e v.tx else e)
  else if v.kind = 6 then (if e.down = false ∧ inB v.page 0 4 = true then writeE e v.page.toNat else e)
  else if v.kind = 7 then (if e.down = false then forceE e else e)
  else if v.kind = 8 then (if 0 ≤ v.n then fallE e v.n else e)
  else if v.kind = 9 then (if e.down = true ∧ 0 ≤ v.n then riseE e v.n.toNat else e)
  else e
/-- What was done, behind an event. -/
def trueE (e : Eng) (v : Evt) (C : Nat → Page) : Nat → Page := if v.kind = 4 ∧ openB e v.tx = true then trueD e v.tx C else C
theorem openB_iff {e : Eng} {tx : Int} : openB e tx = true ↔ e.down = false ∧ (tx = 1 ∨ tx = 2 ∨ tx = 3) ∧ lastT e tx ≠ 0 := by
  simp only [openB, Bool.and_eq_true, Bool.not_eq_true', inB_iff, bne_iff_ne]
  constructor
  · rintro ⟨h1, h2, h3⟩; exact ⟨h1, by omega, h3⟩
  · rintro ⟨h1, h2, h3⟩; exact ⟨h1, by omega, h3⟩
theorem zeroB_iff {vs : List Int} : zeroB vs = true ↔ ∀ x ∈ vs, x = 0 := by
  simp [zeroB]
theorem mayB_iff {e : Eng} {tx page : Int} : mayB e tx page = true ↔ e.down = false ∧ (1 ≤ tx ∧ tx ≤ 3) ∧ (0 ≤ page ∧ page ≤ 4) ∧ (lk e.log page = 0 ∨ lk e.log page = tx) := by
  simp only [mayB, Bool.and_eq_true, Bool.not_eq_true', inB_iff, Bool.or_eq_true, beq_iff_eq]
theorem Core.free {e : Eng} {C : Nat → Page} {B : Nat} (h : Core e C B) {tx page : Int} (hl : lk e.log page = 0 ∨ lk e.log page = tx) : ∀ t, t ≠ tx → has e.log t e.log.length page = false := by
  intro t ht
  have hall := (lk_all (h.one_holds page)).2
  rcases hall with hx | hx
  · by_cases h0 : lastN e.log t e.log.length = 0
    · rw [has, h0, hasN_zero]
    · refine hx.2 t ?_
      have hlt := lastN_tx e.log t e.log.length
      have hle := lastN_le e.log t e.log.length
      have hF := logOk_facts h.log (k := lastN e.log t e.log.length - 1) (by omega)
      rcases hlt with hlt | hlt
      · exact absurd hlt h0
      · have h2 := hF.tx1
        have h3 := hF.tx3
        rw [hlt] at h2 h3
        omega
  · rcases hl with hl | hl
    · rw [hl] at hx; omega
    · exact h.one_holds page (lk e.log page) t (by rw [hl]; exact Ne.symm ht) hx.2
theorem Inv.mono {e : Eng} {C : Nat → Page} {B B' : Nat} (h : Inv e C B) (hB : B ≤ B') (h150 : B' ≤ 150) : Inv e C B' :=
  ⟨⟨h.core.dlen, h.core.dok, h.core.log, h.core.prop, h.core.s0, h.core.s1, h150, fun n hn => by have := h.core.room n hn; omega, h.core.done, h.core.dlsn, h.core.good⟩, h.mlen, h.dn, h.upc, h.upm⟩
theorem fits_of {e : Eng} {C : Nat → Page} {B : Nat} (h : Core e C B) : fitsB e.log = true := by
  have h1 := h.room e.log.length (Nat.le_refl _)
  have h2 := h.b150
  rw [fitsB, need_at, decide_eq_true_eq]; omega
theorem Inv.putI {e : Eng} {C : Nat → Page} {B : Nat} (h : Inv e C B) (hB : B + 3 ≤ 150) {tx page slot val : Int} (hp : putB e tx page slot val = true) : Inv (e.app (putR e tx page slot val)) C (B + 3) := by
  simp only [putB, Bool.and_eq_true, mayB_iff, bne_iff_ne, inB_iff] at hp
  obtain ⟨⟨h1, h2, h3, h4⟩, h5, h6, h7⟩ := hp
  exact h.chg h1 (p := page.toNat) (by omega) (by show page = _; omega) (by show tx = 1 ∨ tx = 2 ∨ tx = 3; omega) (.inl ⟨rfl, h5, h6.1, h6.2, h7.1, h7.2, rfl⟩) rfl (by
    have := h.core.free h4
    rwa [show ((page.toNat : Nat) : Int) = page by omega]) hB
theorem Inv.ownI {e : Eng} {C : Nat → Page} {B : Nat} (h : Inv e C B) (hB : B + 3 ≤ 150) {tx page table : Int} (hp : ownB e tx page table = true) : Inv (e.app (ownR e tx page table)) C (B + 3) := by
  simp only [ownB, Bool.and_eq_true, mayB_iff, bne_iff_ne, inB_iff, zeroB_iff] at hp
  obtain ⟨⟨h1, h2, h3, h4⟩, h5, h6, h7⟩ := hp
  have hok := (pageOk_iff.1 (psOk_iff.1 h.psMem |>.2 page.toNat (by omega))).2.2.2.2.1
  refine h.chg h1 (p := page.toNat) (by omega) (by show page = _; omega) (by show tx = 1 ∨ tx = 2 ∨ tx = 3; omega) (.inr ⟨rfl, rfl, h5.1, h5.2, ?_, zeros3 hok h7, rfl⟩) rfl (by
    have := h.core.free h4
    rwa [show ((page.toNat : Nat) : Int) = page by omega]) hB
  show (pg e.mem page.toNat).owner = 0 ↔ table ≠ 0
  constructor
  · intro e1 e2
    rw [e1, e2] at h6
    exact h6 rfl
  · intro e2
    by_cases e1 : (pg e.mem page.toNat).owner = 0
    · exact e1
    · exfalso
      apply h6
      rw [beq_eq_false_iff_ne.2 e1, beq_eq_false_iff_ne.2 e2]
theorem Inv.loadI {e : Eng} {C : Nat → Page} {B : Nat} (h : Inv e C B) (hB : B + 3 ≤ 150) {tx page : Int} {vals : List Int} (hp : loadB e tx page vals = true) : Inv (loadX e tx page vals) C (B + 3) := by
  simp only [loadB, Bool.and_eq_true, mayB_iff, bne_iff_ne, zeroB_iff] at hp
  obtain ⟨⟨h1, h2, h3, h4⟩, h5, h6, h7, h8⟩ := hp
  have e1 : ((page.toNat : Nat) : Int) = page := by omega
  have hL := h.load (tx := tx) (p := page.toNat) (vals := vals) h1 (by omega) (by omega) h5 ?_ (by rw [e1]; exact h.core.free h4) ?_ hB
  · rw [e1] at hL
    exact hL
  · simp only [valsB, Bool.and_eq_true, beq_iff_eq, Bool.not_eq_true', List.any_eq_false] at h7
    refine ⟨h7.1, fun x hx => ?_⟩
    have := h7.2 x hx
    simp [inB] at this
    exact this
  · rw [e1]
    simp only [tookB, List.any_eq_true, Bool.and_eq_true, beq_iff_eq, bne_iff_ne] at h8
    obtain ⟨m, h8, h9⟩ := h8
    exact ⟨m, h8, h9⟩
theorem Inv.change {e x : Eng} {C : Nat → Page} {B : Nat} (h : Inv e C B) (hB : B + 3 ≤ 150) {ok : Bool} (hx : ok = true → Inv x C (B + 3)) : Inv (changeE e ok x).1 C (B + 3) := by
  unfold changeE
  split
  · rename_i hc; exact hx hc.1
  · exact h.mono (by omega) hB
/-- What happens keeps what holds. -/
theorem Inv.play {e : Eng} {C : Nat → Page} {B : Nat} (h : Inv e C B) (hB : B + 3 ≤ 150) (v : Evt) : Inv (playE e v) (trueE e v C) (B + 3) := by
  have hid := h.mono (show B ≤ B + 3 by omega) hB
  have hle : B ≤ B + 3 := by omega
  unfold playE trueE
  by_cases k4 : v.kind = 4
  · rw [if_neg (by omega), if_neg (by omega), if_neg (by omega), if_pos k4]
    cases ho : openB e v.tx
    · rw [if_neg (by simp), if_neg (by simp)]; exact hid
    · rw [if_pos rfl, if_pos ⟨k4, rfl⟩]
      obtain ⟨h1, h2, h3⟩ := openB_iff.1 ho
      exact (h.doneI h1 h2 h3).mono hle hB
  have h4 : ¬ (v.kind = 4 ∧ openB e v.tx = true) := fun hx => k4 hx.1
  rw [if_neg h4]
  by_cases k1 : v.kind = 1
  · rw [if_pos k1]; exact h.change hB (h.putI hB)
  rw [if_neg k1]
  by_cases k2 : v.kind = 2
  · rw [if_pos k2]; exact h.change hB (h.ownI hB)
  rw [if_neg k2]
  by_cases k3 : v.kind = 3
  · rw [if_pos k3]; exact h.change hB (h.loadI hB)
  rw [if_neg k3, if_neg k4]
  by_cases k5 : v.kind = 5
  · rw [if_pos k5]
    split
    · rename_i ho
      obtain ⟨h1, h2, h3⟩ := openB_iff.1 ho
      exact (h.undo h1 h2).1.mono hle hB
    · exact hid
  rw [if_neg k5]
  by_cases k6 : v.kind = 6
  · rw [if_pos k6]
    split
    · rename_i hw
      have := inB_iff.1 hw.2
      exact (h.write hw.1 (by omega)).mono hle hB
    · exact hid
  rw [if_neg k6]
  by_cases k7 : v.kind = 7
  · rw [if_pos k7]
    split
    · rename_i hd; exact (h.force hd).mono hle hB
    · exact hid
  rw [if_neg k7]
  by_cases k8 : v.kind = 8
  · rw [if_pos k8]
    split
    · exact (h.fall _).mono hle hB
    · exact hid
  rw [if_neg k8]
  by_cases k9 : v.kind = 9
  · rw [if_pos k9]
    split
    · rename_i hr; exact (h.rise hr.1 _).mono hle hB
    · exact hid
  rw [if_neg k9]
  exact hid
def newP : Page := ⟨0, 0, [0, 0, 0]⟩
def newE : Eng := ⟨List.replicate 5 newP, List.replicate 5 newP, [], 0, false⟩
theorem pg_new {p : Nat} (h : p < 5) : pg (List.replicate 5 newP) p = newP := by
  match p, h with
  | 0, _ => rfl
  | 1, _ => rfl
  | 2, _ => rfl
  | 3, _ => rfl
  | 4, _ => rfl
theorem inv_new : Inv newE (fun _ => newP) 0 := by
  have hU : ∀ p : Int, UA [] 0 p = [] := fun p => by simp [UA, F, U, lastN, undN_zero]
  have hok : pageOk newP = true := by decide
  refine ⟨⟨rfl, fun p hp => ?_, rfl, fun k hk => ?_, Int.le_refl _, Int.le_refl _, by omega, fun n hn => ?_, fun k hk => ?_, fun p hp => ?_, fun n _ hn p hp => ?_⟩, rfl, fun hd => rfl, fun _ t m hm => ?_, fun _ p hp => ⟨?_, ?_, ?_, .inl ⟨?_, ?_⟩⟩⟩
  · show pageOk (pg (List.replicate 5 newP) p) = true
    rw [pg_new hp]; exact hok
  · cases hk
  · obtain rfl : n = 0 := Nat.le_zero.1 hn
    show 0 + needAt [] 0 ≤ 0
    simp [needAt, cst, U, lastN, undN_zero]
  · cases hk
  · show (pg (List.replicate 5 newP) p).lsn ≤ 0
    rw [pg_new hp]; exact Int.le_refl _
  · obtain rfl : n = 0 := Nat.le_zero.1 hn
    show okPath [] newP (UA [] 0 p) (redo1 (pg (List.replicate 5 newP) p) [] p 0)
    rw [hU, pg_new hp]
    exact ⟨hok, rfl, rfl⟩
  · simp [Ch, newE, lastN, chainN_zero] at hm
  · show pageOk (pg (List.replicate 5 newP) p) = true
    rw [pg_new hp]; exact hok
  · rfl
  · show (pg (List.replicate 5 newP) p).lsn ≤ 0
    rw [pg_new hp]; exact Int.le_refl _
  · simp [newE, lds, ld, lastN, loadN_zero]
  · rfl
def runE (e : Eng) : List Evt → Eng
  | [] => e
  | v :: vs => runE (playE e v) vs
def trueR (e : Eng) (C : Nat → Page) : List Evt → Nat → Page
  | [] => C
  | v :: vs => trueR (playE e v) (trueE e v C) vs
theorem Inv.run : ∀ {vs : List Evt} {e : Eng} {C : Nat → Page} {B : Nat}, Inv e C B → B + 3 * vs.length ≤ 150 → Inv (runE e vs) (trueR e C vs) (B + 3 * vs.length)
  | [], e, C, B, h, _ => h
  | v :: vs, e, C, B, h, hB => by
    rw [List.length_cons] at hB
    have := Inv.run (h.play (by omega) v) (vs := vs) (by omega)
    rw [List.length_cons, show B + 3 * (vs.length + 1) = B + 3 + 3 * vs.length by omega]
    exact this
end Go.Proofs.YtlmlcnokiipilaaGreat

/- When a step of an undoing can be made: of any engine that is ok, and rises; of one that plays made; in plain Lean. -/
namespace Go.Proofs.YtlmlcnokiipilaaGreat

/-- May a record be applied to a page? -/
def recDoB (P : Page) (r : Rec) (n : Int) : Bool := pageOk P && (recOk r && (chgB r.kind && (decide (P.lsn < n) && (decide (n ≤ 150) && pageOk (doR P r n)))))
structure StepOk (e : Eng) (tx : Int) : Prop where
  log : logOk e.log = true
  geo : geo e.mem
  t1 : 1 ≤ tx
  t3 : tx ≤ 3
  l150 : e.log.length + 1 ≤ 150
  may : chgB (stepR e tx).kind = true → recDoB (pg e.mem (stepR e tx).page.toNat) (stepR e tx) (e.log.length + 1 : Nat) = true
  log' : logOk (e.log ++ [stepR e tx]) = true
  room : e.log.length + 1 + needAt (e.log ++ [stepR e tx]) (e.log.length + 1) ≤ 150
theorem psOk_geo' {ps : List Page} (h : psOk ps = true) : geo ps := psOk_geo h
/-- Pages that part in their records' numbers alone. -/
structure Sim (ps qs : List Page) : Prop where
  l : ps.length = 5
  l' : qs.length = 5
  lsn : ∀ p, p < 5 → 0 ≤ (pg qs p).lsn ∧ (pg qs p).lsn ≤ 150
  owner : ∀ p, p < 5 → (pg qs p).owner = (pg ps p).owner
  vals : ∀ p, p < 5 → (pg qs p).vals = (pg ps p).vals
theorem withR_sim {P Q : Page} (r : Rec) (ho : Q.owner = P.owner) (hv : Q.vals = P.vals) : (withR Q r).owner = (withR P r).owner ∧ (withR Q r).vals = (withR P r).vals := by
  unfold withR
  split
  · exact ⟨ho, by simp only; rw [hv]⟩
  · split
    · exact ⟨rfl, rfl⟩
    · exact ⟨rfl, hv⟩
theorem undoB_sim {l : List Rec} : ∀ {ms : List Nat} {ps qs : List Page}, (∀ m ∈ ms, 0 ≤ (rc l (m - 1)).page ∧ (rc l (m - 1)).page < 5) → Sim ps qs → undoB l ps ms = true → undoB l qs ms = true
  | [], _, _, _, _, _ => rfl
  | m :: ms, ps, qs, hm, hs, h => by
    have h5 := hm m (by simp)
    rw [undoB, Bool.and_eq_true] at h ⊢
    have hp : (rc l (m - 1)).page.toNat < 5 := by omega
    have hw := withR_sim (backR (rc l (m - 1)) 0) (hs.owner _ hp) (hs.vals _ hp)
    have hl := hs.lsn _ hp
    refine ⟨?_, undoB_sim (fun x hx => hm x (by simp [hx])) ⟨by simpa using hs.l, by simpa using hs.l', fun p hp5 => ?_, fun p hp5 => ?_, fun p hp5 => ?_⟩ h.2⟩
    · have h1 := pageOk_lsn (k := (pg qs (rc l (m - 1)).page.toNat).lsn) h.1 hl.1 hl.2
      rw [← hw.1, ← hw.2] at h1
      rw [← withR_lsn (pg qs (rc l (m - 1)).page.toNat) (backR (rc l (m - 1)) 0)] at h1
      exact h1
    · rw [pg_set (by rw [hs.l']; exact hp)]
      split
      · rw [withR_lsn]; exact hl
      · exact hs.lsn p hp5
    · rw [pg_set (by rw [hs.l']; exact hp), pg_set (by rw [hs.l]; exact hp)]
      split
      · exact hw.1
      · exact hs.owner p hp5
    · rw [pg_set (by rw [hs.l']; exact hp), pg_set (by rw [hs.l]; exact hp)]
      split
      · exact hw.2
      · exact hs.vals p hp5
theorem undoB_congr {l l' : List Rec} {n : Nat} (h : Agree l l' n) : ∀ {ms : List Nat} {ps : List Page}, (∀ m ∈ ms, 0 < m ∧ m ≤ n) → undoB l ps ms = undoB l' ps ms
  | [], _, _ => rfl
  | m :: ms, ps, hm => by
    have := hm m (by simp)
    rw [undoB, undoB, h (m - 1) (by omega), undoB_congr h (fun x hx => hm x (by simp [hx]))]
/-- What holds while an engine is undone, these being still to be undone. -/
structure UndL (e : Eng) (ms : List Nat) : Prop where
  log : logOk e.log = true
  mem : psOk e.mem = true
  lsn : ∀ p, p < 5 → (pg e.mem p).lsn ≤ e.log.length
  und : undoB e.log e.mem ms = true
  room : e.log.length + needAt e.log e.log.length ≤ 150
theorem UndL.one {e : Eng} {ms : List Nat} (h : UndL e ms) {tx : Int} (ht : tx = 1 ∨ tx = 2 ∨ tx = 3) (hlast : lastT e tx ≠ 0) : e.log.length + 1 ≤ 150 := by
  have h1 := h.room
  have h3 : cst e.log tx e.log.length ≥ 1 := by rw [cst, if_neg hlast]; omega
  have h4 : cst e.log tx e.log.length ≤ needAt e.log e.log.length := by
    rw [needAt]
    rcases ht with rfl | rfl | rfl <;> omega
  omega
theorem UndL.stepOk {e : Eng} {tx : Int} {rest : List Nat} (h : UndL e (U e.log tx e.log.length ++ rest)) (ht : tx = 1 ∨ tx = 2 ∨ tx = 3) (hlast : lastT e tx ≠ 0) : StepOk e tx := by
  have h1 := h.one ht hlast
  have hk := step_kind (e := e) h.log tx
  have hl' := hk.log h.log (by omega) h1
  have hn := hk.need h.log ht h1 hlast
  have hr := h.room
  refine ⟨h.log, psOk_geo h.mem, by omega, by omega, h1, fun hc => ?_, hl', by omega⟩
  have hok := hk.ok h.log (by omega)
  have hund := h.und
  have hmem := psOk_iff.1 h.mem
  have hls := h.lsn
  generalize stepR e tx = r at hk hok hc ⊢
  cases hk with
  | fin hU => simp [chgB] at hc
  | undo m ms hU h0 hm hkk htx =>
    have hrec := und_rec h.log h0 hm hkk
    rw [hU, List.cons_append, undoB, Bool.and_eq_true] at hund
    have hp : (rc e.log (m - 1)).page.toNat < 5 := by omega
    have hl5 := hls _ hp
    simp only [recDoB, Bool.and_eq_true, decide_eq_true_eq]
    refine ⟨hmem.2 _ hp, hok, hc, ?_, by omega, ?_⟩
    · show (pg e.mem (rc e.log (m - 1)).page.toNat).lsn < ((e.log.length + 1 : Nat) : Int)
      omega
    · rw [doR_withR]
      exact pageOk_lsn hund.1 (by omega) (by omega)
theorem UndL.step {e : Eng} {tx : Int} {rest : List Nat} (h : UndL e (U e.log tx e.log.length ++ rest)) (ht : tx = 1 ∨ tx = 2 ∨ tx = 3) (hlast : lastT e tx ≠ 0) (hrest : ∀ m ∈ rest, 0 < m ∧ m ≤ e.log.length ∧ 0 ≤ (rc e.log (m - 1)).page ∧ (rc e.log (m - 1)).page < 5) : UndL (stepE e tx) ((U e.log tx e.log.length).tail ++ rest) := by
  have h1 := h.one ht hlast
  have hk := step_kind (e := e) h.log tx
  have hl' := hk.log h.log (by omega) h1
  have hn := hk.need h.log ht h1 hlast
  have hr := h.room
  have hmem := psOk_iff.1 h.mem
  have hso := h.stepOk ht hlast
  have hM := fun p => app_mem hmem.1 (step_page h.log tx) p
  have hA := agree_app e.log [stepR e tx]
  have hLl : (stepE e tx).log = e.log ++ [stepR e tx] := rfl
  have hM : ∀ p : Nat, pg (stepE e tx).mem p = if chgB (stepR e tx).kind = true ∧ (stepR e tx).page = (p : Int) then doR (pg e.mem p) (stepR e tx) (e.log.length + 1 : Nat) else pg e.mem p := hM
  have hml : (stepE e tx).mem.length = 5 := by unfold stepE; rw [app_mlen]; exact hmem.1
  have hUr : ∀ m ∈ U e.log tx e.log.length, 0 < m ∧ m ≤ e.log.length ∧ 0 ≤ (rc e.log (m - 1)).page ∧ (rc e.log (m - 1)).page < 5 := fun m hm => by
    have h2 := U_mem hm
    have h3 := und_rec h.log h2.1 h2.2 (U_kind h.log (Nat.le_refl _) hm)
    exact ⟨h2.1, h2.2, h3.2.1, h3.2.2.1⟩
  have hpage : ∀ p : Nat, p < 5 → pageOk (pg (stepE e tx).mem p) = true := fun p hp => by
    rw [hM p]
    split
    · rename_i hc
      have := hso.may hc.1
      simp only [recDoB, Bool.and_eq_true, decide_eq_true_eq] at this
      rw [show (stepR e tx).page.toNat = p by omega] at this
      exact this.2.2.2.2.2
    · exact hmem.2 p hp
  refine ⟨by rw [hLl]; exact hl', psOk_iff.2 ⟨hml, hpage⟩, fun p hp => ?_, ?_, by rw [hLl]; simp only [List.length_append, List.length_singleton]; omega⟩
  · rw [hM p, hLl]
    simp only [List.length_append, List.length_singleton]
    split
    · exact Int.le_refl _
    · have := h.lsn p hp; omega
  · have hund := h.und
    rw [hLl]
    generalize stepR e tx = r at hk hl' hn hA hM
    cases hk with
    | fin hU =>
      rw [hU, List.nil_append] at hund
      rw [hU, List.tail_nil, List.nil_append, undoB_congr hA (fun m hm => by have := hrest m hm; omega)]
      refine undoB_sim (fun m hm => (hrest m hm).2.2) ⟨hmem.1, hml, fun p hp => ?_, fun p hp => ?_, fun p hp => ?_⟩ hund
      · have := pageOk_iff.1 (hpage p hp); exact ⟨this.1, this.2.1⟩
      · rw [hM p, if_neg (fun hc => by simp [chgB] at hc)]
      · rw [hM p, if_neg (fun hc => by simp [chgB] at hc)]
    | undo m ms hU h0 hm hkk htx =>
      rw [hU, List.cons_append, undoB, Bool.and_eq_true] at hund
      rw [hU] at hUr
      have hmr := hUr m (by simp)
      have hmp : (rc e.log (m - 1)).page.toNat < 5 := by omega
      rw [hU, List.tail_cons, undoB_congr hA (fun x hx => by
        rcases List.mem_append.1 hx with hx | hx
        · have := hUr x (by simp [hx]); omega
        · have := hrest x hx; omega)]
      refine undoB_sim (fun x hx => ?_) ⟨by simpa using hmem.1, hml, fun p hp => ?_, fun p hp => ?_, fun p hp => ?_⟩ hund.2
      · rcases List.mem_append.1 hx with hx | hx
        · exact (hUr x (by simp [hx])).2.2
        · exact (hrest x hx).2.2
      · have := pageOk_iff.1 (hpage p hp); exact ⟨this.1, this.2.1⟩
      · rw [hM p, pg_set (by rw [hmem.1]; exact hmp)]
        by_cases e1 : (rc e.log (m - 1)).page.toNat = p
        · rw [if_pos ⟨rfl, by show (rc e.log (m - 1)).page = _; omega⟩, if_pos e1, ← e1]; rfl
        · rw [if_neg (fun hc => e1 (by have h2 : (rc e.log (m - 1)).page = (p : Int) := hc.2; omega)), if_neg e1]
      · rw [hM p, pg_set (by rw [hmem.1]; exact hmp)]
        by_cases e1 : (rc e.log (m - 1)).page.toNat = p
        · rw [if_pos ⟨rfl, by show (rc e.log (m - 1)).page = _; omega⟩, if_pos e1, ← e1]; rfl
        · rw [if_neg (fun hc => e1 (by have h2 : (rc e.log (m - 1)).page = (p : Int) := hc.2; omega)), if_neg e1]
theorem undR_three (l : List Rec) : undR l 3 = U l 1 l.length ++ (U l 2 l.length ++ U l 3 l.length) := by
  have e1 : (3 - ((2 : Nat) : Int)) = 1 := rfl
  have e2 : (3 - ((1 : Nat) : Int)) = 2 := rfl
  have e3 : (3 - ((0 : Nat) : Int)) = 3 := rfl
  rw [undR, undR, undR, undR, e1, e2, e3, List.append_nil]
  rfl
/-- What holds while an engine rises, whatever made it. -/
def RiseOk (e : Eng) : Prop := UndL e (undR e.log 3)
theorem lastT_U {e : Eng} {t : Int} (h : lastT e t = 0) : U e.log t e.log.length = [] := by rw [U, show lastN e.log t e.log.length = 0 from h, undN_zero]
theorem RiseOk.step {e : Eng} (h : RiseOk e) (h0 : firstO e ≠ 0) : StepOk e (firstO e) ∧ RiseOk (stepE e (firstO e)) ∧ needAt (stepE e (firstO e)).log (stepE e (firstO e)).log.length + 1 = needAt e.log e.log.length := by
  obtain ⟨ht, hlast⟩ := firstO_some h0
  have hlt := h
  unfold RiseOk at h ⊢
  obtain ⟨rest, hrest, hr2, hr3⟩ : ∃ rest, undR e.log 3 = U e.log (firstO e) e.log.length ++ rest ∧ (∀ m ∈ rest, ∃ t, m ∈ U e.log t e.log.length) ∧ ∀ l' : List Rec, (∀ t, t ≠ firstO e → U l' t l'.length = U e.log t e.log.length) → undR l' 3 = U l' (firstO e) l'.length ++ rest := by
    rw [undR_three]
    by_cases h1 : lastT e 1 = 0
    · by_cases h2 : lastT e 2 = 0
      · by_cases h3 : lastT e 3 = 0
        · exact absurd (show firstO e = 0 by unfold firstO; rw [if_neg (by simpa using h1), if_neg (by simpa using h2), if_neg (by simpa using h3)]) h0
        · have hf : firstO e = 3 := by unfold firstO; rw [if_neg (by simpa using h1), if_neg (by simpa using h2), if_pos h3]
          rw [hf, lastT_U h1, lastT_U h2]
          refine ⟨[], by simp, fun m hm => (by cases hm), fun l' hl => ?_⟩
          rw [undR_three, hl 1 (by decide), hl 2 (by decide), lastT_U h1, lastT_U h2]; simp
      · have hf : firstO e = 2 := by unfold firstO; rw [if_neg (by simpa using h1), if_pos h2]
        rw [hf, lastT_U h1]
        refine ⟨U e.log 3 e.log.length, by simp, fun m hm => ⟨3, hm⟩, fun l' hl => ?_⟩
        rw [undR_three, hl 1 (by decide), hl 3 (by decide), lastT_U h1]; simp
    · have hf : firstO e = 1 := by unfold firstO; rw [if_pos h1]
      rw [hf]
      refine ⟨U e.log 2 e.log.length ++ U e.log 3 e.log.length, rfl, fun m hm => ?_, fun l' hl => ?_⟩
      · rcases List.mem_append.1 hm with hm | hm
        · exact ⟨2, hm⟩
        · exact ⟨3, hm⟩
      · rw [undR_three, hl 2 (by decide), hl 3 (by decide)]
  rw [hrest] at h
  have h1 := h.one ht hlast
  have hk := step_kind (e := e) h.log (firstO e)
  have hn := hk.next h.log (by omega) h1
  have hd := hk.need h.log ht h1 hlast
  have hlen : (stepE e (firstO e)).log.length = e.log.length + 1 := stepE_len _ _
  have hLl : (stepE e (firstO e)).log = e.log ++ [stepR e (firstO e)] := rfl
  refine ⟨h.stepOk ht hlast, ?_, by rw [hlen, hLl]; exact hd⟩
  rw [hr3 (stepE e (firstO e)).log (fun t hne => by rw [hlen, hLl]; exact (hn.2.1 t hne).1)]
  rw [show U (stepE e (firstO e)).log (firstO e) (stepE e (firstO e)).log.length = (U e.log (firstO e) e.log.length).tail by rw [hlen, hLl]; exact hn.1]
  refine h.step ht hlast fun m hm => ?_
  obtain ⟨t, hmt⟩ := hr2 m hm
  have h2 := U_mem hmt
  have h3 := und_rec h.log h2.1 h2.2 (U_kind h.log (Nat.le_refl _) hmt)
  exact ⟨h2.1, h2.2, h3.2.1, h3.2.2.1⟩
/-- What is known of an engine that is ok. -/
structure OkF (e : Eng) : Prop where
  disk : psOk e.disk = true
  mem : psOk e.mem = true
  log : logOk e.log = true
  s0 : 0 ≤ e.safe
  s1 : e.safe ≤ e.log.length
  fits : fitsB e.log = true
  pref : ∀ n : Nat, e.safe ≤ n → n ≤ e.log.length → prefB e n = true
  page : ∀ p, p < 5 → pageB e p = true
theorem okF_iff {e : Eng} : eOk e = true ↔ OkF e := by
  simp only [eOk, Bool.and_eq_true, inB_iff, prefsB_iff, List.all_eq_true, List.mem_range]
  constructor
  · rintro ⟨h1, h2, h3, ⟨h4, h5⟩, h6, h7, h8⟩
    exact ⟨h1, h2, h3, h4, h5, h6, fun n ha hb => h7 n (by omega) (by omega), h8⟩
  · rintro ⟨h1, h2, h3, h4, h5, h6, h7, h8⟩
    exact ⟨h1, h2, h3, ⟨h4, h5⟩, h6, fun n ha hb => h7 n (by omega) (by omega), h8⟩
theorem OkF.dlsn {e : Eng} (h : OkF e) {p : Nat} (hp : p < 5) : (pg e.disk p).lsn ≤ e.safe := by
  have := h.page p hp
  simp only [pageB, Bool.and_eq_true, decide_eq_true_eq] at this
  exact this.1.2
theorem OkF.rise {e : Eng} (h : OkF e) : RiseOk { e with mem := redoN e.disk e.log e.log.length } := by
  have hp := h.pref e.log.length h.s1 (Nat.le_refl _)
  have hd := psOk_iff.1 h.disk
  rw [prefB, List.take_length, Bool.and_eq_true, undoneB, undAll_open] at hp
  have hf := h.fits
  rw [fitsB, need_at, decide_eq_true_eq] at hf
  refine ⟨h.log, hp.1, fun p hp5 => ?_, hp.2, hf⟩
  show (pg (redoN e.disk e.log e.log.length) p).lsn ≤ (e.log.length : Int)
  rw [pg_redo hd.1 (fun k hk => (logOk_facts h.log hk).ok) p _ (Nat.le_refl _)]
  have h1 := redo1_lsn (P := pg e.disk p) (l := e.log) (p := p) e.log.length
  have h2 := h.dlsn hp5
  have h3 := h.s1
  omega
/-- k steps undo tx. -/
def UndOk (tx : Int) : Nat → Eng → Prop
  | 0, e => lastT e tx = 0 ∧ logOk e.log = true
  | k + 1, e => lastT e tx ≠ 0 ∧ StepOk e tx ∧ UndOk tx k (stepE e tx)
theorem UndInv.stepOk {e : Eng} {C : Nat → Page} {B : Nat} {tx : Int} (h : UndInv e C B tx) (ht : tx = 1 ∨ tx = 2 ∨ tx = 3) (hlast : lastT e tx ≠ 0) : StepOk e tx := by
  have h1 := h.core.one ht hlast
  have hk := step_kind (e := e) h.core.log tx
  have hl' := hk.log h.core.log (by omega) h1
  have hn := hk.need h.core.log ht h1 hlast
  have hr := h.core.room e.log.length (Nat.le_refl _)
  have hb := h.core.b150
  have hs := fun p hp => (h.step ht hlast).upm p hp
  have hps : psOk e.mem = true := psOk_iff.2 ⟨h.mlen, fun p hp => (h.upm p hp).ok⟩
  refine ⟨h.core.log, psOk_geo hps, by omega, by omega, h1, fun hc => ?_, hl', by omega⟩
  have hok := hk.ok h.core.log (by omega)
  have hpg := step_page h.core.log tx hc
  have hpn : (nextU e tx).page.toNat < 5 := by omega
  have hmem := app_mem h.mlen (step_page h.core.log tx) (nextU e tx).page.toNat
  rw [if_pos ⟨hc, by omega⟩] at hmem
  have hs1 := (hs _ hpn).ok
  rw [show pg (stepE e tx).mem (nextU e tx).page.toNat = _ from hmem] at hs1
  have hl := (h.upm _ hpn).lsn
  simp only [recDoB, Bool.and_eq_true, decide_eq_true_eq]
  refine ⟨(h.upm _ hpn).ok, hok, hc, ?_, by omega, hs1⟩
  show (pg e.mem (nextU e tx).page.toNat).lsn < ((e.log.length + 1 : Nat) : Int)
  omega
theorem UndInv.undOk {C : Nat → Page} {B : Nat} {tx : Int} (ht : tx = 1 ∨ tx = 2 ∨ tx = 3) : ∀ (k : Nat) (e : Eng), UndInv e C B tx → lastT e tx ≠ 0 → (U e.log tx e.log.length).length = k → UndOk tx (k + 1) e
  | 0, e, h, hlast, hk => by
    have hs := h.core.stepU ht hlast
    have h0 := List.eq_nil_of_length_eq_zero hk
    refine ⟨hlast, h.stepOk ht hlast, ?_, (h.step ht hlast).core.log⟩
    show lastT (stepE e tx) tx = 0
    rw [hs.2.2.1, if_pos h0]
  | k + 1, e, h, hlast, hk => by
    have hs := h.core.stepU ht hlast
    have hne : U e.log tx e.log.length ≠ [] := fun h0 => by rw [h0] at hk; cases hk
    exact ⟨hlast, h.stepOk ht hlast, UndInv.undOk ht k (stepE e tx) (h.step ht hlast) (by rw [hs.2.2.1, if_neg hne]; omega) (by rw [hs.1, List.length_tail, hk]; omega)⟩
end Go.Proofs.YtlmlcnokiipilaaGreat

/- The reference's l11Fresh; who holds a page, counted. -/
namespace Go.Proofs.YtlmlcnokiipilaaGreat
open Go.RowKit Go.Proofs.YtlmlcnokiipilaaGreatW.PrintWords Go.Proofs.YtlmlcnokiipilaaGreatW.PrintLast Go.Proofs.YtlmlcnokiipilaaGreatW.PrintMore

def freshB (e : Eng) (p : Nat) : Bool := (pg e.mem p).lsn == lastOfN e.log p e.log.length && (decide ((pg e.disk p).lsn < (pg e.mem p).lsn) || samePg (pg e.mem p) (pg e.disk p))
set_option maxRecDepth 100000 in
set_option maxHeartbeats 8000000 in
theorem l11Fresh_calls {w0 w : World} {e : Eng} {Ad Am Al : Option Addr} {cd cm cl : Nat} {p : Nat} {b : Bool} (hv : freshB e p = b) (hp : p < 5) (hd : psOk e.disk = true) (hm : psOk e.mem = true) (hb : Below w0.heap.size w0 w) (hr : EngC w0 e Ad Am Al) : Calls Tryz.prog 75 #[e.val Ad Am Al cd cm cl, .int .i64 p] w fun x w' => x = .returned (.bool b) ∧ Below w.heap.size w w' := by
  have HR := Aside0.mk (hr.up hb)
  have HV := Aside0.mk hv
  have hd5 := psOk_iff.1 hd
  have hm5 := psOk_iff.1 hm
  have HOK := Aside0.mk (And.intro (hm5.2 p hp) (hd5.2 p hp))
  have hpd : p < e.disk.length := by omega
  have hpm : p < e.mem.length := by omega
  clear hr hb hv hd hm hd5 hm5
  obtain ⟨adm, Am2, cm2, rfl, QM, -, hmC⟩ := at_page HR.out.m p hpm
  obtain ⟨add, Ad2, cd2, rfl, QD, -, hdC⟩ := at_page HR.out.d p hpd
  obtain ⟨M, hM⟩ : ∃ M, pg e.mem p = M := ⟨_, rfl⟩
  obtain ⟨Dp, hD⟩ : ∃ Dp, pg e.disk p = Dp := ⟨_, rfl⟩
  rw [hM] at QM hmC HOK
  rw [hD] at QD hdC HOK
  have HMC := Aside0.mk hmC
  have HDC := Aside0.mk hdC
  have HMD := Aside0.mk (And.intro hM hD)
  obtain ⟨sD, hsD⟩ : ∃ sD, samePg M Dp = sD := ⟨_, rfl⟩
  have HSD := Aside0.mk hsD
  clear hmC hdC hM hD hsD
  obtain ⟨w1, hw1⟩ : ∃ w1, w.alloc (e.obox (.slice (some add) e.disk.length cd) (.slice (some adm) e.mem.length cm) (.slice Al e.log.length cl)) = w1 := ⟨_, rfl⟩
  have HW1 := Aside0.mk hw1
  have HB1 : Aside0 (Below w.heap.size w w1) := ⟨by rw [← hw1]; exact bel_alloc (Below.refl _ _) _⟩
  have HQ1 : Aside0 (EgBox w1 w.heap.size e (.slice (some add) e.disk.length cd) (.slice (some adm) e.mem.length cm) (.slice Al e.log.length cl)) := ⟨by rw [← hw1]; exact EgBox.mk1 _ _ _ _ _⟩
  clear hw1
  have x0 := HQ1.out.c0
  have x1 := HQ1.out.c1
  have x2 := HQ1.out.c2
  obtain ⟨m0, m1, m2⟩ := QM.up HB1.out
  obtain ⟨d0, d1, d2⟩ := QD.up HB1.out
  rcases beqs M.lsn (lastOfN e.log p e.log.length) with ⟨e2, b2, c2⟩ | ⟨e2, b2, c2⟩
  · rcases lts Dp.lsn M.lsn with ⟨e3, k1, k2⟩ | ⟨e3, k1, k2⟩
    all_goals
      go_enter Tryz.func75, Tryz.ntmps75
      go_wp2
      rw [HW1.out]
      refine text_start (fun w' => Below w1.heap.size w1 w') rfl rfl (by kernel_rfl) (below_drew (Below.refl _ _)) (fun HT => ?_)
      repeat (first
        | (refine text_end (fun wx hS => ?_))
        | ((with_reducible refine text_gate (f := 131) rfl ?_); refine text_call (v := .int .i64 (lastOfN e.log p e.log.length)) (args := #[.slice Al e.log.length cl, .int .i64 p]) HT rfl Tryz.func131 (by kernel_rfl) rfl rfl (by rfl) (fun _ _ _ h => h) (by simp only [List.map_toArray, List.map_cons, List.map_nil]; rfl) (fun wx hS => (l11Last_calls (p : Int) (bel_then HB1.out hS) HR.out.l).mono fun _ _ h => ⟨h.1, h.2 ▸ hS⟩) ?_; simp only [List.set_cons_zero, List.set_cons_succ])
        | ((with_reducible refine text_gate (f := 73) rfl ?_); refine text_call (v := .bool sD) (args := #[M.val Am2 cm2, Dp.val Ad2 cd2]) HT rfl Tryz.func73 (by kernel_rfl) rfl rfl (by rfl) (fun _ _ _ h => h) (by simp only [List.map_toArray, List.map_cons, List.map_nil]; rfl) (fun wx hS => (l11Same_calls (c := cm2) (d := cd2) HSD.out HOK.out.1 HOK.out.2 (bel_then HB1.out hS) HMC.out HDC.out).mono fun _ _ h => ⟨h.1, bel_then hS h.2⟩) ?_; simp only [List.set_cons_zero, List.set_cons_succ])
        | (refine text_skip HT rfl (by rfl) (fun _ _ _ h => h) ?_; simp only [List.set_cons_zero, List.set_cons_succ])
        | (refine text_val (v := ?_) HT rfl (by rfl) (fun _ _ _ h => h) (fun wx hS => ?_) ?_; rotate_left; (replace x0 := bel_cell hS x0; replace x1 := bel_cell hS x1; replace x2 := bel_cell hS x2; replace m0 := bel_cell hS m0; replace m1 := bel_cell hS m1; replace m2 := bel_cell hS m2; replace d0 := bel_cell hS d0; replace d1 := bel_cell hS d1; replace d2 := bel_cell hS d2; go_simp; with_reducible rfl); rotate_left; simp only [List.set_cons_zero, List.set_cons_succ]))
      go_wp2
      go_ret
      exact ⟨ret_bool (by rw [← HV.out, freshB, HMD.out.1, HMD.out.2, HSD.out]; simp [b2, k1]), bel_then HB1.out hS⟩
  · go_enter Tryz.func75, Tryz.ntmps75
    go_wp2
    rw [HW1.out]
    refine text_start (fun w' => Below w1.heap.size w1 w') rfl rfl (by kernel_rfl) (below_drew (Below.refl _ _)) (fun HT => ?_)
    repeat (first
      | (refine text_end (fun wx hS => ?_))
      | ((with_reducible refine text_gate (f := 131) rfl ?_); refine text_call (v := .int .i64 (lastOfN e.log p e.log.length)) (args := #[.slice Al e.log.length cl, .int .i64 p]) HT rfl Tryz.func131 (by kernel_rfl) rfl rfl (by rfl) (fun _ _ _ h => h) (by simp only [List.map_toArray, List.map_cons, List.map_nil]; rfl) (fun wx hS => (l11Last_calls (p : Int) (bel_then HB1.out hS) HR.out.l).mono fun _ _ h => ⟨h.1, h.2 ▸ hS⟩) ?_; simp only [List.set_cons_zero, List.set_cons_succ])
      | (refine text_skip HT rfl (by rfl) (fun _ _ _ h => h) ?_; simp only [List.set_cons_zero, List.set_cons_succ])
      | (refine text_val (v := ?_) HT rfl (by rfl) (fun _ _ _ h => h) (fun wx hS => ?_) ?_; rotate_left; (replace x0 := bel_cell hS x0; replace x1 := bel_cell hS x1; replace x2 := bel_cell hS x2; replace m0 := bel_cell hS m0; replace m1 := bel_cell hS m1; replace m2 := bel_cell hS m2; replace d0 := bel_cell hS d0; replace d1 := bel_cell hS d1; replace d2 := bel_cell hS d2; go_simp; with_reducible rfl); rotate_left; simp only [List.set_cons_zero, List.set_cons_succ]))
    go_wp2
    go_ret
    exact ⟨ret_bool (by rw [← HV.out, freshB, HMD.out.1, HMD.out.2, HSD.out]; simp [b2]), bel_then HB1.out hS⟩
/-- How many of the last j transactions hold a page. -/
def heldR (l : List Rec) (p : Int) : Nat → Nat
  | 0 => 0
  | j + 1 => (if hasN l (lastN l (3 - j : Int) l.length) p = true then 1 else 0) + heldR l p j
theorem heldR_le (l : List Rec) (p : Int) : ∀ j, heldR l p j ≤ j
  | 0 => Nat.le_refl _
  | j + 1 => by
    have := heldR_le l p j
    unfold heldR
    split <;> omega
theorem held_lock (l : List Rec) (p : Int) : (lockF l p (openR l 3) 0 true).2 = decide (heldR l p 3 ≤ 1) := by
  have e1 : (3 - ((2 : Nat) : Int)) = 1 := rfl
  have e2 : (3 - ((1 : Nat) : Int)) = 2 := rfl
  have e3 : (3 - ((0 : Nat) : Int)) = 3 := rfl
  rw [openR_three, heldR, heldR, heldR, heldR, e1, e2, e3]
  by_cases h1 : lastN l 1 l.length = 0 <;> by_cases h2 : lastN l 2 l.length = 0 <;> by_cases h3 : lastN l 3 l.length = 0 <;> cases k1 : hasN l (lastN l 1 l.length) p <;> cases k2 : hasN l (lastN l 2 l.length) p <;> cases k3 : hasN l (lastN l 3 l.length) p <;> simp_all [lockF, hasN_zero]
end Go.Proofs.YtlmlcnokiipilaaGreat

/- The reference's EngineOk. -/
namespace Go.Proofs.YtlmlcnokiipilaaGreat
open Go.RowKit Go.Proofs.YtlmlcnokiipilaaGreatW.PrintWords Go.Proofs.YtlmlcnokiipilaaGreatW.PrintLast Go.Proofs.YtlmlcnokiipilaaGreatW.PrintMore

set_option maxRecDepth 100000 in
set_option maxHeartbeats 16000000 in
theorem specEngineOk_calls {w0 w : World} {e : Eng} {Ad Am Al : Option Addr} {cd cm cl : Nat} {b : Bool} (hv : eOk e = b) (hcl : e.log.length ≤ cl) (hb : Below w0.heap.size w0 w) (hr : EngC w0 e Ad Am Al) : Calls Tryz.prog 31 #[e.val Ad Am Al cd cm cl] w fun x w' => x = .returned (.bool b) ∧ Below w.heap.size w w' := by
  have HR := Aside0.mk (hr.up hb)
  have HV := Aside0.mk hv
  have hlm := (C_len HR.out.l).2
  clear hr hb hv
  obtain ⟨w1, hw1⟩ : ∃ w1, w.alloc (e.obox (.slice Ad e.disk.length cd) (.slice Am e.mem.length cm) (.slice Al e.log.length cl)) = w1 := ⟨_, rfl⟩
  have HW1 := Aside0.mk hw1
  have HB1 : Aside0 (Below w.heap.size w w1) := ⟨by rw [← hw1]; exact bel_alloc (Below.refl _ _) _⟩
  have HQ1 : Aside0 (EgBox w1 w.heap.size e (.slice Ad e.disk.length cd) (.slice Am e.mem.length cm) (.slice Al e.log.length cl)) := ⟨by rw [← hw1]; exact EgBox.mk1 _ _ _ _ _⟩
  clear hw1
  have HX := Aside0.mk (Below.refl w1.heap.size w1)
  have x0 := HQ1.out.c0
  have x1 := HQ1.out.c1
  have x2 := HQ1.out.c2
  have x3 := HQ1.out.c3
  have x4 := HQ1.out.c4
  cases hvd : psOk e.disk
  · have HVd := Aside0.mk hvd
    clear hvd
    go_enter Tryz.func31, Tryz.ntmps31
    go_wp2_with (first | (go_at_call 68; rw [HW1.out]; refine (l11Good_calls (c := cd) HVd.out (bel_then HB1.out HX.out) HR.out.d).mono ?_; rintro x w9 ⟨rfl, hb9⟩; have HX := Aside0.mk (bel_then HX.out hb9); replace x0 := bel_cell hb9 x0; replace x1 := bel_cell hb9 x1; replace x2 := bel_cell hb9 x2; replace x3 := bel_cell hb9 x3; replace x4 := bel_cell hb9 x4; clear hb9))
    go_ret
    exact ⟨ret_bool (by rw [← HV.out, eOk, HVd.out]; simp), bel_then HB1.out HX.out⟩
  · have HVd := Aside0.mk hvd
    clear hvd
    cases hvm : psOk e.mem
    · have HVm := Aside0.mk hvm
      clear hvm
      go_enter Tryz.func31, Tryz.ntmps31
      go_wp2_with (first | (go_at_call 68; rw [HW1.out]; refine (l11Good_calls (c := cd) HVd.out (bel_then HB1.out HX.out) HR.out.d).mono ?_; rintro x w9 ⟨rfl, hb9⟩; have HX := Aside0.mk (bel_then HX.out hb9); replace x0 := bel_cell hb9 x0; replace x1 := bel_cell hb9 x1; replace x2 := bel_cell hb9 x2; replace x3 := bel_cell hb9 x3; replace x4 := bel_cell hb9 x4; clear hb9) | (go_at_call 68; refine (l11Good_calls (c := cm) HVm.out (bel_then HB1.out HX.out) HR.out.m).mono ?_; rintro x w9 ⟨rfl, hb9⟩; have HX := Aside0.mk (bel_then HX.out hb9); replace x0 := bel_cell hb9 x0; replace x1 := bel_cell hb9 x1; replace x2 := bel_cell hb9 x2; replace x3 := bel_cell hb9 x3; replace x4 := bel_cell hb9 x4; clear hb9))
      go_ret
      exact ⟨ret_bool (by rw [← HV.out, eOk, HVd.out, HVm.out]; simp), bel_then HB1.out HX.out⟩
    · have HVm := Aside0.mk hvm
      clear hvm
      cases hvl : logOk e.log
      · have HVl := Aside0.mk hvl
        clear hvl
        go_enter Tryz.func31, Tryz.ntmps31
        go_wp2_with (first | (go_at_call 68; rw [HW1.out]; refine (l11Good_calls (c := cd) HVd.out (bel_then HB1.out HX.out) HR.out.d).mono ?_; rintro x w9 ⟨rfl, hb9⟩; have HX := Aside0.mk (bel_then HX.out hb9); replace x0 := bel_cell hb9 x0; replace x1 := bel_cell hb9 x1; replace x2 := bel_cell hb9 x2; replace x3 := bel_cell hb9 x3; replace x4 := bel_cell hb9 x4; clear hb9) | (go_at_call 68; refine (l11Good_calls (c := cm) HVm.out (bel_then HB1.out HX.out) HR.out.m).mono ?_; rintro x w9 ⟨rfl, hb9⟩; have HX := Aside0.mk (bel_then HX.out hb9); replace x0 := bel_cell hb9 x0; replace x1 := bel_cell hb9 x1; replace x2 := bel_cell hb9 x2; replace x3 := bel_cell hb9 x3; replace x4 := bel_cell hb9 x4; clear hb9) | (go_at_call 69; refine (specLogOk_calls (c := cl) (Below.refl _ _) (C_up HR.out.l (bel_then HB1.out HX.out)) hcl).mono ?_; rintro x w9 ⟨rfl, hb9⟩; rw [HVl.out]; have HX := Aside0.mk (bel_then HX.out hb9); replace x0 := bel_cell hb9 x0; replace x1 := bel_cell hb9 x1; replace x2 := bel_cell hb9 x2; replace x3 := bel_cell hb9 x3; replace x4 := bel_cell hb9 x4; clear hb9))
        go_ret
        exact ⟨ret_bool (by rw [← HV.out, eOk, HVd.out, HVm.out, HVl.out]; simp), bel_then HB1.out HX.out⟩
      · have HVl := Aside0.mk hvl
        clear hvl
        have hm150 := logOk_len HVl.out
        cases hvs : inB e.safe 0 e.log.length
        · have HVs := Aside0.mk hvs
          clear hvs
          go_enter Tryz.func31, Tryz.ntmps31
          go_wp2_with (first | (go_at_call 68; rw [HW1.out]; refine (l11Good_calls (c := cd) HVd.out (bel_then HB1.out HX.out) HR.out.d).mono ?_; rintro x w9 ⟨rfl, hb9⟩; have HX := Aside0.mk (bel_then HX.out hb9); replace x0 := bel_cell hb9 x0; replace x1 := bel_cell hb9 x1; replace x2 := bel_cell hb9 x2; replace x3 := bel_cell hb9 x3; replace x4 := bel_cell hb9 x4; clear hb9) | (go_at_call 68; refine (l11Good_calls (c := cm) HVm.out (bel_then HB1.out HX.out) HR.out.m).mono ?_; rintro x w9 ⟨rfl, hb9⟩; have HX := Aside0.mk (bel_then HX.out hb9); replace x0 := bel_cell hb9 x0; replace x1 := bel_cell hb9 x1; replace x2 := bel_cell hb9 x2; replace x3 := bel_cell hb9 x3; replace x4 := bel_cell hb9 x4; clear hb9) | (go_at_call 69; refine (specLogOk_calls (c := cl) (Below.refl _ _) (C_up HR.out.l (bel_then HB1.out HX.out)) hcl).mono ?_; rintro x w9 ⟨rfl, hb9⟩; rw [HVl.out]; have HX := Aside0.mk (bel_then HX.out hb9); replace x0 := bel_cell hb9 x0; replace x1 := bel_cell hb9 x1; replace x2 := bel_cell hb9 x2; replace x3 := bel_cell hb9 x3; replace x4 := bel_cell hb9 x4; clear hb9) | (go_at_call 70; refine (l6In_is HVs.out _).mono ?_; rintro x w9 ⟨rfl, rfl⟩))
          go_ret
          exact ⟨ret_bool (by rw [← HV.out, eOk, HVd.out, HVm.out, HVl.out, HVs.out]; simp), bel_then HB1.out HX.out⟩
        · have HVs := Aside0.mk hvs
          clear hvs
          have HS01 := Aside0.mk (inB_iff.1 HVs.out)
          have HGR := Aside0.mk (geo_redo (psOk_geo HVd.out) (fun k hk => (logOk_facts HVl.out hk).ok) e.log.length (Nat.le_refl _))
          obtain ⟨nd, hnd⟩ : ∃ nd, need e.log = nd := ⟨_, rfl⟩
          have hnd453 := need_le hm150
          rw [hnd] at hnd453
          have HND := Aside0.mk hnd
          clear hnd
          go_enter Tryz.func31, Tryz.ntmps31
          go_wp2_with (first | (go_at_call 68; rw [HW1.out]; refine (l11Good_calls (c := cd) HVd.out (bel_then HB1.out HX.out) HR.out.d).mono ?_; rintro x w9 ⟨rfl, hb9⟩; have HX := Aside0.mk (bel_then HX.out hb9); replace x0 := bel_cell hb9 x0; replace x1 := bel_cell hb9 x1; replace x2 := bel_cell hb9 x2; replace x3 := bel_cell hb9 x3; replace x4 := bel_cell hb9 x4; clear hb9) | (go_at_call 68; refine (l11Good_calls (c := cm) HVm.out (bel_then HB1.out HX.out) HR.out.m).mono ?_; rintro x w9 ⟨rfl, hb9⟩; have HX := Aside0.mk (bel_then HX.out hb9); replace x0 := bel_cell hb9 x0; replace x1 := bel_cell hb9 x1; replace x2 := bel_cell hb9 x2; replace x3 := bel_cell hb9 x3; replace x4 := bel_cell hb9 x4; clear hb9) | (go_at_call 69; refine (specLogOk_calls (c := cl) (Below.refl _ _) (C_up HR.out.l (bel_then HB1.out HX.out)) hcl).mono ?_; rintro x w9 ⟨rfl, hb9⟩; rw [HVl.out]; have HX := Aside0.mk (bel_then HX.out hb9); replace x0 := bel_cell hb9 x0; replace x1 := bel_cell hb9 x1; replace x2 := bel_cell hb9 x2; replace x3 := bel_cell hb9 x3; replace x4 := bel_cell hb9 x4; clear hb9) | (go_at_call 70; refine (l6In_is HVs.out _).mono ?_; rintro x w9 ⟨rfl, rfl⟩) | (go_at_call 71; refine (l11Redo_calls (c := cd) (d := cl) (psOk_geo HVd.out) (fun k hk => (logOk_facts HVl.out hk).ok) hm150 (bel_then HB1.out HX.out) HR.out.d HR.out.l).mono ?_; rintro x w9 ⟨u, rfl, hO, hb9⟩; obtain ⟨g, cap, rfl, hgb, hgl⟩ := psS_form hO (by rw [HGR.out.1]; omega); rw [HGR.out.1] at hO ⊢; have HO := Aside0.mk hO; have HGB := Aside0.mk (And.intro hgb hgl); clear hO hgb hgl; have HX := Aside0.mk (bel_then HX.out hb9); replace x0 := bel_cell hb9 x0; replace x1 := bel_cell hb9 x1; replace x2 := bel_cell hb9 x2; replace x3 := bel_cell hb9 x3; replace x4 := bel_cell hb9 x4; clear hb9))
          obtain ⟨R, hRR⟩ : ∃ R, redoN e.disk e.log e.log.length = R := ⟨_, rfl⟩
          rw [hRR] at HO HGR
          have HRR := Aside0.mk hRR
          clear hRR
          have hwr : IntKind.i64.wrap ((e.log.length : Int) + nd) = (e.log.length : Int) + nd := by simp (disch := omega) only [IntWalk.i64_in]
          rcases lts 150 ((e.log.length : Int) + nd) with ⟨ef, f1, f2⟩ | ⟨ef, f1, f2⟩
          · refine text_start (fun w' => Below w9.heap.size w9 w') rfl rfl (by kernel_rfl) (below_drew (Below.refl _ _)) (fun HT => ?_)
            repeat (first
              | (refine text_end (fun wx hS => ?_))
              | ((with_reducible refine text_gate (f := 32) rfl ?_); refine text_call (v := .int .i64 nd) (args := #[.slice Al e.log.length cl]) HT rfl Tryz.func32 (by kernel_rfl) rfl rfl (by rfl) (fun _ _ _ h => h) (by simp only [List.map_toArray, List.map_cons, List.map_nil]; rfl) (fun wx hS => (HND.out ▸ l11Need_calls (w0 := w9) hS (C_up HR.out.l (bel_then HB1.out HX.out)) HVl.out : Calls Tryz.prog 32 #[.slice Al e.log.length cl] wx fun e w' => e = .returned (.int .i64 nd) ∧ Below w9.heap.size w9 w')) ?_; simp only [List.set_cons_zero, List.set_cons_succ])
              | (refine text_skip HT rfl (by rfl) (fun _ _ _ h => h) ?_; simp only [List.set_cons_zero, List.set_cons_succ])
              | (refine text_val (v := ?_) HT rfl (by rfl) (fun _ _ _ h => h) (fun wx hS => ?_) ?_; rotate_left; (replace x2 := bel_cell hS x2; go_simp; with_reducible rfl); rotate_left; simp only [List.set_cons_zero, List.set_cons_succ]))
            have HX := Aside0.mk (bel_then HX.out hS)
            replace HO := Aside0.mk (Kd.S_below HO.out hS)
            replace x0 := bel_cell hS x0; replace x1 := bel_cell hS x1; replace x2 := bel_cell hS x2; replace x3 := bel_cell hS x3; replace x4 := bel_cell hS x4
            clear hS
            go_wp2
            go_ret
            exact ⟨ret_bool (by rw [← HV.out, eOk, HVd.out, HVm.out, HVl.out, HVs.out, fitsB, HND.out, decide_eq_false (by have := ef.out; omega)]; simp), bel_then HB1.out HX.out⟩
          refine text_start (fun w' => Below w9.heap.size w9 w') rfl rfl (by kernel_rfl) (below_drew (Below.refl _ _)) (fun HT => ?_)
          repeat (first
            | (refine text_end (fun wx hS => ?_))
            | ((with_reducible refine text_gate (f := 32) rfl ?_); refine text_call (v := .int .i64 nd) (args := #[.slice Al e.log.length cl]) HT rfl Tryz.func32 (by kernel_rfl) rfl rfl (by rfl) (fun _ _ _ h => h) (by simp only [List.map_toArray, List.map_cons, List.map_nil]; rfl) (fun wx hS => (HND.out ▸ l11Need_calls (w0 := w9) hS (C_up HR.out.l (bel_then HB1.out HX.out)) HVl.out : Calls Tryz.prog 32 #[.slice Al e.log.length cl] wx fun e w' => e = .returned (.int .i64 nd) ∧ Below w9.heap.size w9 w')) ?_; simp only [List.set_cons_zero, List.set_cons_succ])
            | (refine text_skip HT rfl (by rfl) (fun _ _ _ h => h) ?_; simp only [List.set_cons_zero, List.set_cons_succ])
            | (refine text_val (v := ?_) HT rfl (by rfl) (fun _ _ _ h => h) (fun wx hS => ?_) ?_; rotate_left; (replace x2 := bel_cell hS x2; go_simp; with_reducible rfl); rotate_left; simp only [List.set_cons_zero, List.set_cons_succ]))
          have HX := Aside0.mk (bel_then HX.out hS)
          replace HO := Aside0.mk (Kd.S_below HO.out hS)
          replace x0 := bel_cell hS x0; replace x1 := bel_cell hS x1; replace x2 := bel_cell hS x2; replace x3 := bel_cell hS x3; replace x4 := bel_cell hS x4
          clear hS
          have HVf := Aside0.mk (show fitsB e.log = true by rw [fitsB, HND.out, decide_eq_true_eq]; have := ef.out; omega)
          obtain ⟨s, hs⟩ : ∃ s : Nat, e.safe = s := ⟨e.safe.toNat, by have := HS01.out; omega⟩
          have HS := Aside0.mk hs
          have hs2 : s ≤ e.log.length := by have := HS01.out; omega
          clear hs
          obtain ⟨pv, hpv⟩ : ∃ pv, prefsB e (e.log.length + 1 - e.safe.toNat) e.safe.toNat = pv := ⟨_, rfl⟩
          have HPV := Aside0.mk hpv
          clear hpv
          go_wp2
          clear f1 f2 ef
          go_loopw [4] (fun i wr => ∃ n : Nat, s ≤ n ∧ n ≤ e.log.length + 1 ∧ i = .int .i64 (n : Int) ∧ Aside0 (prefsB e (e.log.length + 1 - n) n = pv) ∧ Aside0 (Below wx.heap.size wx wr)) (fun i _ => (e.log.length + 1 - intOf i).toNat)
          case atStart => exact ⟨s, Nat.le_refl _, by omega, by rw [HS.out], ⟨by have := HPV.out; rw [HS.out] at this; exact this⟩, ⟨Below.refl _ _⟩⟩
          case round => as_aux_lemma =>
            obtain ⟨n, hn1, hn2, rfl, HK, HW⟩ := hrel
            have HWW := Aside0.mk (bel_then HB1.out (bel_then HX.out HW.out))
            replace x0 := bel_cell HW.out x0; replace x1 := bel_cell HW.out x1; replace x2 := bel_cell HW.out x2; replace x3 := bel_cell HW.out x3; replace x4 := bel_cell HW.out x4
            by_cases hlt : n ≤ e.log.length
            · have hl : (e.log.take n).length = n := by rw [List.length_take]; omega
              obtain ⟨ps, hps⟩ : ∃ ps, redoN e.disk (e.log.take n) (e.log.take n).length = ps := ⟨_, rfl⟩
              obtain ⟨ok, hok⟩ : ∃ ok, psOk ps = ok := ⟨_, rfl⟩
              have hgeo : geo ps := by rw [← hps]; exact geo_redo (psOk_geo HVd.out) (take_ok HVl.out n) _ (Nat.le_refl _)
              have HGP := Aside0.mk hgeo
              have HPS := Aside0.mk (And.intro hps hok)
              have hcall : ∀ w2, Below wr.heap.size wr w2 → Calls Tryz.prog 71 #[.slice Ad e.disk.length cd, .slice Al n cl] w2 (RetPs w2 ps) := fun w2 hb => by
                have h := l11Redo_calls (c := cd) (d := cl) (psOk_geo HVd.out) (take_ok HVl.out n) (by omega) hb (C_up HR.out.d HWW.out) (take_C (C_up HR.out.l HWW.out) hlt)
                rw [hps, hl] at h
                exact h
              have HLn := Aside0.mk hl
              have hncl : n ≤ cl := Nat.le_trans hlt hcl
              clear hps hok hl hgeo
              go_wp2
              refine reg_start (fun lx a w2 => Below wr.heap.size wr w2 ∧ Sl 6 62 (fun v w2 => OwnPs w2 wr.heap.size v ps) lx a w2) 8 rfl (by kernel_rfl) (⟨below_drew (Below.refl _ _), sl_start⟩) (fun HT => ?_)
              refine reg_val (i := 0) (v := ?_) HT rfl (by kernel_rfl) rfl (keeps_and keeps_world (keeps_sl rfl rfl)) (by rfl) (fun _ _ _ h => h) (fun lx ax wx hS => ?_) ?_; rotate_left; (have hbx := hS.1; clear hS; replace x0 := bel_cell hbx x0; replace x2 := bel_cell hbx x2; go_simp; with_reducible rfl); rotate_left; simp only [List.set_cons_zero, List.set_cons_succ]
              refine reg_val (i := 1) (v := ?_) HT rfl (by kernel_rfl) rfl (keeps_and keeps_world (keeps_sl rfl rfl)) (by rfl) (fun _ _ _ h => h) (fun lx ax wx hS => ?_) ?_; rotate_left; (have hbx := hS.1; clear hS; replace x0 := bel_cell hbx x0; replace x2 := bel_cell hbx x2; go_simp; with_reducible rfl); rotate_left; simp only [List.set_cons_zero, List.set_cons_succ]
              refine reg_val (i := 2) (v := ?_) HT rfl (by kernel_rfl) rfl (keeps_and keeps_world (keeps_sl rfl rfl)) (by rfl) (fun _ _ _ h => h) (fun lx ax wx hS => ?_) ?_; rotate_left; (have hbx := hS.1; clear hS; replace x0 := bel_cell hbx x0; replace x2 := bel_cell hbx x2; go_simp; with_reducible rfl); rotate_left; simp only [List.set_cons_zero, List.set_cons_succ]
              refine reg_val (i := 3) (v := ?_) HT rfl (by kernel_rfl) rfl (keeps_and keeps_world (keeps_sl rfl rfl)) (by rfl) (fun _ _ _ h => h) (fun lx ax wx hS => ?_) ?_; rotate_left; (have hbx := hS.1; clear hS; replace x0 := bel_cell hbx x0; replace x2 := bel_cell hbx x2; go_simp; with_reducible rfl); rotate_left; simp only [List.set_cons_zero, List.set_cons_succ]
              refine reg_val (i := 4) (v := ?_) HT rfl (by kernel_rfl) rfl (keeps_and keeps_world (keeps_sl rfl rfl)) (by rfl) (fun _ _ _ h => h) (fun lx ax wx hS => ?_) ?_; rotate_left; (have hbx := hS.1; clear hS; replace x0 := bel_cell hbx x0; replace x2 := bel_cell hbx x2; go_simp; with_reducible rfl); rotate_left; simp only [List.set_cons_zero, List.set_cons_succ]
              refine reg_val (i := 5) (v := ?_) HT rfl (by kernel_rfl) rfl (keeps_and keeps_world (keeps_sl rfl rfl)) (by rfl) (fun _ _ _ h => h) (fun lx ax wx hS => ?_) ?_; rotate_left; (have hbx := hS.1; clear hS; replace x0 := bel_cell hbx x0; replace x2 := bel_cell hbx x2; go_simp; with_reducible rfl); rotate_left; simp only [List.set_cons_zero, List.set_cons_succ]
              refine reg_only (i := 6) (f := 71) (args := #[.slice Ad e.disk.length cd, .slice Al n cl]) (fun v => True) rfl (by kernel_rfl) rfl Tryz.func71 (by kernel_rfl) rfl rfl (by rfl) (by simp only [List.map_toArray, List.map_cons, List.map_nil]; rfl) (fun wx hS => (hcall wx hS.1).mono (by rintro e w6 ⟨u, rfl, ho, hb⟩; exact ⟨_, rfl, trivial, bel_then hS.1 hb, fun _ => Kd.S_lower ho hS.1.size⟩)) (fun vx hg => ?_); simp only [List.set_cons_zero, List.set_cons_succ]
              rename_i u; clear hg
              refine reg_val (i := 7) (v := ?_) HT rfl (by kernel_rfl) rfl (keeps_and keeps_world (keeps_sl rfl rfl)) (by rfl) (fun _ _ _ h => h) (fun lx ax wx hS => ?_) ?_; rotate_left; (go_simp; with_reducible rfl); rotate_left; simp only [List.set_cons_zero, List.set_cons_succ]
              refine reg_end (by kernel_rfl) (fun w2 hS => ?_)
              obtain ⟨h1, h2⟩ := hS
              have hown : OwnPs w2 wr.heap.size vx ps := h2 (by kernel_rfl)
              obtain ⟨g2, cap2, rfl, hgb, hgl⟩ := psS_form hown (by rw [HGP.out.1]; omega)
              have HO2 := Aside0.mk (Kd.S_R hown)
              have HX2 := Aside0.mk h1
              rw [HGP.out.1] at HO2 ⊢
              replace x0 := bel_cell h1 x0; replace x1 := bel_cell h1 x1; replace x2 := bel_cell h1 x2; replace x3 := bel_cell h1 x3; replace x4 := bel_cell h1 x4
              clear h1 h2 hown hcall hgb hgl
              have HP := Aside0.mk (show prefsB e (e.log.length + 1 - n) n = (prefB e n && prefsB e (e.log.length + 1 - (n + 1)) (n + 1)) by rw [show e.log.length + 1 - n = (e.log.length + 1 - (n + 1)) + 1 by omega, prefsB])
              cases ok
              · go_wp2_with (go_at_call 68; refine (l11Good_n HGP.out.1 HPS.out.2 (Below.refl _ _) (Kd.R_reads' HO2.out).2.2).mono ?_; rintro x w7 ⟨rfl, hb7⟩; have HB7 := Aside0.mk (bel_then HX2.out hb7); clear hb7)
                go_ret
                exact ⟨ret_bool (by rw [← HV.out, eOk, HVd.out, HVm.out, HVl.out, HVs.out, HVf.out, HPV.out, ← HK.out, HP.out, prefB, HPS.out.1, HPS.out.2]; simp), bel_then HWW.out HB7.out⟩
              · obtain ⟨ub, hub⟩ : ∃ ub, undoneB (e.log.take n) ps = ub := ⟨_, rfl⟩
                have hcall2 : ∀ w8, Below w2.heap.size w2 w8 → Calls Tryz.prog 72 #[.slice (some ⟨g2, 0, none⟩) 5 cap2, .slice Al n cl] w8 fun x w' => x = .returned (.bool ub) ∧ Below wr.heap.size wr w' := fun w8 hb8 => by
                  have h := l11Undone_calls (d := cl) hub HGP.out (logOk_take HVl.out n) (Kd.R_below HO2.out hb8) (bel_then HX2.out hb8) (take_C (C_up HR.out.l HWW.out) hlt)
                  rw [HLn.out] at h
                  exact h
                have HUB := Aside0.mk hub
                clear hub
                cases ub
                all_goals
                  go_wp2_with (first | (go_at_call 68; refine (l11Good_n HGP.out.1 HPS.out.2 (Below.refl _ _) (Kd.R_reads' HO2.out).2.2).mono ?_; rintro x w7 ⟨rfl, hb7⟩; have HB7 := Aside0.mk hb7; replace x0 := bel_cell hb7 x0; replace x1 := bel_cell hb7 x1; replace x2 := bel_cell hb7 x2; replace x3 := bel_cell hb7 x3; replace x4 := bel_cell hb7 x4; clear hb7) | (go_at_call 72; refine (hcall2 _ HB7.out).mono ?_; rintro x w8 ⟨rfl, hb8⟩; have HB8 := Aside0.mk hb8; clear hb8))
                · go_ret
                  exact ⟨ret_bool (by rw [← HV.out, eOk, HVd.out, HVm.out, HVl.out, HVs.out, HVf.out, HPV.out, ← HK.out, HP.out, prefB, HPS.out.1, HPS.out.2, HUB.out]; simp), bel_then HWW.out HB8.out⟩
                · go_roundw
                  case rel => exact ⟨n + 1, by omega, by omega, by go_num, ⟨by rw [← HK.out, HP.out, prefB, HPS.out.1, HPS.out.2, HUB.out]; rfl⟩, ⟨bel_then HW.out HB8.out⟩⟩
                  case measure => simp [intOf]; omega
            · have HPT := Aside0.mk (show pv = true by rw [← HK.out, show e.log.length + 1 - n = 0 by omega]; rfl)
              have HPS := Aside0.mk (show psOk R = true by
                have h := HPV.out
                rw [HPT.out, prefsB_iff] at h
                have h2 := h e.log.length (by have := HS01.out; omega) (by have := HS01.out; omega)
                rw [prefB, List.take_length, Bool.and_eq_true, HRR.out] at h2
                exact h2.1)
              have HP5 := Aside0.mk (show pgsB e 5 0 = b by rw [← HV.out, eOk, HVd.out, HVm.out, HVl.out, HVs.out, HVf.out, HPV.out, HPT.out, ← pgsB_all]; simp)
              go_wp2
              replace HO := Aside0.mk (Kd.S_below HO.out HW.out)
              obtain ⟨w5, rfl⟩ : ∃ w5, w5 = wr := ⟨_, rfl⟩
              go_loopw [6] (fun i wr => ∃ k : Nat, k ≤ 5 ∧ i = .int .i64 (k : Int) ∧ Aside0 (pgsB e (5 - k) k = b) ∧ Aside0 (Below w5.heap.size w5 wr)) (fun i _ => (5 - intOf i).toNat)
              case atStart => exact ⟨0, by omega, rfl, HP5, ⟨Below.refl _ _⟩⟩
              case round => as_aux_lemma =>
                obtain ⟨k, hk, rfl, HK2, HW2⟩ := hrel
                have HWQ := Aside0.mk (bel_then HWW.out HW2.out)
                have y0 := bel_cell HW2.out x0
                have y1 := bel_cell HW2.out x1
                have y2 := bel_cell HW2.out x2
                have y3 := bel_cell HW2.out x3
                have y4 := bel_cell HW2.out x4
                clear x0 x1 x2 x3 x4
                by_cases hlt : k < 5
                · have hd5 := psOk_iff.1 HVd.out
                  have hm5 := psOk_iff.1 HVm.out
                  have hr5 := psOk_iff.1 HPS.out
                  have hpd : k < e.disk.length := by omega
                  have hpm : k < e.mem.length := by omega
                  obtain ⟨adm, Am2, cm2, rfl, QM, -, hmC⟩ := at_page HR.out.m k hpm
                  obtain ⟨add, Ad2, cd2, rfl, QD, -, hdC⟩ := at_page HR.out.d k hpd
                  obtain ⟨M, hM⟩ : ∃ M, pg e.mem k = M := ⟨_, rfl⟩
                  obtain ⟨Dp, hD⟩ : ∃ Dp, pg e.disk k = Dp := ⟨_, rfl⟩
                  obtain ⟨q, hq⟩ : ∃ q, pg R k = q := ⟨_, rfl⟩
                  obtain ⟨m0, m1, m2⟩ := QM.up HWQ.out
                  obtain ⟨d0, d1, d2⟩ := QD.up HWQ.out
                  obtain ⟨A3, c3, q0, q1, q2, qC, -⟩ := psS_at (Kd.S_below HO.out HW2.out) k hlt
                  have hoks := And.intro (hm5.2 k hlt) (And.intro (hd5.2 k hlt) (hr5.2 k hlt))
                  have hqd : (pg e.disk k).lsn ≤ (pg R k).lsn := by
                    rw [← HRR.out, pg_redo hd5.1 (fun k hk => (logOk_facts HVl.out hk).ok) k _ (Nat.le_refl _)]
                    exact (redo1_lsn _).1
                  rw [hM] at m0 m1 m2 hmC hoks
                  rw [hD] at d0 d1 d2 hdC hoks hqd
                  rw [hq] at q0 q1 q2 qC hoks hqd
                  have HOKs := Aside0.mk hoks
                  have HQD := Aside0.mk hqd
                  have HMD := Aside0.mk (And.intro hM hD)
                  have HMC := Aside0.mk hmC
                  have HDC := Aside0.mk hdC
                  have HQC := Aside0.mk qC
                  have HQQ := Aside0.mk hq
                  have HPG := Aside0.mk (show pgsB e (5 - k) k = (pageB e k && pgsB e (5 - (k + 1)) (k + 1)) by rw [show 5 - k = (5 - (k + 1)) + 1 by omega, pgsB])
                  have HPB := Aside0.mk (show pageB e k = (decide (heldR e.log k 3 ≤ 1) && decide (Dp.lsn ≤ e.safe) && (if e.down = true then samePg M Dp else memB e k)) by rw [pageB, held_lock, hM, hD])
                  obtain ⟨dn, hdn⟩ : ∃ dn, e.down = dn := ⟨_, rfl⟩
                  rw [hdn] at y4
                  have HDN := Aside0.mk hdn
                  clear hM hD hq hmC hdC QM QD hdn qC hoks hqd hd5 hm5 hr5
                  rcases lts e.safe Dp.lsn with ⟨e3, k1, k2⟩ | ⟨e3, k1, k2⟩
                  · go_wp2
                    refine text_start (fun w' => Below wr.heap.size wr w') rfl rfl (by kernel_rfl) (below_drew (Below.refl _ _)) (fun HT => ?_)
                    repeat (first
                      | (refine text_end (fun wx hS => ?_))
                      | (refine text_skip HT rfl (by rfl) (fun _ _ _ h => h) ?_; simp only [List.set_cons_zero, List.set_cons_succ])
                      | (refine text_val (v := ?_) HT rfl (by rfl) (fun _ _ _ h => h) (fun wx hS => ?_) ?_; rotate_left; (replace y0 := bel_cell hS y0; replace y3 := bel_cell hS y3; replace d0 := bel_cell hS d0; go_simp; with_reducible rfl); rotate_left; simp only [List.set_cons_zero, List.set_cons_succ]))
                    go_wp2
                    go_ret
                    exact ⟨ret_bool (by rw [← HK2.out, HPG.out, HPB.out, k2]; simp), bel_then HWQ.out hS⟩
                  · have HPC := Aside0.mk (show pageB e k = (decide (heldR e.log k 3 ≤ 1) && (if e.down = true then samePg M Dp else memB e k)) by rw [HPB.out, k2]; simp)
                    cases dn
                    · as_aux_lemma =>
                        obtain ⟨ldb, hld⟩ : ∃ ldb, loadR e.log k 3 = ldb := ⟨_, rfl⟩
                        have HLD := Aside0.mk hld
                        have HPD := Aside0.mk (show pageB e k = (decide (heldR e.log k 3 ≤ 1) && memB e k) by rw [HPC.out, if_neg (by rw [HDN.out]; simp)])
                        clear hld
                        cases ldb
                        · as_aux_lemma =>
                            obtain ⟨s2, hs2⟩ : ∃ s2, samePg M q = s2 := ⟨_, rfl⟩
                            have HS2 := Aside0.mk hs2
                            have HPE := Aside0.mk (show memB e k = s2 by rw [memB, HLD.out, HRR.out, HMD.out.1, HQQ.out, hs2]; simp)
                            clear hs2
                            go_wp2
                            refine text_start (fun w' => Below wr.heap.size wr w') rfl rfl (by kernel_rfl) (below_drew (Below.refl _ _)) (fun HT => ?_)
                            repeat (first
                              | (refine text_end (fun wx hS => ?_))
                              | ((with_reducible refine text_gate (f := 74) rfl ?_); refine text_call (v := .bool false) (args := #[.slice Al e.log.length cl, .int .i64 k]) HT rfl Tryz.func74 (by kernel_rfl) rfl rfl (by rfl) (fun _ _ _ h => h) (by simp only [List.map_toArray, List.map_cons, List.map_nil]; rfl) (fun wx hS => (l11Loaded_calls (c := cl) HLD.out (bel_then HWQ.out hS) HR.out.l HVl.out).mono fun _ _ h => ⟨h.1, h.2 ▸ hS⟩) ?_; simp only [List.set_cons_zero, List.set_cons_succ])
                              | ((with_reducible refine text_gate (f := 73) rfl ?_); refine text_call (v := .bool s2) (args := #[M.val Am2 cm2, q.val A3 c3]) HT rfl Tryz.func73 (by kernel_rfl) rfl rfl (by rfl) (fun _ _ _ h => h) (by simp only [List.map_toArray, List.map_cons, List.map_nil]; rfl) (fun wx hS => (l11Same_calls (w0 := wr) (c := cm2) (d := c3) HS2.out HOKs.out.1 HOKs.out.2.2 hS (C_up HMC.out HWQ.out) HQC.out).mono fun _ _ h => ⟨h.1, bel_then hS h.2⟩) ?_; simp only [List.set_cons_zero, List.set_cons_succ])
                              | (refine text_skip HT rfl (by rfl) (fun _ _ _ h => h) ?_; simp only [List.set_cons_zero, List.set_cons_succ])
                              | (refine text_val (v := ?_) HT rfl (by rfl) (fun _ _ _ h => h) (fun wx hS => ?_) ?_; rotate_left; (replace y0 := bel_cell hS y0; replace y1 := bel_cell hS y1; replace y2 := bel_cell hS y2; replace y3 := bel_cell hS y3; replace y4 := bel_cell hS y4; replace m0 := bel_cell hS m0; replace m1 := bel_cell hS m1; replace m2 := bel_cell hS m2; replace d0 := bel_cell hS d0; replace q0 := bel_cell hS q0; replace q1 := bel_cell hS q1; replace q2 := bel_cell hS q2; go_simp; with_reducible rfl); rotate_left; simp only [List.set_cons_zero, List.set_cons_succ]))
                            cases s2
                            · go_wp2
                              go_ret
                              exact ⟨ret_bool (by rw [← HK2.out, HPG.out, HPD.out, HPE.out]; simp), bel_then HWQ.out hS⟩
                            · have hmq := samePg_iff.1 HS2.out
                              have HPX := Aside0.mk (show pageB e k = decide (heldR e.log k 3 ≤ 1) by rw [HPD.out, HPE.out]; simp)
                              rcases lts M.lsn Dp.lsn with ⟨e5, g1, g2⟩ | ⟨e5, g1, g2⟩
                              · exact absurd e5.out (by have := HQD.out; rw [hmq]; omega)
                              rcases beqs M.owner q.owner with ⟨e6, b1, c1⟩ | ⟨e6, b1, c1⟩
                              rotate_left
                              · exact absurd (by rw [hmq]) e6.out
                              clear hmq
                              have HX5 := Aside0.mk hS
                              replace y0 := bel_cell hS y0; replace y1 := bel_cell hS y1; replace y2 := bel_cell hS y2; replace y3 := bel_cell hS y3; replace y4 := bel_cell hS y4; replace m0 := bel_cell hS m0; replace m1 := bel_cell hS m1; replace m2 := bel_cell hS m2; replace d0 := bel_cell hS d0; replace d1 := bel_cell hS d1; replace d2 := bel_cell hS d2; replace q0 := bel_cell hS q0; replace q1 := bel_cell hS q1; replace q2 := bel_cell hS q2
                              clear hS
                              go_wp2
                              refine text_start (fun w' => Below wx.heap.size wx w') rfl rfl (by kernel_rfl) (below_drew (Below.refl _ _)) (fun HT => ?_)
                              repeat (first
                                | (refine text_end (fun wx hS => ?_))
                                | ((with_reducible refine text_gate (f := 74) rfl ?_); refine text_call (v := .bool false) (args := #[.slice Al e.log.length cl, .int .i64 k]) HT rfl Tryz.func74 (by kernel_rfl) rfl rfl (by rfl) (fun _ _ _ h => h) (by simp only [List.map_toArray, List.map_cons, List.map_nil]; rfl) (fun wx hS => (l11Loaded_calls (c := cl) HLD.out (bel_then HWQ.out (bel_then HX5.out hS)) HR.out.l HVl.out).mono fun _ _ h => ⟨h.1, h.2 ▸ hS⟩) ?_; simp only [List.set_cons_zero, List.set_cons_succ])
                                | (refine text_skip HT rfl (by rfl) (fun _ _ _ h => h) ?_; simp only [List.set_cons_zero, List.set_cons_succ])
                                | (refine text_val (v := ?_) HT rfl (by rfl) (fun _ _ _ h => h) (fun wx hS => ?_) ?_; rotate_left; (replace y0 := bel_cell hS y0; replace y1 := bel_cell hS y1; replace y2 := bel_cell hS y2; replace y4 := bel_cell hS y4; replace m0 := bel_cell hS m0; replace m1 := bel_cell hS m1; replace d0 := bel_cell hS d0; replace q1 := bel_cell hS q1; go_simp; with_reducible rfl); rotate_left; simp only [List.set_cons_zero, List.set_cons_succ]))
                              have HX6 := Aside0.mk (bel_then HX5.out hS)
                              replace y2 := bel_cell hS y2
                              clear hS
                              go_wp2
                              try rw [decide_eq_true (show (k : Int) < 5 by omega)]
                              try rw [Bool.not_true]
                              try rw [c1]
                              go_loop [7, 8] (fun h t => ∃ (j c : Nat), j ≤ 3 ∧ t = .int .i64 (4 - j : Int) ∧ h = .int .i64 (c : Int) ∧ c + j ≤ 3 ∧ Aside0 (c + heldR e.log k j = heldR e.log k 3)) (fun _ t => (4 - intOf t).toNat)
                              case atStart => exact ⟨3, 0, by omega, rfl, rfl, by omega, ⟨by simp⟩⟩
                              case round => as_aux_lemma =>
                                obtain ⟨j, c, hj, rfl, rfl, hc, HH⟩ := hrel
                                rcases j with _ | j
                                · rcases lts 1 (c : Int) with ⟨e7, g1, g2⟩ | ⟨e7, g1, g2⟩
                                  · go_wp2
                                    go_ret
                                    exact ⟨ret_bool (by rw [← HK2.out, HPG.out, HPX.out, decide_eq_false (by have := HH.out; have := e7.out; simp only [heldR] at *; omega)]; rfl), bel_then HWQ.out HX6.out⟩
                                  · go_wp2
                                    go_roundw
                                    case rel => exact ⟨k + 1, by omega, by go_num, ⟨by rw [← HK2.out, HPG.out, HPX.out, decide_eq_true (by have := HH.out; have := e7.out; simp only [heldR] at *; omega)]; rfl⟩, ⟨bel_then HW2.out HX6.out⟩⟩
                                    case measure => simp [intOf]; omega
                                · have hw : (4 - ((j + 1 : Nat) : Int)) = 3 - (j : Int) := by omega
                                  rw [hw]
                                  have h1 : (3 - (j : Int)) ≤ 3 := by omega
                                  have h2 : 1 ≤ (3 - (j : Int)) := by omega
                                  clear hw
                                  obtain ⟨hb, hhb⟩ : ∃ hb, hasN e.log (lastN e.log (3 - (j : Int)) e.log.length) k = hb := ⟨_, rfl⟩
                                  have HHB := Aside0.mk hhb
                                  clear hhb
                                  cases hb
                                  · go_wp2_with (go_at_call 76; refine (l3Has_calls (c := cl) HHB.out (bel_then HWQ.out HX6.out) HR.out.l HVl.out).mono ?_; rintro x w7 ⟨rfl, rfl⟩)
                                    go_round
                                    case rel => exact ⟨j, c, by omega, by go_num, rfl, by omega, ⟨by rw [← HH.out, heldR, HHB.out]; simp⟩⟩
                                    case measure => simp [intOf]; omega
                                  · go_wp2_with (go_at_call 76; refine (l3Has_calls (c := cl) HHB.out (bel_then HWQ.out HX6.out) HR.out.l HVl.out).mono ?_; rintro x w7 ⟨rfl, rfl⟩)
                                    go_round
                                    case rel => exact ⟨j, c + 1, by omega, by go_num, by go_num, by omega, ⟨by rw [← HH.out, heldR, HHB.out]; simp; omega⟩⟩
                                    case measure => simp [intOf]; omega
                        · as_aux_lemma =>
                            obtain ⟨fr, hfr⟩ : ∃ fr, freshB e k = fr := ⟨_, rfl⟩
                            have HFR := Aside0.mk hfr
                            have HPE := Aside0.mk (show memB e k = (M.owner == q.owner && fr) by rw [memB, if_pos HLD.out, HRR.out, HQQ.out, ← hfr, freshB, HMD.out.1, HMD.out.2, Bool.and_assoc])
                            have hcall : ∀ w' : World, Below wr.heap.size wr w' → Calls Tryz.prog 75 #[.agg #[.slice (some add) e.disk.length cd, .slice (some adm) e.mem.length cm, .slice Al e.log.length cl, .int .i64 e.safe, .bool false], .int .i64 k] w' fun x w2 => x = .returned (.bool fr) ∧ Below w'.heap.size w' w2 := fun w' hb => by
                              have h := l11Fresh_calls (w0 := wr) (cd := cd) (cm := cm) (cl := cl) HFR.out hlt HVd.out HVm.out hb (HR.out.up HWQ.out)
                              unfold Eng.val Eng.ag at h
                              rw [HDN.out] at h
                              exact h
                            clear hfr
                            go_wp2
                            refine text_start (fun w' => Below wr.heap.size wr w') rfl rfl (by kernel_rfl) (below_drew (Below.refl _ _)) (fun HT => ?_)
                            repeat (first
                              | (refine text_end (fun wx hS => ?_))
                              | ((with_reducible refine text_gate (f := 74) rfl ?_); refine text_call (v := .bool true) (args := #[.slice Al e.log.length cl, .int .i64 k]) HT rfl Tryz.func74 (by kernel_rfl) rfl rfl (by rfl) (fun _ _ _ h => h) (by simp only [List.map_toArray, List.map_cons, List.map_nil]; rfl) (fun wx hS => (l11Loaded_calls (c := cl) HLD.out (bel_then HWQ.out hS) HR.out.l HVl.out).mono fun _ _ h => ⟨h.1, h.2 ▸ hS⟩) ?_; simp only [List.set_cons_zero, List.set_cons_succ])
                              | (refine text_skip HT rfl (by rfl) (fun _ _ _ h => h) ?_; simp only [List.set_cons_zero, List.set_cons_succ])
                              | (refine text_val (v := ?_) HT rfl (by rfl) (fun _ _ _ h => h) (fun wx hS => ?_) ?_; rotate_left; (replace y0 := bel_cell hS y0; replace y2 := bel_cell hS y2; replace y3 := bel_cell hS y3; replace y4 := bel_cell hS y4; replace d0 := bel_cell hS d0; go_simp; with_reducible rfl); rotate_left; simp only [List.set_cons_zero, List.set_cons_succ]))
                            have HX5 := Aside0.mk hS
                            replace y0 := bel_cell hS y0; replace y1 := bel_cell hS y1; replace y2 := bel_cell hS y2; replace y3 := bel_cell hS y3; replace y4 := bel_cell hS y4; replace m0 := bel_cell hS m0; replace m1 := bel_cell hS m1; replace m2 := bel_cell hS m2; replace d0 := bel_cell hS d0; replace d1 := bel_cell hS d1; replace d2 := bel_cell hS d2; replace q0 := bel_cell hS q0; replace q1 := bel_cell hS q1; replace q2 := bel_cell hS q2
                            clear hS
                            go_wp2
                            cases fr
                            · skip
                              refine text_start (fun w' => Below wx.heap.size wx w') rfl rfl (by kernel_rfl) (below_drew (Below.refl _ _)) (fun HT => ?_)
                              repeat (first
                                | (refine text_end (fun wx hS => ?_))
                                | ((with_reducible refine text_gate (f := 74) rfl ?_); refine text_call (v := .bool true) (args := #[.slice Al e.log.length cl, .int .i64 k]) HT rfl Tryz.func74 (by kernel_rfl) rfl rfl (by rfl) (fun _ _ _ h => h) (by simp only [List.map_toArray, List.map_cons, List.map_nil]; rfl) (fun wx hS => (l11Loaded_calls (c := cl) HLD.out (bel_then HWQ.out (bel_then HX5.out hS)) HR.out.l HVl.out).mono fun _ _ h => ⟨h.1, h.2 ▸ hS⟩) ?_; simp only [List.set_cons_zero, List.set_cons_succ])
                                | ((with_reducible refine text_gate (f := 75) rfl ?_); refine text_call (v := .bool false) (args := #[.agg #[.slice (some add) e.disk.length cd, .slice (some adm) e.mem.length cm, .slice Al e.log.length cl, .int .i64 e.safe, .bool false], .int .i64 k]) HT rfl Tryz.func75 (by kernel_rfl) rfl rfl (by rfl) (fun _ _ _ h => h) (by simp only [List.map_toArray, List.map_cons, List.map_nil]; rfl) (fun wx hS => (hcall wx (bel_then HX5.out hS)).mono fun _ _ h => ⟨h.1, bel_then hS h.2⟩) ?_; simp only [List.set_cons_zero, List.set_cons_succ])
                                | (refine text_skip HT rfl (by rfl) (fun _ _ _ h => h) ?_; simp only [List.set_cons_zero, List.set_cons_succ])
                                | (refine text_val (v := ?_) HT rfl (by rfl) (fun _ _ _ h => h) (fun wx hS => ?_) ?_; rotate_left; (replace y0 := bel_cell hS y0; replace y1 := bel_cell hS y1; replace y2 := bel_cell hS y2; replace y3 := bel_cell hS y3; replace y4 := bel_cell hS y4; go_simp; with_reducible rfl); rotate_left; simp only [List.set_cons_zero, List.set_cons_succ]))
                              go_wp2
                              go_ret
                              exact ⟨ret_bool (by rw [← HK2.out, HPG.out, HPD.out, HPE.out]; simp), bel_then HWQ.out (bel_then HX5.out hS)⟩
                            · skip
                              refine text_start (fun w' => Below wx.heap.size wx w') rfl rfl (by kernel_rfl) (below_drew (Below.refl _ _)) (fun HT => ?_)
                              repeat (first
                                | (refine text_end (fun wx hS => ?_))
                                | ((with_reducible refine text_gate (f := 74) rfl ?_); refine text_call (v := .bool true) (args := #[.slice Al e.log.length cl, .int .i64 k]) HT rfl Tryz.func74 (by kernel_rfl) rfl rfl (by rfl) (fun _ _ _ h => h) (by simp only [List.map_toArray, List.map_cons, List.map_nil]; rfl) (fun wx hS => (l11Loaded_calls (c := cl) HLD.out (bel_then HWQ.out (bel_then HX5.out hS)) HR.out.l HVl.out).mono fun _ _ h => ⟨h.1, h.2 ▸ hS⟩) ?_; simp only [List.set_cons_zero, List.set_cons_succ])
                                | ((with_reducible refine text_gate (f := 75) rfl ?_); refine text_call (v := .bool true) (args := #[.agg #[.slice (some add) e.disk.length cd, .slice (some adm) e.mem.length cm, .slice Al e.log.length cl, .int .i64 e.safe, .bool false], .int .i64 k]) HT rfl Tryz.func75 (by kernel_rfl) rfl rfl (by rfl) (fun _ _ _ h => h) (by simp only [List.map_toArray, List.map_cons, List.map_nil]; rfl) (fun wx hS => (hcall wx (bel_then HX5.out hS)).mono fun _ _ h => ⟨h.1, bel_then hS h.2⟩) ?_; simp only [List.set_cons_zero, List.set_cons_succ])
                                | (refine text_skip HT rfl (by rfl) (fun _ _ _ h => h) ?_; simp only [List.set_cons_zero, List.set_cons_succ])
                                | (refine text_val (v := ?_) HT rfl (by rfl) (fun _ _ _ h => h) (fun wx hS => ?_) ?_; rotate_left; (replace y0 := bel_cell hS y0; replace y1 := bel_cell hS y1; replace y2 := bel_cell hS y2; replace y3 := bel_cell hS y3; replace y4 := bel_cell hS y4; replace m1 := bel_cell hS m1; replace q1 := bel_cell hS q1; go_simp; with_reducible rfl); rotate_left; simp only [List.set_cons_zero, List.set_cons_succ]))
                              rcases beqs M.owner q.owner with ⟨e6, b1, c1⟩ | ⟨e6, b1, c1⟩
                              · have HPX := Aside0.mk (show pageB e k = decide (heldR e.log k 3 ≤ 1) by rw [HPD.out, HPE.out, b1]; simp)
                                have HX6 := Aside0.mk (bel_then HX5.out hS)
                                replace y2 := bel_cell hS y2
                                clear hS
                                go_wp2
                                try rw [decide_eq_true (show (k : Int) < 5 by omega)]
                                try rw [Bool.not_true]
                                try rw [c1]
                                go_loop [7, 8] (fun h t => ∃ (j c : Nat), j ≤ 3 ∧ t = .int .i64 (4 - j : Int) ∧ h = .int .i64 (c : Int) ∧ c + j ≤ 3 ∧ Aside0 (c + heldR e.log k j = heldR e.log k 3)) (fun _ t => (4 - intOf t).toNat)
                                case atStart => exact ⟨3, 0, by omega, rfl, rfl, by omega, ⟨by simp⟩⟩
                                case round => as_aux_lemma =>
                                  obtain ⟨j, c, hj, rfl, rfl, hc, HH⟩ := hrel
                                  rcases j with _ | j
                                  · rcases lts 1 (c : Int) with ⟨e7, g1, g2⟩ | ⟨e7, g1, g2⟩
                                    · go_wp2
                                      go_ret
                                      exact ⟨ret_bool (by rw [← HK2.out, HPG.out, HPX.out, decide_eq_false (by have := HH.out; have := e7.out; simp only [heldR] at *; omega)]; rfl), bel_then HWQ.out HX6.out⟩
                                    · go_wp2
                                      go_roundw
                                      case rel => exact ⟨k + 1, by omega, by go_num, ⟨by rw [← HK2.out, HPG.out, HPX.out, decide_eq_true (by have := HH.out; have := e7.out; simp only [heldR] at *; omega)]; rfl⟩, ⟨bel_then HW2.out HX6.out⟩⟩
                                      case measure => simp [intOf]; omega
                                  · have hw : (4 - ((j + 1 : Nat) : Int)) = 3 - (j : Int) := by omega
                                    rw [hw]
                                    have h1 : (3 - (j : Int)) ≤ 3 := by omega
                                    have h2 : 1 ≤ (3 - (j : Int)) := by omega
                                    clear hw
                                    obtain ⟨hb, hhb⟩ : ∃ hb, hasN e.log (lastN e.log (3 - (j : Int)) e.log.length) k = hb := ⟨_, rfl⟩
                                    have HHB := Aside0.mk hhb
                                    clear hhb
                                    cases hb
                                    · go_wp2_with (go_at_call 76; refine (l3Has_calls (c := cl) HHB.out (bel_then HWQ.out HX6.out) HR.out.l HVl.out).mono ?_; rintro x w7 ⟨rfl, rfl⟩)
                                      go_round
                                      case rel => exact ⟨j, c, by omega, by go_num, rfl, by omega, ⟨by rw [← HH.out, heldR, HHB.out]; simp⟩⟩
                                      case measure => simp [intOf]; omega
                                    · go_wp2_with (go_at_call 76; refine (l3Has_calls (c := cl) HHB.out (bel_then HWQ.out HX6.out) HR.out.l HVl.out).mono ?_; rintro x w7 ⟨rfl, rfl⟩)
                                      go_round
                                      case rel => exact ⟨j, c + 1, by omega, by go_num, by go_num, by omega, ⟨by rw [← HH.out, heldR, HHB.out]; simp; omega⟩⟩
                                      case measure => simp [intOf]; omega
                              · skip
                                go_wp2
                                go_ret
                                exact ⟨ret_bool (by rw [← HK2.out, HPG.out, HPD.out, HPE.out, b1]; simp), bel_then HWQ.out (bel_then HX5.out hS)⟩
                    · as_aux_lemma =>
                        obtain ⟨s1, hs1⟩ : ∃ s1, samePg M Dp = s1 := ⟨_, rfl⟩
                        have HS1 := Aside0.mk hs1
                        have HPD := Aside0.mk (show pageB e k = (decide (heldR e.log k 3 ≤ 1) && s1) by rw [HPC.out, if_pos HDN.out, hs1])
                        clear hs1
                        cases s1
                        · go_wp2
                          refine text_start (fun w' => Below wr.heap.size wr w') rfl rfl (by kernel_rfl) (below_drew (Below.refl _ _)) (fun HT => ?_)
                          repeat (first
                            | (refine text_end (fun wx hS => ?_))
                            | ((with_reducible refine text_gate (f := 73) rfl ?_); refine text_call (v := .bool false) (args := #[M.val Am2 cm2, Dp.val Ad2 cd2]) HT rfl Tryz.func73 (by kernel_rfl) rfl rfl (by rfl) (fun _ _ _ h => h) (by simp only [List.map_toArray, List.map_cons, List.map_nil]; rfl) (fun wx hS => (l11Same_calls (c := cm2) (d := cd2) HS1.out HOKs.out.1 HOKs.out.2.1 (bel_then HWQ.out hS) HMC.out HDC.out).mono fun _ _ h => ⟨h.1, bel_then hS h.2⟩) ?_; simp only [List.set_cons_zero, List.set_cons_succ])
                            | (refine text_skip HT rfl (by rfl) (fun _ _ _ h => h) ?_; simp only [List.set_cons_zero, List.set_cons_succ])
                            | (refine text_val (v := ?_) HT rfl (by rfl) (fun _ _ _ h => h) (fun wx hS => ?_) ?_; rotate_left; (replace y0 := bel_cell hS y0; replace y1 := bel_cell hS y1; replace y3 := bel_cell hS y3; replace y4 := bel_cell hS y4; replace m0 := bel_cell hS m0; replace m1 := bel_cell hS m1; replace m2 := bel_cell hS m2; replace d0 := bel_cell hS d0; replace d1 := bel_cell hS d1; replace d2 := bel_cell hS d2; go_simp; with_reducible rfl); rotate_left; simp only [List.set_cons_zero, List.set_cons_succ]))
                          go_wp2
                          go_ret
                          exact ⟨ret_bool (by rw [← HK2.out, HPG.out, HPD.out]; simp), bel_then HWQ.out hS⟩
                        · have HPX := Aside0.mk (show pageB e k = decide (heldR e.log k 3 ≤ 1) by rw [HPD.out]; simp)
                          go_wp2
                          refine text_start (fun w' => Below wr.heap.size wr w') rfl rfl (by kernel_rfl) (below_drew (Below.refl _ _)) (fun HT => ?_)
                          repeat (first
                            | (refine text_end (fun wx hS => ?_))
                            | ((with_reducible refine text_gate (f := 73) rfl ?_); refine text_call (v := .bool true) (args := #[M.val Am2 cm2, Dp.val Ad2 cd2]) HT rfl Tryz.func73 (by kernel_rfl) rfl rfl (by rfl) (fun _ _ _ h => h) (by simp only [List.map_toArray, List.map_cons, List.map_nil]; rfl) (fun wx hS => (l11Same_calls (c := cm2) (d := cd2) HS1.out HOKs.out.1 HOKs.out.2.1 (bel_then HWQ.out hS) HMC.out HDC.out).mono fun _ _ h => ⟨h.1, bel_then hS h.2⟩) ?_; simp only [List.set_cons_zero, List.set_cons_succ])
                            | (refine text_skip HT rfl (by rfl) (fun _ _ _ h => h) ?_; simp only [List.set_cons_zero, List.set_cons_succ])
                            | (refine text_val (v := ?_) HT rfl (by rfl) (fun _ _ _ h => h) (fun wx hS => ?_) ?_; rotate_left; (replace y0 := bel_cell hS y0; replace y1 := bel_cell hS y1; replace y3 := bel_cell hS y3; replace y4 := bel_cell hS y4; replace m0 := bel_cell hS m0; replace m1 := bel_cell hS m1; replace m2 := bel_cell hS m2; replace d0 := bel_cell hS d0; replace d1 := bel_cell hS d1; replace d2 := bel_cell hS d2; go_simp; with_reducible rfl); rotate_left; simp only [List.set_cons_zero, List.set_cons_succ]))
                          have HX5 := Aside0.mk hS
                          replace y0 := bel_cell hS y0; replace y1 := bel_cell hS y1; replace y2 := bel_cell hS y2; replace y3 := bel_cell hS y3; replace y4 := bel_cell hS y4; replace m0 := bel_cell hS m0; replace m1 := bel_cell hS m1; replace m2 := bel_cell hS m2; replace d0 := bel_cell hS d0; replace d1 := bel_cell hS d1; replace d2 := bel_cell hS d2; replace q0 := bel_cell hS q0; replace q1 := bel_cell hS q1; replace q2 := bel_cell hS q2
                          clear hS
                          go_wp2
                          refine text_start (fun w' => Below wx.heap.size wx w') rfl rfl (by kernel_rfl) (below_drew (Below.refl _ _)) (fun HT => ?_)
                          repeat (first
                            | (refine text_end (fun wx hS => ?_))
                            | (refine text_skip HT rfl (by rfl) (fun _ _ _ h => h) ?_; simp only [List.set_cons_zero, List.set_cons_succ])
                            | (refine text_val (v := ?_) HT rfl (by rfl) (fun _ _ _ h => h) (fun wx hS => ?_) ?_; rotate_left; (replace y4 := bel_cell hS y4; go_simp; with_reducible rfl); rotate_left; simp only [List.set_cons_zero, List.set_cons_succ]))
                          have HX6 := Aside0.mk (bel_then HX5.out hS)
                          replace y2 := bel_cell hS y2
                          clear hS
                          go_wp2
                          try rw [decide_eq_true (show (k : Int) < 5 by omega)]
                          try rw [Bool.not_true]
                          try rw [c1]
                          go_loop [7, 8] (fun h t => ∃ (j c : Nat), j ≤ 3 ∧ t = .int .i64 (4 - j : Int) ∧ h = .int .i64 (c : Int) ∧ c + j ≤ 3 ∧ Aside0 (c + heldR e.log k j = heldR e.log k 3)) (fun _ t => (4 - intOf t).toNat)
                          case atStart => exact ⟨3, 0, by omega, rfl, rfl, by omega, ⟨by simp⟩⟩
                          case round => as_aux_lemma =>
                            obtain ⟨j, c, hj, rfl, rfl, hc, HH⟩ := hrel
                            rcases j with _ | j
                            · rcases lts 1 (c : Int) with ⟨e7, g1, g2⟩ | ⟨e7, g1, g2⟩
                              · go_wp2
                                go_ret
                                exact ⟨ret_bool (by rw [← HK2.out, HPG.out, HPX.out, decide_eq_false (by have := HH.out; have := e7.out; simp only [heldR] at *; omega)]; rfl), bel_then HWQ.out HX6.out⟩
                              · go_wp2
                                go_roundw
                                case rel => exact ⟨k + 1, by omega, by go_num, ⟨by rw [← HK2.out, HPG.out, HPX.out, decide_eq_true (by have := HH.out; have := e7.out; simp only [heldR] at *; omega)]; rfl⟩, ⟨bel_then HW2.out HX6.out⟩⟩
                                case measure => simp [intOf]; omega
                            · have hw : (4 - ((j + 1 : Nat) : Int)) = 3 - (j : Int) := by omega
                              rw [hw]
                              have h1 : (3 - (j : Int)) ≤ 3 := by omega
                              have h2 : 1 ≤ (3 - (j : Int)) := by omega
                              clear hw
                              obtain ⟨hb, hhb⟩ : ∃ hb, hasN e.log (lastN e.log (3 - (j : Int)) e.log.length) k = hb := ⟨_, rfl⟩
                              have HHB := Aside0.mk hhb
                              clear hhb
                              cases hb
                              · go_wp2_with (go_at_call 76; refine (l3Has_calls (c := cl) HHB.out (bel_then HWQ.out HX6.out) HR.out.l HVl.out).mono ?_; rintro x w7 ⟨rfl, rfl⟩)
                                go_round
                                case rel => exact ⟨j, c, by omega, by go_num, rfl, by omega, ⟨by rw [← HH.out, heldR, HHB.out]; simp⟩⟩
                                case measure => simp [intOf]; omega
                              · go_wp2_with (go_at_call 76; refine (l3Has_calls (c := cl) HHB.out (bel_then HWQ.out HX6.out) HR.out.l HVl.out).mono ?_; rintro x w7 ⟨rfl, rfl⟩)
                                go_round
                                case rel => exact ⟨j, c + 1, by omega, by go_num, by go_num, by omega, ⟨by rw [← HH.out, heldR, HHB.out]; simp; omega⟩⟩
                                case measure => simp [intOf]; omega
                · go_wp2
                  go_ret
                  exact ⟨ret_bool (by rw [← HK2.out, show 5 - k = 0 by omega]; rfl), HWQ.out⟩
end Go.Proofs.YtlmlcnokiipilaaGreat

/- Engines of a call's own; copies of logs, of engines. -/
namespace Go.Proofs.YtlmlcnokiipilaaGreat
open Go.RowKit Go.Proofs.YtlmlcnokiipilaaGreatW.PrintWords Go.Proofs.YtlmlcnokiipilaaGreatW.PrintLast Go.Proofs.YtlmlcnokiipilaaGreatW.PrintMore

abbrev OwnRs (w : World) (base : Nat) (v : Value) (l : List Rec) : Prop := Kd.R kRec 56 w base (fun _ => True) v l
def RetRs (w : World) (l : List Rec) (e : Ending) (w' : World) : Prop := ∃ v, e = .returned v ∧ OwnRs w' w.heap.size v l ∧ Below w.heap.size w w'
theorem info_rec : (Tryz.prog.info? 56).map (fun i => (i.zero, i.size, i.bytes)) = some (some (.agg #[.int .i64 0, .int .i64 0, .int .i64 0, .int .i64 0, .int .i64 0, .int .i64 0, .int .i64 0, .int .i64 0]), 8, 64) := by kernel_rfl
theorem under_recs : Tryz.prog.underlying 29 = some (.slice 56) := Tryz.underlying29
/-- A record's cells hold for any world. -/
theorem kRec_mk (w : World) (base : Nat) (ok : Nat → Prop) (r : Rec) : kRec.M w base ok r r.cells :=
  ⟨[.int .i64 r.kind], [.int .i64 r.tx, .int .i64 r.page, .int .i64 r.slot, .int .i64 r.old, .int .i64 r.new, .int .i64 r.prev, .int .i64 r.next], rfl, rfl, ⟨[.int .i64 r.tx], [.int .i64 r.page, .int .i64 r.slot, .int .i64 r.old, .int .i64 r.new, .int .i64 r.prev, .int .i64 r.next], rfl, rfl, ⟨[.int .i64 r.page], [.int .i64 r.slot, .int .i64 r.old, .int .i64 r.new, .int .i64 r.prev, .int .i64 r.next], rfl, rfl, ⟨[.int .i64 r.slot], [.int .i64 r.old, .int .i64 r.new, .int .i64 r.prev, .int .i64 r.next], rfl, rfl, ⟨[.int .i64 r.old], [.int .i64 r.new, .int .i64 r.prev, .int .i64 r.next], rfl, rfl, ⟨[.int .i64 r.new], [.int .i64 r.prev, .int .i64 r.next], rfl, rfl, ⟨[.int .i64 r.prev], [.int .i64 r.next], rfl, rfl, rfl⟩⟩⟩⟩⟩⟩⟩
theorem kRec_KM {w w1 : World} {base : Nat} {ok : Nat → Prop} {r : Rec} {cs : List Value} (h : kRec.K w r cs) : kRec.M w1 base ok r cs := by
  rw [kRec_open h]
  exact kRec_mk _ _ _ r
section
variable {ops : Array Oper} {rest : List Oper} {o : Oper} {a : Act} {Q : Exit → Act → World → Prop}
/-- append(v, ys...): records behind records of the call's own. -/
theorem recs_append_row {w0 W : World} {v : Value} {xs ys : List Rec} {A : Option Addr} {c : Nat} (hgd : o.guard = none) (s x : Operand)
    (ho : o.op = .call { callee := .builtin .append, args := #[s, x], argTypes := #[29, 29] }) (hs : a.eval s = v) (hx : a.eval x = .slice A ys.length c)
    (HO : OwnRs W w0.heap.size v xs) (HR : Kd.C kRec W A ys.length ys) (HB : Below w0.heap.size w0 W) (hl : xs.length + ys.length ≤ 1000)
    (h : ∀ v1 w1, OwnRs w1 w0.heap.size v1 (xs ++ ys) → Below w0.heap.size w0 w1 → W.grownBy w1 v.ownBlock → wpList Tryz.prog ops Q rest (a.put o.dst v1) w1) :
    wpList Tryz.prog ops Q (o :: rest) a W :=
  Kd.R_append_rows kRec (Rr := kRec.K W) w0.heap.size hgd s x 29 56 _ 64 ho under_recs info_rec rfl (by decide) (by decide) v xs ys A ys.length c (fun _ => True) (fun _ => False) hs hx HO HR (fun _ _ hk => kRec_KM hk) (fun _ hk => hk.elim) (fun _ _ => trivial) HB HB.size (by omega) (fun v1 w1 h1 h2 h3 _ => h v1 w1 h1 h2 h3)
/-- append(v, r): a record behind records of the call's own. -/
theorem recs_append {w0 W : World} {v : Value} {xs : List Rec} {r : Rec} (hgd : o.guard = none) (s x : Operand)
    (ho : o.op = .call { callee := .builtin .append, args := #[s, x], argTypes := #[29, 29] }) (hs : a.eval s = v) (hx : a.eval x = .slice (some ⟨W.heap.size, 0, none⟩) 1 1)
    (HO : OwnRs W w0.heap.size v xs) (HB : Below w0.heap.size w0 W) (hl : xs.length ≤ 1000)
    (h : ∀ v1 w1, OwnRs w1 w0.heap.size v1 (xs ++ [r]) → Below w0.heap.size w0 w1 → W.grownBy w1 v.ownBlock → wpList Tryz.prog ops Q rest (a.put o.dst v1) w1) :
    wpList Tryz.prog ops Q (o :: rest) a (W.alloc (.cells #[.int .i64 r.kind, .int .i64 r.tx, .int .i64 r.page, .int .i64 r.slot, .int .i64 r.old, .int .i64 r.new, .int .i64 r.prev, .int .i64 r.next] 56)) :=
  Kd.R_append kRec w0.heap.size hgd s x 29 56 _ 64 ho under_recs info_rec rfl (by decide) (by decide) v xs r r.cells (fun _ => True) (fun _ => False) hs hx (kRec_mk _ _ _ r) (fun _ hk => hk.elim) (fun _ _ => trivial) HO HB HB.size (by omega) (fun v1 w1 h1 h2 h3 _ => h v1 w1 h1 h2 h3)
end
theorem rs_empty {W : World} {g base : Nat} (hg : g = W.heap.size) (hb : base ≤ W.heap.size) : OwnRs (W.alloc (.cells #[] 56)) base (.slice (some ⟨g, 0, none⟩) 0 0) [] := ⟨fun _ _ => trivial, [], own_none' _ 8 hg hb, Reps.none _ _⟩
/-- An empty row of elder memory, that nothing is written into. -/
theorem rs_zero (W : World) (base : Nat) : OwnRs W base (.slice none 0 0) [] := Kd.R_nil _ _ _ _ _
set_option maxRecDepth 100000 in
set_option maxHeartbeats 2000000 in
theorem cloneR_calls {w0 w : World} {A : Option Addr} {c : Nat} {l : List Rec} (hl : l.length ≤ 150) (hb : Below w0.heap.size w0 w) (hr : Kd.C kRec w0 A l.length l) : Calls Tryz.prog 41 #[.slice A l.length c] w (RetRs w l) := by
  have HR := Aside0.mk (C_up hr hb)
  have hq : ∀ (w : World) (a : Option Addr) (n c n' c' : Nat), (binOp .eql 29 (.slice a n c) (.slice none n' c')).run Tryz.prog w = .ok (.bool a.isNone) w := fun w a n c n' c' => Go.Lib.run_eql_slice_nil w _ _ a n c n' c' under_recs
  clear hr hb
  cases A with
  | none =>
    have hn : l = [] := by
      cases l with
      | nil => rfl
      | cons r t => obtain ⟨ad, h, _⟩ := at_rec HR.out 0 (by simp); cases h
    subst hn
    go_enter Tryz.func41, Tryz.ntmps41
    go_wp2
    go_ret
    exact ⟨_, rfl, rs_zero _ _, by go_grown⟩
  | some ad =>
    go_enter Tryz.func41, Tryz.ntmps41
    go_wp2_with (at_builtin; (refine recs_append_row (w0 := w) (xs := []) rfl (.tmp 5) (.tmp 6) rfl rfl rfl (rs_empty rfl (Nat.le_refl _)) (C_up HR.out (bel_alloc (Below.refl _ _) _)) (bel_alloc (Below.refl _ _) _) (by simp; omega) ?_); intro v1 w1 hO hb1 _; have HO := Aside0.mk hO; have HB := Aside0.mk hb1; clear hO hb1)
    go_ret
    exact ⟨_, rfl, HO.out, HB.out⟩
/-- An engine of the call's own: its rows share nothing. -/
structure OwnE (w : World) (base : Nat) (vd vm vl : Value) (e : Eng) : Prop where
  ex : ∃ okd okm : Nat → Prop, (∀ k, okd k → okm k → False) ∧ OwnPk w base okd vd e.disk ∧ OwnPk w base okm vm e.mem
  l : OwnRs w base vl e.log
section
variable {w w1 : World} {base : Nat} {vd vm vl : Value} {e : Eng}
theorem OwnE.below (h : OwnE w base vd vm vl e) (hb : Below w.heap.size w w1) : OwnE w1 base vd vm vl e := by
  obtain ⟨⟨okd, okm, h1, h2, h3⟩, h4⟩ := h
  exact ⟨⟨okd, okm, h1, Kd.S_below h2 hb, Kd.S_below h3 hb⟩, Kd.R_below h4 hb⟩
theorem OwnE.lower {b' : Nat} (h : OwnE w base vd vm vl e) (hb : b' ≤ base) : OwnE w b' vd vm vl e := by
  obtain ⟨⟨okd, okm, h1, h2, h3⟩, h4⟩ := h
  exact ⟨⟨okd, okm, h1, Kd.S_lower h2 hb, Kd.S_lower h3 hb⟩, Kd.R_lower h4 hb⟩
theorem pk_kinds : ∀ q, q ∈ 49 :: kPage.E → q = 49 ∨ q = 3 := by decide
/-- A block of another kind was written. -/
theorem OwnE.set (h : OwnE w base vd vm vl e) {g t : Nat} {cells : Array Value} (hb : w.heap[g]? = some (.cells cells t (0, 0))) (h1 : t ≠ 49) (h2 : t ≠ 3) (h3 : t ≠ 56) (j : Nat) (u : Value) : OwnE (w.setCell ⟨g, j, none⟩ u) base vd vm vl e := by
  obtain ⟨⟨okd, okm, ha, hx, hy⟩, hz⟩ := h
  have hp : ∀ q, q ∈ 49 :: kPage.E → q ≠ t := fun q hq => by rcases pk_kinds q hq with rfl | rfl; exact Ne.symm h1; exact Ne.symm h2
  have hr : ∀ q, q ∈ 56 :: kRec.E → q ≠ t := fun q hq => by
    have : q = 56 := by simpa [kRec, Kd.iso, Kd.pair, Kd.int, Kd.scalar] using hq
    rw [this]; exact Ne.symm h3
  exact ⟨⟨okd, okm, ha, Kd.S_set hx hb hp j u, Kd.S_set hy hb hp j u⟩, Kd.R_set hz hb hr j u⟩
theorem OwnE.reads (h : OwnE w base vd vm vl e) : ∃ Ad cd Am cm Al cl, vd = .slice Ad e.disk.length cd ∧ vm = .slice Am e.mem.length cm ∧ vl = .slice Al e.log.length cl ∧ e.log.length ≤ cl ∧ EngC w e Ad Am Al := by
  obtain ⟨⟨okd, okm, _, hx, hy⟩, hz⟩ := h
  obtain ⟨Ad, cd, h1, _, h2⟩ := Kd.S_reads hx
  obtain ⟨Am, cm, h3, _, h4⟩ := Kd.S_reads hy
  obtain ⟨Al, cl, h5, h6, h7⟩ := Kd.R_reads hz
  exact ⟨Ad, cd, Am, cm, Al, cl, h1, h3, h5, h6, h2, h4, h7⟩
/-- Two rows, made one behind the other. -/
theorem OwnE.mk2 {w0 : World} {ps qs : List Page} {l : List Rec} (hd : OwnPk w0 base (fun _ => True) vd ps) (hm : OwnPk w1 w0.heap.size (fun _ => True) vm qs) (hb : Below w0.heap.size w0 w1) (hbase : base ≤ w0.heap.size) (hl : OwnRs w1 base vl l) {s : Int} {d : Bool} : OwnE w1 base vd vm vl ⟨ps, qs, l, s, d⟩ :=
  ⟨⟨fun k => True ∧ k < w0.heap.size, fun k => w0.heap.size ≤ k, fun k h1 h2 => by omega, Kd.S_old hd hb, Kd.S_lower (Kd.S_mono (Kd.S_bound hm) (fun k hk => hk.2.1)) hbase⟩, hl⟩
end
/-- A call that hands back an engine of its own. -/
def RetE (w : World) (e : Eng) (x : Ending) (w' : World) : Prop := ∃ vd vm vl, x = .returned (e.ag vd vm vl) ∧ OwnE w' w.heap.size vd vm vl e ∧ Below w.heap.size w w'
end Go.Proofs.YtlmlcnokiipilaaGreat
