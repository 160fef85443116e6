/- A part of the proof: what the last text of the claim says leans on this one. -/
import Derived.Test.YtlmlcnokiipilaaGreatD3
/- The statements' marks written, and held: engines. -/
namespace Go.Proofs.YtlmlcnokiipilaaGreat
open Go.RowKit Go.Proofs.YtlmlcnokiipilaaGreatW.PrintWords Go.Proofs.YtlmlcnokiipilaaGreatW.PrintLast Go.Proofs.YtlmlcnokiipilaaGreatW.PrintMore

theorem cntE_few {e : Eng} (h : fewE e) : cntE e ≤ 5000000000000 ∧ cntP e.disk ≤ 2000000000000 ∧ cntP e.mem ≤ 2000000000000 ∧ e.log.length ≤ 1048576 := by
  have h1 := cntP_few h.1
  have h2 := cntP_few h.2.1
  have h3 := h.2.2
  unfold cntE
  omega
/-- An engine of the call's own, and which blocks are its. -/
structure OwnEk (w : World) (b : Nat) (ok : Nat → Prop) (vd vm vl : Value) (e : Eng) : Prop where
  ex : ∃ okd okm : Nat → Prop, (∀ k, okd k → okm k → False) ∧ (∀ k, okd k → ok k) ∧ (∀ k, okm k → ok k) ∧ OwnPk w b okd vd e.disk ∧ OwnPk w b okm vm e.mem
  l : OwnRs w b vl e.log
  lk : ∀ k, vl.ownBlock = some k → ok k
section
variable {w w1 : World} {b : Nat} {ok : Nat → Prop} {vd vm vl : Value} {e : Eng}
theorem OwnEk.E (h : OwnEk w b ok vd vm vl e) : OwnE w b vd vm vl e := by
  obtain ⟨okd, okm, h1, -, -, h4, h5⟩ := h.ex
  exact ⟨⟨okd, okm, h1, h4, h5⟩, h.l⟩
theorem OwnE.toK (h : OwnE w b vd vm vl e) : OwnEk w b (fun k => b ≤ k ∧ k < w.heap.size) vd vm vl e := by
  obtain ⟨⟨okd, okm, h1, h2, h3⟩, h4⟩ := h
  exact ⟨⟨fun k => okd k ∧ (b ≤ k ∧ k < w.heap.size), fun k => okm k ∧ (b ≤ k ∧ k < w.heap.size), fun k ha hb => h1 k ha.1 hb.1, fun k hk => hk.2, fun k hk => hk.2, Kd.S_mono (Kd.S_bound h2) (fun k hk => ⟨hk.1, hk.2.1, hk.2.2.1⟩), Kd.S_mono (Kd.S_bound h3) (fun k hk => ⟨hk.1, hk.2.1, hk.2.2.1⟩)⟩, h4, fun k hk => ⟨Kd.R_base h4 k hk, Kd.R_lt h4 k hk⟩⟩
theorem OwnEk.kept {S : Nat → Prop} (h : OwnEk w b ok vd vm vl e) (hk : Kept w w1 S) (hne : ∀ k, ok k → ¬ S k) : OwnEk w1 b ok vd vm vl e := by
  obtain ⟨⟨okd, okm, h1, h2, h3, h4, h5⟩, hl, hlk⟩ := h
  exact ⟨⟨okd, okm, h1, h2, h3, Kd.S_kept h4 hk (fun k hx => hne k (h2 k hx)), Kd.S_kept h5 hk (fun k hx => hne k (h3 k hx))⟩, Kd.R_mono (Kd.R_kept (Kd.R_tight rfl hl) hk (fun k hx => hne k (hlk k hx.symm))) (fun _ _ => trivial), hlk⟩
theorem OwnEk.below (h : OwnEk w b ok vd vm vl e) (hb : Below w.heap.size w w1) : OwnEk w1 b ok vd vm vl e := h.kept (S := fun _ => False) (Kept.of_below hb _) (fun _ _ h => h)
theorem OwnEk.lower {b' : Nat} (h : OwnEk w b ok vd vm vl e) (hb : b' ≤ b) : OwnEk w b' ok vd vm vl e := by
  obtain ⟨⟨okd, okm, h1, h2, h3, h4, h5⟩, hl, hlk⟩ := h
  exact ⟨⟨okd, okm, h1, h2, h3, Kd.S_lower h4 hb, Kd.S_lower h5 hb⟩, Kd.R_lower hl hb, hlk⟩
theorem OwnEk.mono {ok' : Nat → Prop} (h : OwnEk w b ok vd vm vl e) (hok : ∀ k, ok k → ok' k) : OwnEk w b ok' vd vm vl e := by
  obtain ⟨⟨okd, okm, h1, h2, h3, h4, h5⟩, hl, hlk⟩ := h
  exact ⟨⟨okd, okm, h1, fun k hk => hok k (h2 k hk), fun k hk => hok k (h3 k hk), h4, h5⟩, hl, fun k hk => hok k (hlk k hk)⟩
/-- Its reading facts. -/
theorem OwnEk.C {A B C : Option Addr} {n m l a b' c : Nat} (h : OwnEk w b ok (.slice A n a) (.slice B m b') (.slice C l c) e) : EngC w e A B C := by
  obtain ⟨A', a', B', b2, C', c', h1, h2, h3, -, hc⟩ := h.E.reads
  injection h1 with h1
  injection h2 with h2
  injection h3 with h3
  subst h1 h2 h3
  exact hc
/-- Its reading facts, at a world in which its blocks are as they were. -/
theorem EngC.kept {Ad Am Al : Option Addr} {cd cm cl : Nat} {S : Nat → Prop} (h : OwnEk w b ok (.slice Ad e.disk.length cd) (.slice Am e.mem.length cm) (.slice Al e.log.length cl) e) (hk : Kept w w1 S) (hne : ∀ k, ok k → ¬ S k) : EngC w1 e Ad Am Al := by
  obtain ⟨A, a, B, b', C, c, h1, h2, h3, -, hc⟩ := (h.kept hk hne).E.reads
  injection h1 with h1
  injection h2 with h2
  injection h3 with h3
  subst h1 h2 h3
  exact hc
end
def RetMkE (w : World) (b : Nat) (ok : Nat → Prop) (vd vm vl : Value) (e : Eng) (k : Int) (x : Ending) (w' : World) : Prop := x = .returned (.int .i64 (k + (cntE e : Int))) ∧ OwnEk w' b ok vd vm vl (mkE e k) ∧ Wrote w w' ok
set_option maxRecDepth 100000 in
set_option maxHeartbeats 8000000 in
theorem markEngine_calls {w : World} {b : Nat} {ok : Nat → Prop} {vd vm vl : Value} {e : Eng} (k : Int) (hk0 : 0 ≤ k) (hk1 : k ≤ 1000000) (hf : fewE e) (h : OwnEk w b ok vd vm vl e) : Calls Tryz.prog 16 #[e.ag vd vm vl, .int .i64 k] w (RetMkE w b ok vd vm vl e k) := by
  obtain ⟨c1, c2, c3, c4⟩ := cntE_few hf
  have hlk := h.lk
  obtain ⟨okd, okm, h1, h2, h3, h4, h5⟩ := h.ex
  have hl := h.l
  have hd : OwnPk w b (fun k => okd k ∧ some k ≠ vl.ownBlock) vd e.disk := Kd.S_apart' h4 (rs_typed hl) pages_ne_recs
  have hm : OwnPk w b (fun k => okm k ∧ some k ≠ vl.ownBlock) vm e.mem := Kd.S_apart' h5 (rs_typed hl) pages_ne_recs
  have hr : RR w b (fun k => some k = vl.ownBlock) vl e.log := Kd.R_tight rfl hl
  obtain ⟨W1, hW1⟩ : ∃ W1, w.alloc (e.obox vd vm vl) = W1 := ⟨_, rfl⟩
  have HW1 := Aside0.mk hW1
  have hb1 : Below w.heap.size w W1 := by rw [← hW1]; exact bel_alloc (Below.refl _ _) _
  have hq1 : EgBox W1 w.heap.size e vd vm vl := by rw [← hW1]; exact EgBox.mk1 _ _ _ _ _
  have HD := Aside0.mk (Kd.S_below hd hb1)
  have HM := Aside0.mk (Kd.S_below hm hb1)
  have HR := Aside0.mk (Kd.R_below hr hb1)
  have HB1 := Aside0.mk hb1
  have HQ1 := Aside0.mk hq1
  have HLK := Aside0.mk hlk
  have H1 := Aside0.mk h1
  have H2 := Aside0.mk h2
  have H3 := Aside0.mk h3
  have hlt : ∀ k, (okd k ∧ some k ≠ vl.ownBlock) ∨ (okm k ∧ some k ≠ vl.ownBlock) ∨ some k = vl.ownBlock → True := fun _ _ => trivial
  obtain ⟨a, ha⟩ : ∃ a : Int, (cntP e.disk : Int) = a := ⟨_, rfl⟩
  obtain ⟨a', ha'⟩ : ∃ a' : Int, (cntP e.mem : Int) = a' := ⟨_, rfl⟩
  have HA := Aside0.mk ha
  have HA' := Aside0.mk ha'
  have HN := Aside0.mk (show 0 ≤ k + a ∧ k + a + a' ≤ 8000000000000000000 ∧ 0 ≤ k + a + a' ∧ k + a + a' + 8 * (e.log.length : Int) ≤ 8000000000000000000 ∧ k + a ≤ 8000000000000000000 by omega)
  have HK0 := Aside0.mk hk0
  -- the variable's block is none of the engine's
  have hsz : ∀ (W : World) (ps : List Page) (v : Value) (ok1 : Nat → Prop), OwnPk w b ok1 v ps → OwnPk W1 b (fun k => ok1 k ∧ k < w.heap.size) v ps := fun W ps v ok1 hp => Kd.S_old hp hb1
  have hd1 := hsz W1 _ _ _ hd
  have hm1 := hsz W1 _ _ _ hm
  have hr1 : RR W1 b (fun k => some k = vl.ownBlock ∧ k < w.heap.size) vl e.log := Kd.R_old hr hb1
  have HD1 := Aside0.mk hd1
  have HM1 := Aside0.mk hm1
  have HR1 := Aside0.mk hr1
  have x0 := hq1.c0
  clear hd hm hr hW1 hb1 hq1 HD HM HR hlk h1 h2 h3 h4 h5 hl h hlt ha ha' hk0 hk1 hsz hd1 hm1 hr1 c1 c2 c3 c4
  go_enter Tryz.func16, Tryz.ntmps16
  go_wp2_with (first
    | (go_at_call 42; go_loud (rw [HW1.out]); go_loud (refine (markPageS_calls k HK0.out (by rw [HA.out]; exact HN.out.2.2.2.2) HD1.out).mono ?_); go_loud (unfold RetMkP; rw [HA.out]); rintro x w2 ⟨rfl, hs2, hk2⟩; have HS2 := Aside0.mk hs2; have HK2 := Aside0.mk hk2; have hq2 : EgBox w2 w.heap.size e vd vm vl := (hk2.kept.2 _ HQ1.out.lt (fun hx => by have := hx.2; omega)).trans HQ1.out; have HQ2 := Aside0.mk hq2; have x1 := hq2.c1; have HM2 := Aside0.mk (Kd.S_kept HM1.out hk2.kept (fun m hm hd => H1.out m hd.1.1 hm.1.1)); have HR2 := Aside0.mk (Kd.R_kept HR1.out hk2.kept (fun m hm hd => hd.1.2 hm.1)); clear hs2 hk2 hq2 x0)
    | (go_at_call 42; refine (markPageS_calls (k + a) HN.out.1 (by rw [HA'.out]; exact HN.out.2.1) HM2.out).mono ?_; unfold RetMkP; rw [HA'.out]; rintro x w3 ⟨rfl, hs3, hk3⟩; have HS3 := Aside0.mk hs3; have HK3 := Aside0.mk hk3; have hq3 : EgBox w3 w.heap.size e vd vm vl := (hk3.kept.2 _ HQ2.out.lt (fun hx => by have := hx.2; omega)).trans HQ2.out; have HQ3 := Aside0.mk hq3; have x2 := hq3.c2; have HD3 := Aside0.mk (Kd.S_kept HS2.out hk3.kept (fun m hd hm => H1.out m hd.1.1 hm.1.1)); have HR3 := Aside0.mk (Kd.R_kept HR2.out hk3.kept (fun m hm hd => hd.1.2 hm.1)); clear hs3 hk3 hq3 x1)
    | (go_at_call 43; refine (markRecS_calls (k + a + a') HN.out.2.2.1 HN.out.2.2.2.1 HR3.out).mono ?_; rintro x w4 ⟨rfl, hs4, hk4⟩; have HS4 := Aside0.mk hs4; have HK4 := Aside0.mk hk4; have HD4 := Aside0.mk (Kd.S_kept HD3.out hk4.kept (fun m hd hm => hd.1.2 hm.1)); have HM4 := Aside0.mk (Kd.S_kept HS3.out hk4.kept (fun m hd hm => hd.1.2 hm.1)); clear hs4 hk4))
  go_ret
  refine ⟨ret_int (by have := HA.out; have := HA'.out; unfold cntE; omega), ⟨⟨fun m => (okd m ∧ some m ≠ vl.ownBlock) ∧ m < w.heap.size, fun m => (okm m ∧ some m ≠ vl.ownBlock) ∧ m < w.heap.size, fun m hm hn => H1.out m hm.1.1 hn.1.1, fun m hm => H2.out m hm.1.1, fun m hm => H3.out m hm.1.1, HD4.out, by unfold mkE; rw [HA.out]; exact HM4.out⟩, ?_, HLK.out⟩, ?_⟩
  · unfold mkE
    rw [HA.out, HA'.out]
    exact Kd.R_mono HS4.out (fun _ _ => trivial)
  · exact (((Wrote.of_below HB1.out ok).then_ HK2.out (fun m hm => .inl (H2.out m hm.1.1))).then_ HK3.out (fun m hm => .inl (H3.out m hm.1.1))).then_ HK4.out (fun m hm => .inl (HLK.out m hm.1.symm))
set_option maxRecDepth 100000 in
set_option maxHeartbeats 8000000 in
theorem heldEngine_calls {w0 w : World} {e : Eng} {Ad Am Al : Option Addr} {cd cm cl : Nat} (k : Int) (hk0 : 0 ≤ k) (hk1 : k ≤ 1000000) (hf : fewE e) (hb : Below w0.heap.size w0 w) (hr : EngC w0 (mkE e k) Ad Am Al) : Calls Tryz.prog 17 #[e.val Ad Am Al cd cm cl, .int .i64 k] w fun x w' => x = .returned (.int .i64 (k + (cntE e : Int))) ∧ Below w.heap.size w w' := by
  obtain ⟨c1, c2, c3, c4⟩ := cntE_few hf
  have hr' := hr.up hb
  obtain ⟨a, ha⟩ : ∃ a : Int, (cntP e.disk : Int) = a := ⟨_, rfl⟩
  obtain ⟨a', ha'⟩ : ∃ a' : Int, (cntP e.mem : Int) = a' := ⟨_, rfl⟩
  obtain ⟨h1, h2, h3⟩ := hr'
  have g1 : Kd.C kPage w Ad e.disk.length (mkPs e.disk k) := by have := h1; rwa [show (mkE e k).disk.length = e.disk.length from mkPs_len _ _] at this
  have g2 : Kd.C kPage w Am e.mem.length (mkPs e.mem (k + a)) := by have := h2; rw [show (mkE e k).mem.length = e.mem.length from mkPs_len _ _] at this; rw [← ha]; exact this
  have g3 : Kd.C kRec w Al e.log.length (mkRs e.log.length (k + a + a')) := by have := h3; rw [show (mkE e k).log.length = e.log.length from mkRs_len _ _] at this; rw [← ha, ← ha']; exact this
  have G1 := Aside0.mk g1
  have G2 := Aside0.mk g2
  have G3 := Aside0.mk g3
  have HA := Aside0.mk ha
  have HA' := Aside0.mk ha'
  have HN := Aside0.mk (show 0 ≤ k + a ∧ k + a + a' ≤ 8000000000000000000 ∧ 0 ≤ k + a + a' ∧ k + a + a' + 8 * (e.log.length : Int) ≤ 8000000000000000000 ∧ k + a ≤ 8000000000000000000 by omega)
  have HK0 := Aside0.mk hk0
  have z1 : decide (k + a < 0) = false := by simp; omega
  have z2 : decide (k + a + a' < 0) = false := by simp; omega
  have z3 : decide (k + a + a' + 8 * (e.log.length : Int) < 0) = false := by simp; omega
  obtain ⟨W1, hW1⟩ : ∃ W1, w.alloc (e.obox (.slice Ad e.disk.length cd) (.slice Am e.mem.length cm) (.slice Al e.log.length cl)) = W1 := ⟨_, rfl⟩
  have HW1 := Aside0.mk hW1
  have HB1 : Aside0 (Below w.heap.size w W1) := ⟨by rw [← hW1]; exact bel_alloc (Below.refl _ _) _⟩
  have hq1 : EgBox W1 w.heap.size e (.slice Ad e.disk.length cd) (.slice Am e.mem.length cm) (.slice Al e.log.length cl) := by rw [← hW1]; exact EgBox.mk1 _ _ _ _ _
  have x0 := hq1.c0
  have x1 := hq1.c1
  have x2 := hq1.c2
  clear c1 c2 c3 c4 h1 h2 h3 g1 g2 g3 ha ha' hr hb hk0 hk1 hW1 hq1
  go_enter Tryz.func17, Tryz.ntmps17
  go_wp2_with (first
    | (go_at_call 44; rw [HW1.out]; refine (heldPageS_calls (w0 := w) (c := cd) k HK0.out (by rw [HA.out]; exact HN.out.2.2.2.2) HB1.out G1.out).mono ?_; rw [HA.out]; rintro x w2 ⟨rfl, rfl⟩)
    | (go_at_call 44; refine (heldPageS_calls (w0 := w) (c := cm) (k + a) HN.out.1 (by rw [HA'.out]; exact HN.out.2.1) HB1.out G2.out).mono ?_; rw [HA'.out]; rintro x w3 ⟨rfl, rfl⟩)
    | (go_at_call 45; refine (heldRecS_calls (w0 := w) (c := cl) (k + a + a') HN.out.2.2.1 HN.out.2.2.2.1 HB1.out G3.out).mono ?_; rintro x w4 ⟨rfl, rfl⟩))
  go_ret
  exact ⟨ret_int (by have := HA.out; have := HA'.out; unfold cntE; omega), HB1.out⟩
end Go.Proofs.YtlmlcnokiipilaaGreat

/- The program's prefixesOk. -/
namespace Go.Proofs.YtlmlcnokiipilaaGreat
open Go.RowKit Go.Proofs.YtlmlcnokiipilaaGreatW.PrintWords Go.Proofs.YtlmlcnokiipilaaGreatW.PrintLast Go.Proofs.YtlmlcnokiipilaaGreatW.PrintMore

theorem take_ok {l : List Rec} (hl : logOk l = true) (n : Nat) : ∀ k, k < (l.take n).length → recOk (rc (l.take n) k) = true := fun k hk => (logOk_facts (logOk_take hl n) hk).ok
set_option maxRecDepth 100000 in
set_option maxHeartbeats 4000000 in
theorem prefixesOk_calls {w0 w : World} {e : Eng} {Ad Am Al : Option Addr} {cd cm cl : Nat} {b : Bool} (hv : prefsB e (e.log.length + 1 - e.safe.toNat) e.safe.toNat = b) (hs0 : 0 ≤ e.safe) (hs1 : e.safe ≤ e.log.length) (hg : geo e.disk) (hl : logOk e.log = true) (hcl : e.log.length ≤ cl) (hb : Below w0.heap.size w0 w) (hr : EngC w0 e Ad Am Al) : Calls Tryz.prog 59 #[e.val Ad Am Al cd cm cl] w fun x w' => x = .returned (.bool b) ∧ Below w.heap.size w w' := by
  have HR := Aside0.mk (hr.up hb)
  have HG := Aside0.mk hg
  have HL := Aside0.mk hl
  have HV := Aside0.mk hv
  have hm := logOk_len hl
  obtain ⟨s, hs⟩ : ∃ s : Nat, e.safe = s := ⟨e.safe.toNat, by omega⟩
  have HS := Aside0.mk hs
  have hs2 : s ≤ e.log.length := by omega
  clear hr hb hg hl hv hs0 hs1 hs
  obtain ⟨w1, hw1⟩ : ∃ w1, w.alloc (e.obox (.slice Ad e.disk.length cd) (.slice Am e.mem.length cm) (.slice Al e.log.length cl)) = w1 := ⟨_, rfl⟩
  have HW1 := Aside0.mk hw1
  have HB1 : Aside0 (Below w.heap.size w w1) := ⟨by rw [← hw1]; exact bel_alloc (Below.refl _ _) _⟩
  have HQ1 : Aside0 (EgBox w1 w.heap.size e (.slice Ad e.disk.length cd) (.slice Am e.mem.length cm) (.slice Al e.log.length cl)) := ⟨by rw [← hw1]; exact EgBox.mk1 _ _ _ _ _⟩
  clear hw1
  go_enter Tryz.func59, Tryz.ntmps59
  go_wp2
  rw [HW1.out]
  go_loopw [3] (fun i wr => ∃ n : Nat, s ≤ n ∧ n ≤ e.log.length + 1 ∧ i = .int .i64 (n : Int) ∧ Aside0 (prefsB e (e.log.length + 1 - n) n = b) ∧ Aside0 (Below w1.heap.size w1 wr)) (fun i _ => (e.log.length + 1 - intOf i).toNat)
  case atStart => exact ⟨s, Nat.le_refl _, by omega, by rw [HS.out], ⟨by have := HV.out; rw [HS.out] at this; exact this⟩, ⟨Below.refl _ _⟩⟩
  case round =>
    obtain ⟨n, hn1, hn2, rfl, HK, HW⟩ := hrel
    have HWW := Aside0.mk (bel_then HB1.out HW.out)
    have HQ := Aside0.mk (HQ1.out.up HW.out)
    have x0 := HQ.out.c0
    have x2 := HQ.out.c2
    by_cases hlt : n ≤ e.log.length
    · have hl : (e.log.take n).length = n := by rw [List.length_take]; omega
      obtain ⟨ps, hps⟩ : ∃ ps, redoN e.disk (e.log.take n) (e.log.take n).length = ps := ⟨_, rfl⟩
      obtain ⟨ok, hok⟩ : ∃ ok, psOk ps = ok := ⟨_, rfl⟩
      have hgeo : geo ps := by rw [← hps]; exact geo_redo HG.out (take_ok HL.out n) _ (Nat.le_refl _)
      have HGP := Aside0.mk hgeo
      have HPS := Aside0.mk (And.intro hps hok)
      have hcall : ∀ wx, Below wr.heap.size wr wx → Calls Tryz.prog 60 #[.slice Ad e.disk.length cd, .slice Al n cl] wx (RetPB wx ps ok) := fun wx hb => by
        have h := redo_calls (c := cd) (d := cl) HG.out (take_ok HL.out n) (by omega) hb (C_up HR.out.d HWW.out) (take_C (C_up HR.out.l HWW.out) hlt)
        rw [hps, hok, hl] at h
        exact h
      have HLn := Aside0.mk hl
      clear hps hok hl hgeo
      have hncl : n ≤ cl := Nat.le_trans hlt hcl
      go_wp2
      refine reg_start (fun lx a wx => Below wr.heap.size wr wx ∧ Sl 6 22 (fun v wx => ∃ u, v = .tuple #[u, .bool ok] ∧ OwnPs wx wr.heap.size u ps) lx a wx) 12 rfl (by kernel_rfl) (⟨below_drew (Below.refl _ _), sl_start⟩) (fun HT => ?_)
      refine reg_val (i := 0) (v := ?_) HT rfl (by kernel_rfl) rfl (keeps_and keeps_world (keeps_sl rfl rfl)) (by rfl) (fun _ _ _ h => h) (fun lx ax wx hS => ?_) ?_; rotate_left; (have hbx := hS.1; clear hS; replace x0 := bel_cell hbx x0; replace x2 := bel_cell hbx x2; go_simp; with_reducible rfl); rotate_left; simp only [List.set_cons_zero, List.set_cons_succ]
      refine reg_val (i := 1) (v := ?_) HT rfl (by kernel_rfl) rfl (keeps_and keeps_world (keeps_sl rfl rfl)) (by rfl) (fun _ _ _ h => h) (fun lx ax wx hS => ?_) ?_; rotate_left; (have hbx := hS.1; clear hS; replace x0 := bel_cell hbx x0; replace x2 := bel_cell hbx x2; go_simp; with_reducible rfl); rotate_left; simp only [List.set_cons_zero, List.set_cons_succ]
      refine reg_val (i := 2) (v := ?_) HT rfl (by kernel_rfl) rfl (keeps_and keeps_world (keeps_sl rfl rfl)) (by rfl) (fun _ _ _ h => h) (fun lx ax wx hS => ?_) ?_; rotate_left; (have hbx := hS.1; clear hS; replace x0 := bel_cell hbx x0; replace x2 := bel_cell hbx x2; go_simp; with_reducible rfl); rotate_left; simp only [List.set_cons_zero, List.set_cons_succ]
      refine reg_val (i := 3) (v := ?_) HT rfl (by kernel_rfl) rfl (keeps_and keeps_world (keeps_sl rfl rfl)) (by rfl) (fun _ _ _ h => h) (fun lx ax wx hS => ?_) ?_; rotate_left; (have hbx := hS.1; clear hS; replace x0 := bel_cell hbx x0; replace x2 := bel_cell hbx x2; go_simp; with_reducible rfl); rotate_left; simp only [List.set_cons_zero, List.set_cons_succ]
      refine reg_val (i := 4) (v := ?_) HT rfl (by kernel_rfl) rfl (keeps_and keeps_world (keeps_sl rfl rfl)) (by rfl) (fun _ _ _ h => h) (fun lx ax wx hS => ?_) ?_; rotate_left; (have hbx := hS.1; clear hS; replace x0 := bel_cell hbx x0; replace x2 := bel_cell hbx x2; go_simp; with_reducible rfl); rotate_left; simp only [List.set_cons_zero, List.set_cons_succ]
      refine reg_val (i := 5) (v := ?_) HT rfl (by kernel_rfl) rfl (keeps_and keeps_world (keeps_sl rfl rfl)) (by rfl) (fun _ _ _ h => h) (fun lx ax wx hS => ?_) ?_; rotate_left; (have hbx := hS.1; clear hS; replace x0 := bel_cell hbx x0; replace x2 := bel_cell hbx x2; go_simp; with_reducible rfl); rotate_left; simp only [List.set_cons_zero, List.set_cons_succ]
      refine reg_only (i := 6) (f := 60) (args := #[.slice Ad e.disk.length cd, .slice Al n cl]) (fun v => ∃ u, v = .tuple #[u, .bool ok]) rfl (by kernel_rfl) rfl Tryz.func60 (by kernel_rfl) rfl rfl (by rfl) (by simp only [List.map_toArray, List.map_cons, List.map_nil]; rfl) (fun wx hS => (hcall wx hS.1).mono (by rintro e w6 ⟨u, rfl, ho, hb⟩; exact ⟨_, rfl, ⟨u, rfl⟩, bel_then hS.1 hb, fun _ => ⟨u, rfl, Kd.S_lower ho hS.1.size⟩⟩)) (fun vx hg => ?_); simp only [List.set_cons_zero, List.set_cons_succ]
      obtain ⟨u, rfl⟩ := hg
      refine reg_val (i := 7) (v := ?_) HT rfl (by kernel_rfl) rfl (keeps_and keeps_world (keeps_sl rfl rfl)) (by rfl) (fun _ _ _ h => h) (fun lx ax wx hS => ?_) ?_; rotate_left; (go_simp; with_reducible rfl); rotate_left; simp only [List.set_cons_zero, List.set_cons_succ]
      refine reg_val (i := 8) (v := ?_) HT rfl (by kernel_rfl) rfl (keeps_and keeps_world (keeps_sl rfl rfl)) (by rfl) (fun _ _ _ h => h) (fun lx ax wx hS => ?_) ?_; rotate_left; (go_simp; with_reducible rfl); rotate_left; simp only [List.set_cons_zero, List.set_cons_succ]
      refine reg_val (i := 9) (v := ?_) HT rfl (by kernel_rfl) rfl (keeps_and keeps_world (keeps_sl rfl rfl)) (by rfl) (fun _ _ _ h => h) (fun lx ax wx hS => ?_) ?_; rotate_left; (go_simp; with_reducible rfl); rotate_left; simp only [List.set_cons_zero, List.set_cons_succ]
      refine reg_val (i := 10) (v := ?_) HT rfl (by kernel_rfl) rfl (keeps_and keeps_world (keeps_sl rfl rfl)) (by rfl) (fun _ _ _ h => h) (fun lx ax wx hS => ?_) ?_; rotate_left; (go_simp; with_reducible rfl); rotate_left; simp only [List.set_cons_zero, List.set_cons_succ]
      refine reg_val (i := 11) (v := ?_) HT rfl (by kernel_rfl) rfl (keeps_and keeps_world (keeps_sl rfl rfl)) (by rfl) (fun _ _ _ h => h) (fun lx ax wx hS => ?_) ?_; rotate_left; (go_simp; with_reducible rfl); rotate_left; simp only [List.set_cons_zero, List.set_cons_succ]
      refine reg_end (by kernel_rfl) (fun wx hS => ?_)
      obtain ⟨h1, h2⟩ := hS
      obtain ⟨u1, hu1, hown⟩ := h2 (by kernel_rfl)
      have hu1 : Value.tuple #[u, .bool ok] = .tuple #[u1, .bool ok] := hu1
      obtain rfl : u = u1 := by simpa using hu1
      obtain ⟨g, cap, rfl, hgb, hgl⟩ := psS_form hown (by rw [HGP.out.1]; omega)
      have HO := Aside0.mk (Kd.S_R hown)
      have HX := Aside0.mk h1
      rw [HGP.out.1] at HO ⊢
      replace x0 := bel_cell h1 x0
      replace x2 := bel_cell h1 x2
      clear h1 h2 hu1 hown hcall hgb hgl
      have HP := Aside0.mk (show prefsB e (e.log.length + 1 - n) n = (prefB e n && prefsB e (e.log.length + 1 - (n + 1)) (n + 1)) by rw [show e.log.length + 1 - n = (e.log.length + 1 - (n + 1)) + 1 by omega, prefsB])
      cases ok
      · go_wp2
        go_ret
        exact ⟨ret_bool (by rw [← HK.out, HP.out, prefB, HPS.out.1, HPS.out.2]; rfl), bel_then HWW.out HX.out⟩
      · obtain ⟨ub, hub⟩ : ∃ ub, undoneB (e.log.take n) ps = ub := ⟨_, rfl⟩
        have hcall2 : Calls Tryz.prog 112 #[.slice (some ⟨g, 0, none⟩) 5 cap, .slice Al n cl] wx fun x w' => x = .returned (.bool ub) ∧ Below wr.heap.size wr w' := by
          have h := undone_calls (d := cl) hub HGP.out (logOk_take HL.out n) HO.out HX.out (take_C (C_up HR.out.l HWW.out) hlt)
          rw [HLn.out] at h
          exact h
        have HUB := Aside0.mk hub
        clear hub
        cases ub
        · go_wp2_with (go_at_call 112; refine hcall2.mono ?_; rintro x w7 ⟨rfl, hb7⟩; have HB7 := Aside0.mk hb7; clear hb7)
          go_ret
          exact ⟨ret_bool (by rw [← HK.out, HP.out, prefB, HPS.out.1, HPS.out.2, HUB.out]; rfl), bel_then HWW.out HB7.out⟩
        · go_wp2_with (go_at_call 112; refine hcall2.mono ?_; rintro x w7 ⟨rfl, hb7⟩; have HB7 := Aside0.mk hb7; clear hb7)
          go_roundw
          case rel => exact ⟨n + 1, by omega, by omega, by go_num, ⟨by rw [← HK.out, HP.out, prefB, HPS.out.1, HPS.out.2, HUB.out]; rfl⟩, ⟨bel_then HW.out HB7.out⟩⟩
          case measure => simp [intOf]; omega
    · go_wp2
      go_ret
      exact ⟨ret_bool (by rw [← HK.out, show e.log.length + 1 - n = 0 by omega]; rfl), HWW.out⟩
end Go.Proofs.YtlmlcnokiipilaaGreat

/- The program's memOk. -/
namespace Go.Proofs.YtlmlcnokiipilaaGreat
open Go.RowKit Go.Proofs.YtlmlcnokiipilaaGreatW.PrintWords Go.Proofs.YtlmlcnokiipilaaGreatW.PrintLast Go.Proofs.YtlmlcnokiipilaaGreatW.PrintMore

/-- Is a page in memory as it must be? -/
def memQ (e : Eng) (p : Nat) (q : Page) : Bool :=
  if loadR e.log p 3 = true then (pg e.mem p).owner == q.owner && (pg e.mem p).lsn == lastOfN e.log p e.log.length && (decide ((pg e.disk p).lsn < (pg e.mem p).lsn) || samePg (pg e.mem p) (pg e.disk p))
  else samePg (pg e.mem p) q
theorem zpBox (w : World) : PgBox (w.alloc pageCell) w.heap.size zp (.slice none 0 0) := PgBox.mk1 w zp (.slice none 0 0)
set_option maxRecDepth 100000 in
set_option maxHeartbeats 8000000 in
theorem memOk_calls {w0 w : World} {e : Eng} {Ad Am Al Ar : Option Addr} {cd cm cl cr : Nat} {p : Nat} {q : Page} {b : Bool} (hv : memQ e p q = b) (hp : p < 5) (hd : e.disk.length = 5) (hm : e.mem.length = 5) (hl : logOk e.log = true) (hb : Below w0.heap.size w0 w) (hr : EngC w0 e Ad Am Al) (hq : Kd.C (Kd.int .i64) w0 Ar q.vals.length q.vals) : Calls Tryz.prog 63 #[e.val Ad Am Al cd cm cl, .int .i64 p, q.val Ar cr] w fun x w' => x = .returned (.bool b) ∧ Below w.heap.size w w' := by
  have HR := Aside0.mk (hr.up hb)
  have HRq := Aside0.mk (C_up hq hb)
  have HL := Aside0.mk hl
  have HV := Aside0.mk hv
  clear hr hb hq hl hv
  obtain ⟨adm, Am2, cm2, rfl, QM, -, hmC⟩ := at_page HR.out.m p (by omega)
  obtain ⟨add, Ad2, cd2, rfl, QD, -, hdC⟩ := at_page HR.out.d p (by omega)
  have HQM := Aside0.mk QM
  have HQD := Aside0.mk QD
  have HMC := Aside0.mk hmC
  have HDC := Aside0.mk hdC
  obtain ⟨M, hM⟩ : ∃ M, pg e.mem p = M := ⟨_, rfl⟩
  obtain ⟨Dp, hD⟩ : ∃ Dp, pg e.disk p = Dp := ⟨_, rfl⟩
  rw [hM] at HQM HMC
  rw [hD] at HQD HDC
  have HMD := Aside0.mk (And.intro hM hD)
  clear QM QD hmC hdC hM hD
  obtain ⟨w1, hw1⟩ : ∃ w1, w.alloc (e.obox (.slice (some add) e.disk.length cd) (.slice (some adm) e.mem.length cm) (.slice Al e.log.length cl)) = w1 := ⟨_, rfl⟩
  obtain ⟨w2, hw2⟩ : ∃ w2, w1.alloc (q.box Ar cr) = w2 := ⟨_, rfl⟩
  have hz1 : w1.heap.size = w.heap.size + 1 := by rw [← hw1]; exact size1 _ _
  have hz2 : w2.heap.size = w.heap.size + 2 := by rw [← hw2, size1, hz1]
  have hb1 : Below w.heap.size w w1 := by rw [← hw1]; exact bel_alloc (Below.refl _ _) _
  have hb12 : Below w1.heap.size w1 w2 := by rw [← hw2]; exact bel_alloc (Below.refl _ _) _
  have HB2 := Aside0.mk (bel_then hb1 hb12)
  have HQ2 : Aside0 (EgBox w2 w.heap.size e (.slice (some add) e.disk.length cd) (.slice (some adm) e.mem.length cm) (.slice Al e.log.length cl)) := ⟨EgBox.up (by rw [← hw1]; exact EgBox.mk1 _ _ _ _ _) hb12⟩
  have HP2 : Aside0 (PgBox w2 (w.heap.size + 1) q (.slice Ar q.vals.length cr)) := ⟨by rw [← hw2, ← hz1]; exact PgBox.mk1 _ _ _⟩
  have HW2 : Aside0 ((w.alloc (e.obox (.slice (some add) e.disk.length cd) (.slice (some adm) e.mem.length cm) (.slice Al e.log.length cl))).alloc (q.box Ar cr) = w2) := ⟨by rw [hw1, hw2]⟩
  have HZ2 := Aside0.mk hz2
  clear hw1 hw2 hz1 hz2 hb1 hb12
  have hpm : p < e.mem.length := by omega
  have hpd : p < e.disk.length := by omega
  clear hd hm
  go_enter Tryz.func63, Tryz.ntmps63
  go_wp2
  rw [HW2.out]
  have hQM := HQM.out.up HB2.out
  have hQD := HQD.out.up HB2.out
  obtain ⟨m0, m1, m2⟩ := hQM
  obtain ⟨d0, d1, d2⟩ := hQD
  have x0 := HQ2.out.c0
  have x1 := HQ2.out.c1
  refine reg_start (fun lx a wx => Below w2.heap.size w2 wx ∧ (Sl 10 7 (fun v wx => ∃ B, v = ptr B ∧ w2.heap.size ≤ B ∧ ∃ p u, PgBox wx B p u) lx a wx ∧ (Sl 11 8 (fun v wx => ∃ B, v = ptr B ∧ w2.heap.size ≤ B ∧ ∃ p u, PgBox wx B p u) lx a wx ∧ Sl 12 7 (fun v wx => ∃ B, v = ptr B ∧ PgBox wx B M (.slice Am2 M.vals.length cm2)) lx a wx))) 13 rfl (by kernel_rfl) (⟨below_drew (Below.refl _ _), sl_start, sl_start, sl_start⟩) (fun HT => ?_)
  refine reg_val (i := 0) (v := ?_) HT rfl (by kernel_rfl) rfl (keeps_and keeps_world (keeps_and (keeps_sl rfl rfl) (keeps_and (keeps_sl rfl rfl) (keeps_sl rfl rfl)))) (by rfl) (fun _ _ _ h => h) (fun lx ax wx hS => ?_) ?_; rotate_left; (have hbx := hS.1; clear hS; replace x0 := bel_cell hbx x0; replace x1 := bel_cell hbx x1; replace m0 := bel_cell hbx m0; replace m1 := bel_cell hbx m1; replace m2 := bel_cell hbx m2; replace d0 := bel_cell hbx d0; replace d1 := bel_cell hbx d1; replace d2 := bel_cell hbx d2; go_simp; with_reducible rfl); rotate_left; simp only [List.set_cons_zero, List.set_cons_succ]
  refine reg_val (i := 1) (v := ?_) HT rfl (by kernel_rfl) rfl (keeps_and keeps_world (keeps_and (keeps_sl rfl rfl) (keeps_and (keeps_sl rfl rfl) (keeps_sl rfl rfl)))) (by rfl) (fun _ _ _ h => h) (fun lx ax wx hS => ?_) ?_; rotate_left; (have hbx := hS.1; clear hS; replace x0 := bel_cell hbx x0; replace x1 := bel_cell hbx x1; replace m0 := bel_cell hbx m0; replace m1 := bel_cell hbx m1; replace m2 := bel_cell hbx m2; replace d0 := bel_cell hbx d0; replace d1 := bel_cell hbx d1; replace d2 := bel_cell hbx d2; go_simp; with_reducible rfl); rotate_left; simp only [List.set_cons_zero, List.set_cons_succ]
  refine reg_val (i := 2) (v := ?_) HT rfl (by kernel_rfl) rfl (keeps_and keeps_world (keeps_and (keeps_sl rfl rfl) (keeps_and (keeps_sl rfl rfl) (keeps_sl rfl rfl)))) (by rfl) (fun _ _ _ h => h) (fun lx ax wx hS => ?_) ?_; rotate_left; (have hbx := hS.1; clear hS; replace x0 := bel_cell hbx x0; replace x1 := bel_cell hbx x1; replace m0 := bel_cell hbx m0; replace m1 := bel_cell hbx m1; replace m2 := bel_cell hbx m2; replace d0 := bel_cell hbx d0; replace d1 := bel_cell hbx d1; replace d2 := bel_cell hbx d2; go_simp; with_reducible rfl); rotate_left; simp only [List.set_cons_zero, List.set_cons_succ]
  refine reg_val (i := 3) (v := ?_) HT rfl (by kernel_rfl) rfl (keeps_and keeps_world (keeps_and (keeps_sl rfl rfl) (keeps_and (keeps_sl rfl rfl) (keeps_sl rfl rfl)))) (by rfl) (fun _ _ _ h => h) (fun lx ax wx hS => ?_) ?_; rotate_left; (have hbx := hS.1; clear hS; replace x0 := bel_cell hbx x0; replace x1 := bel_cell hbx x1; replace m0 := bel_cell hbx m0; replace m1 := bel_cell hbx m1; replace m2 := bel_cell hbx m2; replace d0 := bel_cell hbx d0; replace d1 := bel_cell hbx d1; replace d2 := bel_cell hbx d2; go_simp; with_reducible rfl); rotate_left; simp only [List.set_cons_zero, List.set_cons_succ]
  refine reg_val (i := 4) (v := ?_) HT rfl (by kernel_rfl) rfl (keeps_and keeps_world (keeps_and (keeps_sl rfl rfl) (keeps_and (keeps_sl rfl rfl) (keeps_sl rfl rfl)))) (by rfl) (fun _ _ _ h => h) (fun lx ax wx hS => ?_) ?_; rotate_left; (have hbx := hS.1; clear hS; replace x0 := bel_cell hbx x0; replace x1 := bel_cell hbx x1; replace m0 := bel_cell hbx m0; replace m1 := bel_cell hbx m1; replace m2 := bel_cell hbx m2; replace d0 := bel_cell hbx d0; replace d1 := bel_cell hbx d1; replace d2 := bel_cell hbx d2; go_simp; with_reducible rfl); rotate_left; simp only [List.set_cons_zero, List.set_cons_succ]
  refine reg_val (i := 5) (v := ?_) HT rfl (by kernel_rfl) rfl (keeps_and keeps_world (keeps_and (keeps_sl rfl rfl) (keeps_and (keeps_sl rfl rfl) (keeps_sl rfl rfl)))) (by rfl) (fun _ _ _ h => h) (fun lx ax wx hS => ?_) ?_; rotate_left; (have hbx := hS.1; clear hS; replace x0 := bel_cell hbx x0; replace x1 := bel_cell hbx x1; replace m0 := bel_cell hbx m0; replace m1 := bel_cell hbx m1; replace m2 := bel_cell hbx m2; replace d0 := bel_cell hbx d0; replace d1 := bel_cell hbx d1; replace d2 := bel_cell hbx d2; go_simp; with_reducible rfl); rotate_left; simp only [List.set_cons_zero, List.set_cons_succ]
  refine reg_val (i := 6) (v := ?_) HT rfl (by kernel_rfl) rfl (keeps_and keeps_world (keeps_and (keeps_sl rfl rfl) (keeps_and (keeps_sl rfl rfl) (keeps_sl rfl rfl)))) (by rfl) (fun _ _ _ h => h) (fun lx ax wx hS => ?_) ?_; rotate_left; (have hbx := hS.1; clear hS; replace x0 := bel_cell hbx x0; replace x1 := bel_cell hbx x1; replace m0 := bel_cell hbx m0; replace m1 := bel_cell hbx m1; replace m2 := bel_cell hbx m2; replace d0 := bel_cell hbx d0; replace d1 := bel_cell hbx d1; replace d2 := bel_cell hbx d2; go_simp; with_reducible rfl); rotate_left; simp only [List.set_cons_zero, List.set_cons_succ]
  refine reg_val (i := 7) (v := ?_) HT rfl (by kernel_rfl) rfl (keeps_and keeps_world (keeps_and (keeps_sl rfl rfl) (keeps_and (keeps_sl rfl rfl) (keeps_sl rfl rfl)))) (by rfl) (fun _ _ _ h => h) (fun lx ax wx hS => ?_) ?_; rotate_left; (have hbx := hS.1; clear hS; replace x0 := bel_cell hbx x0; replace x1 := bel_cell hbx x1; replace m0 := bel_cell hbx m0; replace m1 := bel_cell hbx m1; replace m2 := bel_cell hbx m2; replace d0 := bel_cell hbx d0; replace d1 := bel_cell hbx d1; replace d2 := bel_cell hbx d2; go_simp; with_reducible rfl); rotate_left; simp only [List.set_cons_zero, List.set_cons_succ]
  refine reg_val (i := 8) (v := ?_) HT rfl (by kernel_rfl) rfl (keeps_and keeps_world (keeps_and (keeps_sl rfl rfl) (keeps_and (keeps_sl rfl rfl) (keeps_sl rfl rfl)))) (by rfl) (fun _ _ _ h => h) (fun lx ax wx hS => ?_) ?_; rotate_left; (have hbx := hS.1; clear hS; replace x0 := bel_cell hbx x0; replace x1 := bel_cell hbx x1; replace m0 := bel_cell hbx m0; replace m1 := bel_cell hbx m1; replace m2 := bel_cell hbx m2; replace d0 := bel_cell hbx d0; replace d1 := bel_cell hbx d1; replace d2 := bel_cell hbx d2; go_simp; with_reducible rfl); rotate_left; simp only [List.set_cons_zero, List.set_cons_succ]
  refine reg_val (i := 9) (v := ?_) HT rfl (by kernel_rfl) rfl (keeps_and keeps_world (keeps_and (keeps_sl rfl rfl) (keeps_and (keeps_sl rfl rfl) (keeps_sl rfl rfl)))) (by rfl) (fun _ _ _ h => h) (fun lx ax wx hS => ?_) ?_; rotate_left; (have hbx := hS.1; clear hS; replace x0 := bel_cell hbx x0; replace x1 := bel_cell hbx x1; replace m0 := bel_cell hbx m0; replace m1 := bel_cell hbx m1; replace m2 := bel_cell hbx m2; replace d0 := bel_cell hbx d0; replace d1 := bel_cell hbx d1; replace d2 := bel_cell hbx d2; go_simp; with_reducible rfl); rotate_left; simp only [List.set_cons_zero, List.set_cons_succ]
  refine reg_allocs2 (ob1 := pageCell) (ob2 := pageCell) 10 11 rfl rfl (by kernel_rfl) rfl rfl rfl (fun _ => rfl) (fun _ => rfl) (fun a wx => by go_simp) (fun a wx => by go_simp) (fun wx hS => ?_) (fun wx hS => ?_) (fun B wx hS => ?_) (fun B wx hS => ?_) (fun B wx hS => ?_) (fun B wx hS => ?_) (fun B1 B2 hne => ?_)
  · exact ⟨bel_alloc hS.1 _, fun _ => ⟨_, rfl, hS.1.size, _, _, zpBox wx⟩, fun h => (no_yes h (by kernel_rfl)).elim, fun h => (no_yes h (by kernel_rfl)).elim⟩
  · exact ⟨bel_alloc hS.1 _, fun h => (no_yes h (by kernel_rfl)).elim, fun _ => ⟨_, rfl, hS.1.size, _, _, zpBox wx⟩, fun h => (no_yes h (by kernel_rfl)).elim⟩
  · obtain ⟨B', h1, _, p', u', h2⟩ := hS.2.1 (by kernel_rfl)
    obtain rfl : B = B' := by simpa [ptr] using h1
    exact (Array.getElem?_eq_some_iff.1 h2).1
  · obtain ⟨B', h1, _, p', u', h2⟩ := hS.2.2.1 (by kernel_rfl)
    obtain rfl : B = B' := by simpa [ptr] using h1
    exact (Array.getElem?_eq_some_iff.1 h2).1
  · obtain ⟨B', h1, h3, p', u', h2⟩ := hS.2.1 (by kernel_rfl)
    exact ⟨bel_alloc hS.1 _, fun _ => ⟨B', h1, h3, p', u', h2.up (bel_alloc (Below.refl _ _) _)⟩, fun _ => ⟨_, rfl, hS.1.size, _, _, zpBox wx⟩, fun h => (no_yes h (by kernel_rfl)).elim⟩
  · obtain ⟨B', h1, h3, p', u', h2⟩ := hS.2.2.1 (by kernel_rfl)
    exact ⟨bel_alloc hS.1 _, fun _ => ⟨_, rfl, hS.1.size, _, _, zpBox wx⟩, fun _ => ⟨B', h1, h3, p', u', h2.up (bel_alloc (Below.refl _ _) _)⟩, fun h => (no_yes h (by kernel_rfl)).elim⟩
  simp only [List.set_cons_zero, List.set_cons_succ]
  refine reg_each [12] (by kernel_rfl) (fun i hi w4 hS => ?_)
  obtain rfl := List.mem_singleton.1 hi
  obtain ⟨h1, h2, h3, -⟩ := hS
  obtain ⟨B, hB, hle1, p1, u1, hbox1⟩ := h2 (by kernel_rfl)
  obtain rfl : B1 = B := by
    have hB : ptr B1 = ptr B := hB
    simpa [ptr] using hB
  obtain ⟨B, hB', hle2, p2, u2, hbox2⟩ := h3 (by kernel_rfl)
  obtain rfl : B2 = B := by
    have hB : ptr B2 = ptr B := hB'
    simpa [ptr] using hB
  have b0 := hbox1.c0
  have b1 := hbox1.c1
  have b2 := hbox1.c2
  have f0 := hbox1.frz 0
  have f1 := hbox1.frz 1
  have f2 := hbox1.frz 2
  refine wpOp_skip (w1 := set3 w4 B1 M (.slice Am2 M.vals.length cm2)) rfl (by rfl) (by go_simp) ?_
  have hfar2 : PgBox (set3 w4 B1 M (.slice Am2 M.vals.length cm2)) B2 p2 u2 := ((hbox2.far hne _ _).far hne _ _).far hne _ _
  refine ⟨⟨bel_set3 h1 hle1 M _, fun _ => ⟨B1, rfl, hle1, M, _, hbox1.set3 M _⟩, fun _ => ⟨B2, rfl, hle2, p2, u2, hfar2⟩, fun _ => ⟨B1, rfl, hbox1.set3 M _⟩⟩, ?_⟩
  clear h1 h2 h3 hB hB' hbox1 hbox2 b0 b1 b2 f0 f1 f2 hfar2 p1 u1 p2 u2
  refine reg_tail (i := 13) (by kernel_rfl) rfl (fun w5 hS => ?_)
  obtain ⟨h1, h2, h3, h4⟩ := hS
  obtain ⟨B, hB, hbox1⟩ := h4 (by kernel_rfl)
  obtain rfl : B1 = B := by
    have hB : ptr B1 = ptr B := hB
    simpa [ptr] using hB
  obtain ⟨B, hB', -, p2, u2, hbox2⟩ := h3 (by kernel_rfl)
  obtain rfl : B2 = B := by
    have hB : ptr B2 = ptr B := hB'
    simpa [ptr] using hB
  have b0 := hbox2.c0
  have b1 := hbox2.c1
  have b2 := hbox2.c2
  have f0 := hbox2.frz 0
  have f1 := hbox2.frz 1
  have f2 := hbox2.frz 2
  refine wpOp_skip (w1 := set3 w5 B2 Dp (.slice Ad2 Dp.vals.length cd2)) rfl (by rfl) (by go_simp) ?_
  have hne' : B2 ≠ B1 := Ne.symm hne
  have hbM : PgBox (set3 w5 B2 Dp (.slice Ad2 Dp.vals.length cd2)) B1 M (.slice Am2 M.vals.length cm2) := ((hbox1.far hne' _ _).far hne' _ _).far hne' _ _
  have hbD := hbox2.set3 Dp (.slice Ad2 Dp.vals.length cd2)
  have hbW := bel_set3 h1 hle2 Dp (.slice Ad2 Dp.vals.length cd2)
  refine regAt_end (by kernel_rfl) ?_
  obtain ⟨W8, hW8⟩ : ∃ W8, set3 w5 B2 Dp (.slice Ad2 Dp.vals.length cd2) = W8 := ⟨_, rfl⟩
  rw [hW8] at hbM hbD hbW ⊢
  have HBM := Aside0.mk hbM
  have HBD := Aside0.mk hbD
  have HBW := Aside0.mk hbW
  clear h1 h2 h3 h4 hB hB' hbox1 hbox2 b0 b1 b2 f0 f1 f2 p2 u2 hW8 hbM hbD hbW m0 m1 m2 d0 d1 d2 x0 x1 hle1 hle2 hi
  have HW8 := Aside0.mk (bel_then HB2.out HBW.out)
  have HQ8 := Aside0.mk (HQ2.out.up HBW.out)
  have HP8 := Aside0.mk (HP2.out.up HBW.out)
  have x2 := HQ8.out.c2
  obtain ⟨ldb, hld⟩ : ∃ ldb, loadR e.log p 3 = ldb := ⟨_, rfl⟩
  have HLD := Aside0.mk hld
  obtain ⟨sR, hsR⟩ : ∃ sR, samePg M q = sR := ⟨_, rfl⟩
  have HSR := Aside0.mk hsR
  obtain ⟨sD, hsD⟩ : ∃ sD, samePg M Dp = sD := ⟨_, rfl⟩
  have HSD := Aside0.mk hsD
  clear hld hsR hsD
  cases ldb
  · have y0 := HP8.out.c0
    have y1 := HP8.out.c1
    have y2 := HP8.out.c2
    have z0 := HBM.out.c0
    have z1 := HBM.out.c1
    have z2 := HBM.out.c2
    go_wp2_with (first | (go_at_call 119; refine (loaded_calls p HLD.out HW8.out HR.out.l HL.out).mono ?_; rintro x w9 ⟨rfl, hb9⟩; have HW9 := Aside0.mk (bel_then HW8.out hb9); have HB9 := Aside0.mk hb9; replace y0 := bel_cell hb9 y0; replace y1 := bel_cell hb9 y1; replace y2 := bel_cell hb9 y2; replace z0 := bel_cell hb9 z0; replace z1 := bel_cell hb9 z1; replace z2 := bel_cell hb9 z2; clear hb9) | (go_at_call 62; refine (same_calls (c := cm2) (d := cr) HSR.out HW9.out HMC.out HRq.out).mono ?_; rintro x w10 ⟨rfl, hb10⟩; have HW10 := Aside0.mk (bel_then HW9.out hb10); clear hb10))
    go_ret
    exact ⟨ret_bool (by rw [← HV.out, memQ, HLD.out, HMD.out.1, HSR.out]; rfl), HW10.out⟩
  · rcases beqs M.owner q.owner with ⟨e1, b1, c1⟩ | ⟨e1, b1, c1⟩
    · rcases beqs M.lsn (lastOfN e.log p e.log.length) with ⟨e2, b2, c2⟩ | ⟨e2, b2, c2⟩
      · rcases lts Dp.lsn M.lsn with ⟨e3, k1, k2⟩ | ⟨e3, k1, k2⟩
        · go_wp2_with (go_at_call 119; refine (loaded_calls p HLD.out HW8.out HR.out.l HL.out).mono ?_; rintro x w9 ⟨rfl, hb9⟩; have HW9 := Aside0.mk (bel_then HW8.out hb9); have HB9 := Aside0.mk hb9; have y0 := bel_cell hb9 HP8.out.c0; have y1 := bel_cell hb9 HP8.out.c1; have y2 := bel_cell hb9 HP8.out.c2; have z0 := bel_cell hb9 HBM.out.c0; have z1 := bel_cell hb9 HBM.out.c1; have z2 := bel_cell hb9 HBM.out.c2; have v0 := bel_cell hb9 HBD.out.c0; have v1 := bel_cell hb9 HBD.out.c1; have v2 := bel_cell hb9 HBD.out.c2; replace x2 := bel_cell hb9 x2; clear hb9)
          refine text_start (fun w' => Below w9.heap.size w9 w') rfl rfl (by kernel_rfl) (below_drew (Below.refl _ _)) (fun HT => ?_)
          repeat (first
            | (refine text_end (fun wx hS => ?_))
            | ((with_reducible refine text_gate (f := 120) rfl ?_); refine text_call (v := .int .i64 (lastOfN e.log p e.log.length)) (args := #[.slice Al e.log.length cl, .int .i64 p]) HT rfl Tryz.func120 (by kernel_rfl) rfl rfl (by rfl) (fun _ _ _ h => h) (by simp only [List.map_toArray, List.map_cons, List.map_nil]; rfl) (fun wx hS => (lastOf_calls p (bel_then HW9.out hS) HR.out.l).mono fun _ _ h => ⟨h.1, bel_then hS h.2⟩) ?_; simp only [List.set_cons_zero, List.set_cons_succ])
            | ((with_reducible refine text_gate (f := 62) rfl ?_); refine text_call (v := .bool sD) (args := #[M.val Am2 cm2, Dp.val Ad2 cd2]) HT rfl Tryz.func62 (by kernel_rfl) rfl rfl (by rfl) (fun _ _ _ h => h) (by simp only [List.map_toArray, List.map_cons, List.map_nil]; rfl) (fun wx hS => (same_calls (c := cm2) (d := cd2) HSD.out (bel_then HW9.out hS) HMC.out HDC.out).mono fun _ _ h => ⟨h.1, bel_then hS h.2⟩) ?_; simp only [List.set_cons_zero, List.set_cons_succ])
            | (refine text_skip HT rfl (by rfl) (fun _ _ _ h => h) ?_; simp only [List.set_cons_zero, List.set_cons_succ])
            | (refine text_val (v := ?_) HT rfl (by rfl) (fun _ _ _ h => h) (fun wx hS => ?_) ?_; rotate_left; (replace y0 := bel_cell hS y0; replace y1 := bel_cell hS y1; replace y2 := bel_cell hS y2; replace z0 := bel_cell hS z0; replace z1 := bel_cell hS z1; replace z2 := bel_cell hS z2; replace v0 := bel_cell hS v0; replace v1 := bel_cell hS v1; replace v2 := bel_cell hS v2; replace x2 := bel_cell hS x2; go_simp; with_reducible rfl); rotate_left; simp only [List.set_cons_zero, List.set_cons_succ]))
          go_wp2
          go_ret
          exact ⟨ret_bool (by rw [← HV.out, memQ, HLD.out, HMD.out.1, HMD.out.2, HSD.out]; simp [b1, b2, k1]), bel_then HW9.out hS⟩
        · go_wp2_with (go_at_call 119; refine (loaded_calls p HLD.out HW8.out HR.out.l HL.out).mono ?_; rintro x w9 ⟨rfl, hb9⟩; have HW9 := Aside0.mk (bel_then HW8.out hb9); have HB9 := Aside0.mk hb9; have y0 := bel_cell hb9 HP8.out.c0; have y1 := bel_cell hb9 HP8.out.c1; have y2 := bel_cell hb9 HP8.out.c2; have z0 := bel_cell hb9 HBM.out.c0; have z1 := bel_cell hb9 HBM.out.c1; have z2 := bel_cell hb9 HBM.out.c2; have v0 := bel_cell hb9 HBD.out.c0; have v1 := bel_cell hb9 HBD.out.c1; have v2 := bel_cell hb9 HBD.out.c2; replace x2 := bel_cell hb9 x2; clear hb9)
          refine text_start (fun w' => Below w9.heap.size w9 w') rfl rfl (by kernel_rfl) (below_drew (Below.refl _ _)) (fun HT => ?_)
          repeat (first
            | (refine text_end (fun wx hS => ?_))
            | ((with_reducible refine text_gate (f := 120) rfl ?_); refine text_call (v := .int .i64 (lastOfN e.log p e.log.length)) (args := #[.slice Al e.log.length cl, .int .i64 p]) HT rfl Tryz.func120 (by kernel_rfl) rfl rfl (by rfl) (fun _ _ _ h => h) (by simp only [List.map_toArray, List.map_cons, List.map_nil]; rfl) (fun wx hS => (lastOf_calls p (bel_then HW9.out hS) HR.out.l).mono fun _ _ h => ⟨h.1, bel_then hS h.2⟩) ?_; simp only [List.set_cons_zero, List.set_cons_succ])
            | ((with_reducible refine text_gate (f := 62) rfl ?_); refine text_call (v := .bool sD) (args := #[M.val Am2 cm2, Dp.val Ad2 cd2]) HT rfl Tryz.func62 (by kernel_rfl) rfl rfl (by rfl) (fun _ _ _ h => h) (by simp only [List.map_toArray, List.map_cons, List.map_nil]; rfl) (fun wx hS => (same_calls (c := cm2) (d := cd2) HSD.out (bel_then HW9.out hS) HMC.out HDC.out).mono fun _ _ h => ⟨h.1, bel_then hS h.2⟩) ?_; simp only [List.set_cons_zero, List.set_cons_succ])
            | (refine text_skip HT rfl (by rfl) (fun _ _ _ h => h) ?_; simp only [List.set_cons_zero, List.set_cons_succ])
            | (refine text_val (v := ?_) HT rfl (by rfl) (fun _ _ _ h => h) (fun wx hS => ?_) ?_; rotate_left; (replace y0 := bel_cell hS y0; replace y1 := bel_cell hS y1; replace y2 := bel_cell hS y2; replace z0 := bel_cell hS z0; replace z1 := bel_cell hS z1; replace z2 := bel_cell hS z2; replace v0 := bel_cell hS v0; replace v1 := bel_cell hS v1; replace v2 := bel_cell hS v2; replace x2 := bel_cell hS x2; go_simp; with_reducible rfl); rotate_left; simp only [List.set_cons_zero, List.set_cons_succ]))
          go_wp2
          go_ret
          exact ⟨ret_bool (by rw [← HV.out, memQ, HLD.out, HMD.out.1, HMD.out.2, HSD.out]; simp [b1, b2, k1]), bel_then HW9.out hS⟩
      · go_wp2_with (go_at_call 119; refine (loaded_calls p HLD.out HW8.out HR.out.l HL.out).mono ?_; rintro x w9 ⟨rfl, hb9⟩; have HW9 := Aside0.mk (bel_then HW8.out hb9); have HB9 := Aside0.mk hb9; have y0 := bel_cell hb9 HP8.out.c0; have y1 := bel_cell hb9 HP8.out.c1; have y2 := bel_cell hb9 HP8.out.c2; have z0 := bel_cell hb9 HBM.out.c0; have z1 := bel_cell hb9 HBM.out.c1; have z2 := bel_cell hb9 HBM.out.c2; have v0 := bel_cell hb9 HBD.out.c0; have v1 := bel_cell hb9 HBD.out.c1; have v2 := bel_cell hb9 HBD.out.c2; replace x2 := bel_cell hb9 x2; clear hb9)
        refine text_start (fun w' => Below w9.heap.size w9 w') rfl rfl (by kernel_rfl) (below_drew (Below.refl _ _)) (fun HT => ?_)
        repeat (first
          | (refine text_end (fun wx hS => ?_))
          | ((with_reducible refine text_gate (f := 120) rfl ?_); refine text_call (v := .int .i64 (lastOfN e.log p e.log.length)) (args := #[.slice Al e.log.length cl, .int .i64 p]) HT rfl Tryz.func120 (by kernel_rfl) rfl rfl (by rfl) (fun _ _ _ h => h) (by simp only [List.map_toArray, List.map_cons, List.map_nil]; rfl) (fun wx hS => (lastOf_calls p (bel_then HW9.out hS) HR.out.l).mono fun _ _ h => ⟨h.1, bel_then hS h.2⟩) ?_; simp only [List.set_cons_zero, List.set_cons_succ])
          | ((with_reducible refine text_gate (f := 62) rfl ?_); refine text_call (v := .bool sD) (args := #[M.val Am2 cm2, Dp.val Ad2 cd2]) HT rfl Tryz.func62 (by kernel_rfl) rfl rfl (by rfl) (fun _ _ _ h => h) (by simp only [List.map_toArray, List.map_cons, List.map_nil]; rfl) (fun wx hS => (same_calls (c := cm2) (d := cd2) HSD.out (bel_then HW9.out hS) HMC.out HDC.out).mono fun _ _ h => ⟨h.1, bel_then hS h.2⟩) ?_; simp only [List.set_cons_zero, List.set_cons_succ])
          | (refine text_skip HT rfl (by rfl) (fun _ _ _ h => h) ?_; simp only [List.set_cons_zero, List.set_cons_succ])
          | (refine text_val (v := ?_) HT rfl (by rfl) (fun _ _ _ h => h) (fun wx hS => ?_) ?_; rotate_left; (replace y0 := bel_cell hS y0; replace y1 := bel_cell hS y1; replace y2 := bel_cell hS y2; replace z0 := bel_cell hS z0; replace z1 := bel_cell hS z1; replace z2 := bel_cell hS z2; replace v0 := bel_cell hS v0; replace v1 := bel_cell hS v1; replace v2 := bel_cell hS v2; replace x2 := bel_cell hS x2; go_simp; with_reducible rfl); rotate_left; simp only [List.set_cons_zero, List.set_cons_succ]))
        go_wp2
        go_ret
        exact ⟨ret_bool (by rw [← HV.out, memQ, HLD.out, HMD.out.1, HMD.out.2, HSD.out]; simp [b1, b2]), bel_then HW9.out hS⟩
    · go_wp2_with (go_at_call 119; refine (loaded_calls p HLD.out HW8.out HR.out.l HL.out).mono ?_; rintro x w9 ⟨rfl, hb9⟩; have HW9 := Aside0.mk (bel_then HW8.out hb9); have HB9 := Aside0.mk hb9; have y0 := bel_cell hb9 HP8.out.c0; have y1 := bel_cell hb9 HP8.out.c1; have y2 := bel_cell hb9 HP8.out.c2; have z0 := bel_cell hb9 HBM.out.c0; have z1 := bel_cell hb9 HBM.out.c1; have z2 := bel_cell hb9 HBM.out.c2; have v0 := bel_cell hb9 HBD.out.c0; have v1 := bel_cell hb9 HBD.out.c1; have v2 := bel_cell hb9 HBD.out.c2; replace x2 := bel_cell hb9 x2; clear hb9)
      refine text_start (fun w' => Below w9.heap.size w9 w') rfl rfl (by kernel_rfl) (below_drew (Below.refl _ _)) (fun HT => ?_)
      repeat (first
        | (refine text_end (fun wx hS => ?_))
        | ((with_reducible refine text_gate (f := 120) rfl ?_); refine text_call (v := .int .i64 (lastOfN e.log p e.log.length)) (args := #[.slice Al e.log.length cl, .int .i64 p]) HT rfl Tryz.func120 (by kernel_rfl) rfl rfl (by rfl) (fun _ _ _ h => h) (by simp only [List.map_toArray, List.map_cons, List.map_nil]; rfl) (fun wx hS => (lastOf_calls p (bel_then HW9.out hS) HR.out.l).mono fun _ _ h => ⟨h.1, bel_then hS h.2⟩) ?_; simp only [List.set_cons_zero, List.set_cons_succ])
        | ((with_reducible refine text_gate (f := 62) rfl ?_); refine text_call (v := .bool sD) (args := #[M.val Am2 cm2, Dp.val Ad2 cd2]) HT rfl Tryz.func62 (by kernel_rfl) rfl rfl (by rfl) (fun _ _ _ h => h) (by simp only [List.map_toArray, List.map_cons, List.map_nil]; rfl) (fun wx hS => (same_calls (c := cm2) (d := cd2) HSD.out (bel_then HW9.out hS) HMC.out HDC.out).mono fun _ _ h => ⟨h.1, bel_then hS h.2⟩) ?_; simp only [List.set_cons_zero, List.set_cons_succ])
        | (refine text_skip HT rfl (by rfl) (fun _ _ _ h => h) ?_; simp only [List.set_cons_zero, List.set_cons_succ])
        | (refine text_val (v := ?_) HT rfl (by rfl) (fun _ _ _ h => h) (fun wx hS => ?_) ?_; rotate_left; (replace y0 := bel_cell hS y0; replace y1 := bel_cell hS y1; replace y2 := bel_cell hS y2; replace z0 := bel_cell hS z0; replace z1 := bel_cell hS z1; replace z2 := bel_cell hS z2; replace v0 := bel_cell hS v0; replace v1 := bel_cell hS v1; replace v2 := bel_cell hS v2; replace x2 := bel_cell hS x2; go_simp; with_reducible rfl); rotate_left; simp only [List.set_cons_zero, List.set_cons_succ]))
      go_wp2
      go_ret
      exact ⟨ret_bool (by rw [← HV.out, memQ, HLD.out, HMD.out.1, HMD.out.2, HSD.out]; simp [b1]), bel_then HW9.out hS⟩
end Go.Proofs.YtlmlcnokiipilaaGreat

/- The program's EngineOk. -/
namespace Go.Proofs.YtlmlcnokiipilaaGreat
open Go.RowKit Go.Proofs.YtlmlcnokiipilaaGreatW.PrintWords Go.Proofs.YtlmlcnokiipilaaGreatW.PrintLast Go.Proofs.YtlmlcnokiipilaaGreatW.PrintMore

def pgsB (e : Eng) : Nat → Nat → Bool
  | 0, _ => true
  | j + 1, p => pageB e p && pgsB e j (p + 1)
theorem pgsB_all (e : Eng) : ((List.range 5).all fun p => pageB e p) = pgsB e 5 0 := rfl
theorem memB_Q (e : Eng) (p : Nat) : memB e p = memQ e p (pg (redoN e.disk e.log e.log.length) p) := rfl
set_option maxRecDepth 100000 in
set_option maxHeartbeats 16000000 in
theorem EngineOk_calls {w0 w : World} {e : Eng} {Ad Am Al : Option Addr} {cd cm cl : Nat} {b : Bool} (hv : eOk e = b) (hcl : e.log.length ≤ cl) (hb : Below w0.heap.size w0 w) (hr : EngC w0 e Ad Am Al) : Calls Tryz.prog 25 #[e.val Ad Am Al cd cm cl] w fun x w' => x = .returned (.bool b) ∧ Below w.heap.size w w' := by
  have HR := Aside0.mk (hr.up hb)
  have HV := Aside0.mk hv
  have hlm := (C_len HR.out.l).2
  clear hr hb hv
  obtain ⟨w1, hw1⟩ : ∃ w1, w.alloc (e.obox (.slice Ad e.disk.length cd) (.slice Am e.mem.length cm) (.slice Al e.log.length cl)) = w1 := ⟨_, rfl⟩
  have HW1 := Aside0.mk hw1
  have HB1 : Aside0 (Below w.heap.size w w1) := ⟨by rw [← hw1]; exact bel_alloc (Below.refl _ _) _⟩
  have HQ1 : Aside0 (EgBox w1 w.heap.size e (.slice Ad e.disk.length cd) (.slice Am e.mem.length cm) (.slice Al e.log.length cl)) := ⟨by rw [← hw1]; exact EgBox.mk1 _ _ _ _ _⟩
  clear hw1
  have HX := Aside0.mk (Below.refl w1.heap.size w1)
  have x0 := HQ1.out.c0
  have x1 := HQ1.out.c1
  have x2 := HQ1.out.c2
  have x3 := HQ1.out.c3
  have x4 := HQ1.out.c4
  cases hvd : psOk e.disk
  · have HVd := Aside0.mk hvd
    clear hvd
    go_enter Tryz.func25, Tryz.ntmps25
    go_wp2_with (first | (go_at_call 57; rw [HW1.out]; refine (pagesOk_calls (c := cd) HVd.out (bel_then HB1.out HX.out) HR.out.d).mono ?_; rintro x w9 ⟨rfl, hb9⟩; have HX := Aside0.mk (bel_then HX.out hb9); replace x0 := bel_cell hb9 x0; replace x1 := bel_cell hb9 x1; replace x2 := bel_cell hb9 x2; replace x3 := bel_cell hb9 x3; replace x4 := bel_cell hb9 x4; clear hb9))
    go_ret
    exact ⟨ret_bool (by rw [← HV.out, eOk, HVd.out]; simp), bel_then HB1.out HX.out⟩
  · have HVd := Aside0.mk hvd
    clear hvd
    cases hvm : psOk e.mem
    · have HVm := Aside0.mk hvm
      clear hvm
      go_enter Tryz.func25, Tryz.ntmps25
      go_wp2_with (first | (go_at_call 57; rw [HW1.out]; refine (pagesOk_calls (c := cd) HVd.out (bel_then HB1.out HX.out) HR.out.d).mono ?_; rintro x w9 ⟨rfl, hb9⟩; have HX := Aside0.mk (bel_then HX.out hb9); replace x0 := bel_cell hb9 x0; replace x1 := bel_cell hb9 x1; replace x2 := bel_cell hb9 x2; replace x3 := bel_cell hb9 x3; replace x4 := bel_cell hb9 x4; clear hb9) | (go_at_call 57; refine (pagesOk_calls (c := cm) HVm.out (bel_then HB1.out HX.out) HR.out.m).mono ?_; rintro x w9 ⟨rfl, hb9⟩; have HX := Aside0.mk (bel_then HX.out hb9); replace x0 := bel_cell hb9 x0; replace x1 := bel_cell hb9 x1; replace x2 := bel_cell hb9 x2; replace x3 := bel_cell hb9 x3; replace x4 := bel_cell hb9 x4; clear hb9))
      go_ret
      exact ⟨ret_bool (by rw [← HV.out, eOk, HVd.out, HVm.out]; simp), bel_then HB1.out HX.out⟩
    · have HVm := Aside0.mk hvm
      clear hvm
      cases hvl : logOk e.log
      · have HVl := Aside0.mk hvl
        clear hvl
        go_enter Tryz.func25, Tryz.ntmps25
        go_wp2_with (first | (go_at_call 57; rw [HW1.out]; refine (pagesOk_calls (c := cd) HVd.out (bel_then HB1.out HX.out) HR.out.d).mono ?_; rintro x w9 ⟨rfl, hb9⟩; have HX := Aside0.mk (bel_then HX.out hb9); replace x0 := bel_cell hb9 x0; replace x1 := bel_cell hb9 x1; replace x2 := bel_cell hb9 x2; replace x3 := bel_cell hb9 x3; replace x4 := bel_cell hb9 x4; clear hb9) | (go_at_call 57; refine (pagesOk_calls (c := cm) HVm.out (bel_then HB1.out HX.out) HR.out.m).mono ?_; rintro x w9 ⟨rfl, hb9⟩; have HX := Aside0.mk (bel_then HX.out hb9); replace x0 := bel_cell hb9 x0; replace x1 := bel_cell hb9 x1; replace x2 := bel_cell hb9 x2; replace x3 := bel_cell hb9 x3; replace x4 := bel_cell hb9 x4; clear hb9) | (go_at_call 28; refine (LogOk_calls (c := cl) HVl.out (bel_then HB1.out HX.out) HR.out.l).mono ?_; rintro x w9 ⟨rfl, hb9⟩; have HX := Aside0.mk (bel_then HX.out hb9); replace x0 := bel_cell hb9 x0; replace x1 := bel_cell hb9 x1; replace x2 := bel_cell hb9 x2; replace x3 := bel_cell hb9 x3; replace x4 := bel_cell hb9 x4; clear hb9))
        go_ret
        exact ⟨ret_bool (by rw [← HV.out, eOk, HVd.out, HVm.out, HVl.out]; simp), bel_then HB1.out HX.out⟩
      · have HVl := Aside0.mk hvl
        clear hvl
        have hm150 := logOk_len HVl.out
        cases hvs : inB e.safe 0 e.log.length
        · have HVs := Aside0.mk hvs
          clear hvs
          go_enter Tryz.func25, Tryz.ntmps25
          go_wp2_with (first | (go_at_call 57; rw [HW1.out]; refine (pagesOk_calls (c := cd) HVd.out (bel_then HB1.out HX.out) HR.out.d).mono ?_; rintro x w9 ⟨rfl, hb9⟩; have HX := Aside0.mk (bel_then HX.out hb9); replace x0 := bel_cell hb9 x0; replace x1 := bel_cell hb9 x1; replace x2 := bel_cell hb9 x2; replace x3 := bel_cell hb9 x3; replace x4 := bel_cell hb9 x4; clear hb9) | (go_at_call 57; refine (pagesOk_calls (c := cm) HVm.out (bel_then HB1.out HX.out) HR.out.m).mono ?_; rintro x w9 ⟨rfl, hb9⟩; have HX := Aside0.mk (bel_then HX.out hb9); replace x0 := bel_cell hb9 x0; replace x1 := bel_cell hb9 x1; replace x2 := bel_cell hb9 x2; replace x3 := bel_cell hb9 x3; replace x4 := bel_cell hb9 x4; clear hb9) | (go_at_call 28; refine (LogOk_calls (c := cl) HVl.out (bel_then HB1.out HX.out) HR.out.l).mono ?_; rintro x w9 ⟨rfl, hb9⟩; have HX := Aside0.mk (bel_then HX.out hb9); replace x0 := bel_cell hb9 x0; replace x1 := bel_cell hb9 x1; replace x2 := bel_cell hb9 x2; replace x3 := bel_cell hb9 x3; replace x4 := bel_cell hb9 x4; clear hb9) | (go_at_call 55; refine (in_is HVs.out _).mono ?_; rintro x w9 ⟨rfl, rfl⟩))
          go_ret
          exact ⟨ret_bool (by rw [← HV.out, eOk, HVd.out, HVm.out, HVl.out, HVs.out]; simp), bel_then HB1.out HX.out⟩
        · have HVs := Aside0.mk hvs
          clear hvs
          have HS01 := Aside0.mk (inB_iff.1 HVs.out)
          cases hvf : fitsB e.log
          · have HVf := Aside0.mk hvf
            clear hvf
            go_enter Tryz.func25, Tryz.ntmps25
            go_wp2_with (first | (go_at_call 57; rw [HW1.out]; refine (pagesOk_calls (c := cd) HVd.out (bel_then HB1.out HX.out) HR.out.d).mono ?_; rintro x w9 ⟨rfl, hb9⟩; have HX := Aside0.mk (bel_then HX.out hb9); replace x0 := bel_cell hb9 x0; replace x1 := bel_cell hb9 x1; replace x2 := bel_cell hb9 x2; replace x3 := bel_cell hb9 x3; replace x4 := bel_cell hb9 x4; clear hb9) | (go_at_call 57; refine (pagesOk_calls (c := cm) HVm.out (bel_then HB1.out HX.out) HR.out.m).mono ?_; rintro x w9 ⟨rfl, hb9⟩; have HX := Aside0.mk (bel_then HX.out hb9); replace x0 := bel_cell hb9 x0; replace x1 := bel_cell hb9 x1; replace x2 := bel_cell hb9 x2; replace x3 := bel_cell hb9 x3; replace x4 := bel_cell hb9 x4; clear hb9) | (go_at_call 28; refine (LogOk_calls (c := cl) HVl.out (bel_then HB1.out HX.out) HR.out.l).mono ?_; rintro x w9 ⟨rfl, hb9⟩; have HX := Aside0.mk (bel_then HX.out hb9); replace x0 := bel_cell hb9 x0; replace x1 := bel_cell hb9 x1; replace x2 := bel_cell hb9 x2; replace x3 := bel_cell hb9 x3; replace x4 := bel_cell hb9 x4; clear hb9) | (go_at_call 55; refine (in_is HVs.out _).mono ?_; rintro x w9 ⟨rfl, rfl⟩) | (go_at_call 58; refine (fits_calls (c := cl) (bel_then HB1.out HX.out) HR.out.l HVl.out).mono ?_; rintro x w9 ⟨rfl, hb9⟩; rw [HVf.out]; have HX := Aside0.mk (bel_then HX.out hb9); replace x0 := bel_cell hb9 x0; replace x1 := bel_cell hb9 x1; replace x2 := bel_cell hb9 x2; replace x3 := bel_cell hb9 x3; replace x4 := bel_cell hb9 x4; clear hb9))
            go_ret
            exact ⟨ret_bool (by rw [← HV.out, eOk, HVd.out, HVm.out, HVl.out, HVs.out, HVf.out]; simp), bel_then HB1.out HX.out⟩
          · have HVf := Aside0.mk hvf
            clear hvf
            cases hvp : prefsB e (e.log.length + 1 - e.safe.toNat) e.safe.toNat
            · have HVp := Aside0.mk hvp
              clear hvp
              go_enter Tryz.func25, Tryz.ntmps25
              go_wp2_with (first | (go_at_call 57; rw [HW1.out]; refine (pagesOk_calls (c := cd) HVd.out (bel_then HB1.out HX.out) HR.out.d).mono ?_; rintro x w9 ⟨rfl, hb9⟩; have HX := Aside0.mk (bel_then HX.out hb9); replace x0 := bel_cell hb9 x0; replace x1 := bel_cell hb9 x1; replace x2 := bel_cell hb9 x2; replace x3 := bel_cell hb9 x3; replace x4 := bel_cell hb9 x4; clear hb9) | (go_at_call 57; refine (pagesOk_calls (c := cm) HVm.out (bel_then HB1.out HX.out) HR.out.m).mono ?_; rintro x w9 ⟨rfl, hb9⟩; have HX := Aside0.mk (bel_then HX.out hb9); replace x0 := bel_cell hb9 x0; replace x1 := bel_cell hb9 x1; replace x2 := bel_cell hb9 x2; replace x3 := bel_cell hb9 x3; replace x4 := bel_cell hb9 x4; clear hb9) | (go_at_call 28; refine (LogOk_calls (c := cl) HVl.out (bel_then HB1.out HX.out) HR.out.l).mono ?_; rintro x w9 ⟨rfl, hb9⟩; have HX := Aside0.mk (bel_then HX.out hb9); replace x0 := bel_cell hb9 x0; replace x1 := bel_cell hb9 x1; replace x2 := bel_cell hb9 x2; replace x3 := bel_cell hb9 x3; replace x4 := bel_cell hb9 x4; clear hb9) | (go_at_call 55; refine (in_is HVs.out _).mono ?_; rintro x w9 ⟨rfl, rfl⟩) | (go_at_call 58; refine (fits_calls (c := cl) (bel_then HB1.out HX.out) HR.out.l HVl.out).mono ?_; rintro x w9 ⟨rfl, hb9⟩; rw [HVf.out]; have HX := Aside0.mk (bel_then HX.out hb9); replace x0 := bel_cell hb9 x0; replace x1 := bel_cell hb9 x1; replace x2 := bel_cell hb9 x2; replace x3 := bel_cell hb9 x3; replace x4 := bel_cell hb9 x4; clear hb9) | (go_at_call 59; refine (prefixesOk_calls (cd := cd) (cm := cm) (cl := cl) HVp.out HS01.out.1 HS01.out.2 (psOk_geo HVd.out) HVl.out hcl (bel_then HB1.out HX.out) HR.out).mono ?_; rintro x w9 ⟨rfl, hb9⟩; have HX := Aside0.mk (bel_then HX.out hb9); replace x0 := bel_cell hb9 x0; replace x1 := bel_cell hb9 x1; replace x2 := bel_cell hb9 x2; replace x3 := bel_cell hb9 x3; replace x4 := bel_cell hb9 x4; clear hb9))
              go_ret
              exact ⟨ret_bool (by rw [← HV.out, eOk, HVd.out, HVm.out, HVl.out, HVs.out, HVf.out, HVp.out]; simp), bel_then HB1.out HX.out⟩
            · have HVp := Aside0.mk hvp
              clear hvp
              have HGR := Aside0.mk (geo_redo (psOk_geo HVd.out) (fun k hk => (logOk_facts HVl.out hk).ok) e.log.length (Nat.le_refl _))
              have HP5 := Aside0.mk (show pgsB e 5 0 = b by rw [← HV.out, eOk, HVd.out, HVm.out, HVl.out, HVs.out, HVf.out, HVp.out, ← pgsB_all]; simp)
              go_enter Tryz.func25, Tryz.ntmps25
              go_wp2_with (first | (go_at_call 57; rw [HW1.out]; refine (pagesOk_calls (c := cd) HVd.out (bel_then HB1.out HX.out) HR.out.d).mono ?_; rintro x w9 ⟨rfl, hb9⟩; have HX := Aside0.mk (bel_then HX.out hb9); replace x0 := bel_cell hb9 x0; replace x1 := bel_cell hb9 x1; replace x2 := bel_cell hb9 x2; replace x3 := bel_cell hb9 x3; replace x4 := bel_cell hb9 x4; clear hb9) | (go_at_call 57; refine (pagesOk_calls (c := cm) HVm.out (bel_then HB1.out HX.out) HR.out.m).mono ?_; rintro x w9 ⟨rfl, hb9⟩; have HX := Aside0.mk (bel_then HX.out hb9); replace x0 := bel_cell hb9 x0; replace x1 := bel_cell hb9 x1; replace x2 := bel_cell hb9 x2; replace x3 := bel_cell hb9 x3; replace x4 := bel_cell hb9 x4; clear hb9) | (go_at_call 28; refine (LogOk_calls (c := cl) HVl.out (bel_then HB1.out HX.out) HR.out.l).mono ?_; rintro x w9 ⟨rfl, hb9⟩; have HX := Aside0.mk (bel_then HX.out hb9); replace x0 := bel_cell hb9 x0; replace x1 := bel_cell hb9 x1; replace x2 := bel_cell hb9 x2; replace x3 := bel_cell hb9 x3; replace x4 := bel_cell hb9 x4; clear hb9) | (go_at_call 55; refine (in_is HVs.out _).mono ?_; rintro x w9 ⟨rfl, rfl⟩) | (go_at_call 58; refine (fits_calls (c := cl) (bel_then HB1.out HX.out) HR.out.l HVl.out).mono ?_; rintro x w9 ⟨rfl, hb9⟩; rw [HVf.out]; have HX := Aside0.mk (bel_then HX.out hb9); replace x0 := bel_cell hb9 x0; replace x1 := bel_cell hb9 x1; replace x2 := bel_cell hb9 x2; replace x3 := bel_cell hb9 x3; replace x4 := bel_cell hb9 x4; clear hb9) | (go_at_call 59; refine (prefixesOk_calls (cd := cd) (cm := cm) (cl := cl) HVp.out HS01.out.1 HS01.out.2 (psOk_geo HVd.out) HVl.out hcl (bel_then HB1.out HX.out) HR.out).mono ?_; rintro x w9 ⟨rfl, hb9⟩; have HX := Aside0.mk (bel_then HX.out hb9); replace x0 := bel_cell hb9 x0; replace x1 := bel_cell hb9 x1; replace x2 := bel_cell hb9 x2; replace x3 := bel_cell hb9 x3; replace x4 := bel_cell hb9 x4; clear hb9) | (go_at_call 60; refine (redo_calls (c := cd) (d := cl) (psOk_geo HVd.out) (fun k hk => (logOk_facts HVl.out hk).ok) hm150 (bel_then HB1.out HX.out) HR.out.d HR.out.l).mono ?_; rintro x w9 ⟨u, rfl, hO, hb9⟩; obtain ⟨g, cap, rfl, hgb, hgl⟩ := psS_form hO (by rw [HGR.out.1]; omega); rw [HGR.out.1] at hO ⊢; have HO := Aside0.mk hO; have HGB := Aside0.mk (And.intro hgb hgl); clear hO hgb hgl; have HX := Aside0.mk (bel_then HX.out hb9); replace x0 := bel_cell hb9 x0; replace x1 := bel_cell hb9 x1; replace x2 := bel_cell hb9 x2; replace x3 := bel_cell hb9 x3; replace x4 := bel_cell hb9 x4; clear hb9))
              have HL5 := Aside0.mk (And.intro (psOk_iff.1 HVd.out).1 (psOk_iff.1 HVm.out).1)
              obtain ⟨R, hRR⟩ : ∃ R, redoN e.disk e.log e.log.length = R := ⟨_, rfl⟩
              rw [hRR] at HO HGR
              have HRR := Aside0.mk hRR
              clear hRR
              go_loopw [52] (fun i wr => ∃ k : Nat, k ≤ 5 ∧ i = .int .i64 (k : Int) ∧ Aside0 (pgsB e (5 - k) k = b) ∧ Aside0 (Below w9.heap.size w9 wr)) (fun i _ => (5 - intOf i).toNat)
              case atStart => exact ⟨0, by omega, rfl, HP5, ⟨Below.refl _ _⟩⟩
              case round =>
                obtain ⟨k, hk, rfl, HK, HW⟩ := hrel
                have HW2 := Aside0.mk (bel_then HX.out HW.out)
                have HWW := Aside0.mk (bel_then HB1.out HW2.out)
                have y0 := bel_cell HW.out x0
                have y1 := bel_cell HW.out x1
                have y2 := bel_cell HW.out x2
                have y3 := bel_cell HW.out x3
                have y4 := bel_cell HW.out x4
                clear x0 x1 x2 x3 x4
                by_cases hlt : k < 5
                · have hpd : k < e.disk.length := by have := HL5.out; omega
                  have hpm : k < e.mem.length := by have := HL5.out; omega
                  obtain ⟨adm, Am2, cm2, rfl, QM, -, hmC⟩ := at_page HR.out.m k hpm
                  obtain ⟨add, Ad2, cd2, rfl, QD, -, hdC⟩ := at_page HR.out.d k hpd
                  obtain ⟨M, hM⟩ : ∃ M, pg e.mem k = M := ⟨_, rfl⟩
                  obtain ⟨Dp, hD⟩ : ∃ Dp, pg e.disk k = Dp := ⟨_, rfl⟩
                  obtain ⟨lr, hlk⟩ : ∃ lr, lockF e.log (k : Int) (openR e.log 3) 0 true = lr := ⟨_, rfl⟩
                  obtain ⟨m0, m1, m2⟩ := QM.up HWW.out
                  obtain ⟨d0, d1, d2⟩ := QD.up HWW.out
                  rw [hM] at m0 m1 m2 hmC
                  rw [hD] at d0 d1 d2 hdC
                  have HLK := Aside0.mk hlk
                  have HMD := Aside0.mk (And.intro hM hD)
                  have HMC := Aside0.mk hmC
                  have HDC := Aside0.mk hdC
                  have HPG := Aside0.mk (show pgsB e (5 - k) k = (pageB e k && pgsB e (5 - (k + 1)) (k + 1)) by rw [show 5 - k = (5 - (k + 1)) + 1 by omega, pgsB])
                  obtain ⟨by_, lok⟩ := lr
                  obtain ⟨dn, hdn⟩ : ∃ dn, e.down = dn := ⟨_, rfl⟩
                  rw [hdn] at y4
                  have HDN := Aside0.mk hdn
                  clear hM hD hlk hmC hdC QM QD hdn
                  cases lok
                  · go_wp2_with (go_at_call 61; refine (locks_calls (c := cl) (k : Int) HWW.out HR.out.l HVl.out).mono ?_; rintro x w10 ⟨rfl, hb10⟩; rw [HLK.out]; have HX10 := Aside0.mk (bel_then HW.out hb10); clear hb10)
                    refine text_start (fun w' => Below w10.heap.size w10 w') rfl rfl (by kernel_rfl) (below_drew (Below.refl _ _)) (fun HT => ?_)
                    repeat (first
                      | (refine text_end (fun wx hS => ?_))
                      | (refine text_skip HT rfl (by rfl) (fun _ _ _ h => h) ?_; simp only [List.set_cons_zero, List.set_cons_succ])
                      | (refine text_val (v := ?_) HT rfl (by rfl) (fun _ _ _ h => h) (fun wx hS => ?_) ?_; rotate_left; (skip; go_simp; with_reducible rfl); rotate_left; simp only [List.set_cons_zero, List.set_cons_succ]))
                    go_wp2
                    go_ret
                    exact ⟨ret_bool (by rw [← HK.out, HPG.out, pageB, HLK.out]; simp), bel_then HB1.out (bel_then HX.out (bel_then HX10.out hS))⟩
                  · rcases lts e.safe Dp.lsn with ⟨e3, k1, k2⟩ | ⟨e3, k1, k2⟩
                    · go_wp2_with (go_at_call 61; refine (locks_calls (c := cl) (k : Int) HWW.out HR.out.l HVl.out).mono ?_; rintro x w10 ⟨rfl, hb10⟩; rw [HLK.out]; have HX10 := Aside0.mk (bel_then HW.out hb10); replace y0 := bel_cell hb10 y0; replace y1 := bel_cell hb10 y1; replace y2 := bel_cell hb10 y2; replace y3 := bel_cell hb10 y3; replace y4 := bel_cell hb10 y4; replace m0 := bel_cell hb10 m0; replace m1 := bel_cell hb10 m1; replace m2 := bel_cell hb10 m2; replace d0 := bel_cell hb10 d0; replace d1 := bel_cell hb10 d1; replace d2 := bel_cell hb10 d2; clear hb10)
                      refine text_start (fun w' => Below w10.heap.size w10 w') rfl rfl (by kernel_rfl) (below_drew (Below.refl _ _)) (fun HT => ?_)
                      repeat (first
                        | (refine text_end (fun wx hS => ?_))
                        | (refine text_skip HT rfl (by rfl) (fun _ _ _ h => h) ?_; simp only [List.set_cons_zero, List.set_cons_succ])
                        | (refine text_val (v := ?_) HT rfl (by rfl) (fun _ _ _ h => h) (fun wx hS => ?_) ?_; rotate_left; (replace y0 := bel_cell hS y0; replace y3 := bel_cell hS y3; replace d0 := bel_cell hS d0; go_simp; with_reducible rfl); rotate_left; simp only [List.set_cons_zero, List.set_cons_succ]))
                      go_wp2
                      go_ret
                      exact ⟨ret_bool (by rw [← HK.out, HPG.out, pageB, HLK.out, HMD.out.2, k2]; simp), bel_then HB1.out (bel_then HX.out (bel_then HX10.out hS))⟩
                    · obtain ⟨q, hq⟩ : ∃ q, pg R k = q := ⟨_, rfl⟩
                      obtain ⟨pb, hpb⟩ : ∃ pb, (if e.down = true then samePg M Dp else memQ e k q) = pb := ⟨_, rfl⟩
                      have HPB := Aside0.mk hpb
                      have HPK := Aside0.mk (show pageB e k = pb by rw [pageB, HLK.out, memB_Q, HRR.out, hq, HMD.out.1, HMD.out.2, k2, hpb]; rfl)
                      have HQQ := Aside0.mk hq
                      clear hpb hq
                      cases dn
                      · go_wp2_with (go_at_call 61; refine (locks_calls (c := cl) (k : Int) HWW.out HR.out.l HVl.out).mono ?_; rintro x w10 ⟨rfl, hb10⟩; rw [HLK.out]; have HX10 := Aside0.mk (bel_then HW.out hb10); replace y0 := bel_cell hb10 y0; replace y1 := bel_cell hb10 y1; replace y2 := bel_cell hb10 y2; replace y3 := bel_cell hb10 y3; replace y4 := bel_cell hb10 y4; replace m0 := bel_cell hb10 m0; replace m1 := bel_cell hb10 m1; replace m2 := bel_cell hb10 m2; replace d0 := bel_cell hb10 d0; replace d1 := bel_cell hb10 d1; replace d2 := bel_cell hb10 d2; clear hb10)
                        refine text_start (fun w' => Below w10.heap.size w10 w') rfl rfl (by kernel_rfl) (below_drew (Below.refl _ _)) (fun HT => ?_)
                        repeat (first
                          | (refine text_end (fun wx hS => ?_))
                          | (refine text_skip HT rfl (by rfl) (fun _ _ _ h => h) ?_; simp only [List.set_cons_zero, List.set_cons_succ])
                          | (refine text_val (v := ?_) HT rfl (by rfl) (fun _ _ _ h => h) (fun wx hS => ?_) ?_; rotate_left; (replace y0 := bel_cell hS y0; replace y3 := bel_cell hS y3; replace d0 := bel_cell hS d0; go_simp; with_reducible rfl); rotate_left; simp only [List.set_cons_zero, List.set_cons_succ]))
                        rename_i w11
                        have HX11 := Aside0.mk (bel_then HX10.out hS)
                        have HW11 := Aside0.mk (bel_then HB1.out (bel_then HX.out HX11.out))
                        replace y0 := bel_cell hS y0; replace y1 := bel_cell hS y1; replace y2 := bel_cell hS y2; replace y3 := bel_cell hS y3; replace y4 := bel_cell hS y4
                        obtain ⟨A3, c3, q0, q1, q2, qC, -⟩ := psS_at (Kd.S_below HO.out HX11.out) k hlt
                        rw [HQQ.out] at q0 q1 q2 qC
                        have HQC := Aside0.mk qC
                        have hcall : ∀ w', Below wx.heap.size wx w' → Calls Tryz.prog 63 #[.agg #[.slice (some add) e.disk.length cd, .slice (some adm) e.mem.length cm, .slice Al e.log.length cl, .int .i64 e.safe, .bool false], .int .i64 k, q.val A3 c3] w' fun x w2 => x = .returned (.bool pb) ∧ Below w'.heap.size w' w2 := fun w' hb => by
                          have h := memOk_calls (w0 := wx) (cd := cd) (cm := cm) (cl := cl) (cr := c3) (e := e) (b := pb) (by rw [← HPB.out, if_neg (by rw [HDN.out]; simp)]) hlt HL5.out.1 HL5.out.2 HVl.out hb (HR.out.up HW11.out) HQC.out
                          unfold Eng.val Eng.ag at h
                          rw [HDN.out] at h
                          exact h
                        clear hS qC
                        go_wp2
                        refine text_start (fun w' => Below wx.heap.size wx w') rfl rfl (by kernel_rfl) (below_drew (Below.refl _ _)) (fun HT => ?_)
                        repeat (first
                          | (refine text_end (fun wx hS => ?_))
                          | ((with_reducible refine text_gate (f := 63) rfl ?_); refine text_call (v := .bool pb) (args := #[.agg #[.slice (some add) e.disk.length cd, .slice (some adm) e.mem.length cm, .slice Al e.log.length cl, .int .i64 e.safe, .bool false], .int .i64 k, q.val A3 c3]) HT rfl Tryz.func63 (by kernel_rfl) rfl rfl (by rfl) (fun _ _ _ h => h) (by simp only [List.map_toArray, List.map_cons, List.map_nil]; rfl) (fun wx hS => (hcall wx hS).mono fun _ _ h => ⟨h.1, bel_then hS h.2⟩) ?_; simp only [List.set_cons_zero, List.set_cons_succ])
                          | (refine text_skip HT rfl (by rfl) (fun _ _ _ h => h) ?_; simp only [List.set_cons_zero, List.set_cons_succ])
                          | (refine text_val (v := ?_) HT rfl (by rfl) (fun _ _ _ h => h) (fun wx hS => ?_) ?_; rotate_left; (replace y0 := bel_cell hS y0; replace y1 := bel_cell hS y1; replace y2 := bel_cell hS y2; replace y3 := bel_cell hS y3; replace y4 := bel_cell hS y4; replace q0 := bel_cell hS q0; replace q1 := bel_cell hS q1; replace q2 := bel_cell hS q2; go_simp; with_reducible rfl); rotate_left; simp only [List.set_cons_zero, List.set_cons_succ]))
                        cases pb
                        · go_wp2
                          go_ret
                          exact ⟨ret_bool (by rw [← HK.out, HPG.out, HPK.out]; rfl), bel_then HW11.out hS⟩
                        · go_wp2
                          go_roundw
                          case rel => exact ⟨k + 1, by omega, by go_num, ⟨by rw [← HK.out, HPG.out, HPK.out]; rfl⟩, ⟨bel_then HX11.out hS⟩⟩
                          case measure => simp [intOf]; omega
                      · go_wp2_with (go_at_call 61; refine (locks_calls (c := cl) (k : Int) HWW.out HR.out.l HVl.out).mono ?_; rintro x w10 ⟨rfl, hb10⟩; rw [HLK.out]; have HX10 := Aside0.mk (bel_then HW.out hb10); replace y0 := bel_cell hb10 y0; replace y1 := bel_cell hb10 y1; replace y2 := bel_cell hb10 y2; replace y3 := bel_cell hb10 y3; replace y4 := bel_cell hb10 y4; replace m0 := bel_cell hb10 m0; replace m1 := bel_cell hb10 m1; replace m2 := bel_cell hb10 m2; replace d0 := bel_cell hb10 d0; replace d1 := bel_cell hb10 d1; replace d2 := bel_cell hb10 d2; clear hb10)
                        refine text_start (fun w' => Below w10.heap.size w10 w') rfl rfl (by kernel_rfl) (below_drew (Below.refl _ _)) (fun HT => ?_)
                        repeat (first
                          | (refine text_end (fun wx hS => ?_))
                          | (refine text_skip HT rfl (by rfl) (fun _ _ _ h => h) ?_; simp only [List.set_cons_zero, List.set_cons_succ])
                          | (refine text_val (v := ?_) HT rfl (by rfl) (fun _ _ _ h => h) (fun wx hS => ?_) ?_; rotate_left; (replace y0 := bel_cell hS y0; replace y3 := bel_cell hS y3; replace d0 := bel_cell hS d0; go_simp; with_reducible rfl); rotate_left; simp only [List.set_cons_zero, List.set_cons_succ]))
                        have HX11 := Aside0.mk (bel_then HX10.out hS)
                        have HW11 := Aside0.mk (bel_then HB1.out (bel_then HX.out HX11.out))
                        replace y0 := bel_cell hS y0; replace y1 := bel_cell hS y1; replace y4 := bel_cell hS y4; replace m0 := bel_cell hS m0; replace m1 := bel_cell hS m1; replace m2 := bel_cell hS m2; replace d0 := bel_cell hS d0; replace d1 := bel_cell hS d1; replace d2 := bel_cell hS d2
                        clear hS
                        cases pb
                        · go_wp2
                          refine text_start (fun w' => Below wx.heap.size wx w') rfl rfl (by kernel_rfl) (below_drew (Below.refl _ _)) (fun HT => ?_)
                          repeat (first
                            | (refine text_end (fun wx hS => ?_))
                            | ((with_reducible refine text_gate (f := 62) rfl ?_); refine text_call (v := .bool false) (args := #[M.val Am2 cm2, Dp.val Ad2 cd2]) HT rfl Tryz.func62 (by kernel_rfl) rfl rfl (by rfl) (fun _ _ _ h => h) (by simp only [List.map_toArray, List.map_cons, List.map_nil]; rfl) (fun wx hS => (same_calls (c := cm2) (d := cd2) (by have := HPB.out; rw [if_pos HDN.out] at this; exact this) (bel_then HW11.out hS) HMC.out HDC.out).mono fun _ _ h => ⟨h.1, bel_then hS h.2⟩) ?_; simp only [List.set_cons_zero, List.set_cons_succ])
                            | (refine text_skip HT rfl (by rfl) (fun _ _ _ h => h) ?_; simp only [List.set_cons_zero, List.set_cons_succ])
                            | (refine text_val (v := ?_) HT rfl (by rfl) (fun _ _ _ h => h) (fun wx hS => ?_) ?_; rotate_left; (replace y0 := bel_cell hS y0; replace y1 := bel_cell hS y1; replace y4 := bel_cell hS y4; replace m0 := bel_cell hS m0; replace m1 := bel_cell hS m1; replace m2 := bel_cell hS m2; replace d0 := bel_cell hS d0; replace d1 := bel_cell hS d1; replace d2 := bel_cell hS d2; go_simp; with_reducible rfl); rotate_left; simp only [List.set_cons_zero, List.set_cons_succ]))
                          go_wp2
                          go_ret
                          exact ⟨ret_bool (by rw [← HK.out, HPG.out, HPK.out]; rfl), bel_then HW11.out hS⟩
                        · go_wp2
                          refine text_start (fun w' => Below wx.heap.size wx w') rfl rfl (by kernel_rfl) (below_drew (Below.refl _ _)) (fun HT => ?_)
                          repeat (first
                            | (refine text_end (fun wx hS => ?_))
                            | ((with_reducible refine text_gate (f := 62) rfl ?_); refine text_call (v := .bool true) (args := #[M.val Am2 cm2, Dp.val Ad2 cd2]) HT rfl Tryz.func62 (by kernel_rfl) rfl rfl (by rfl) (fun _ _ _ h => h) (by simp only [List.map_toArray, List.map_cons, List.map_nil]; rfl) (fun wx hS => (same_calls (c := cm2) (d := cd2) (by have := HPB.out; rw [if_pos HDN.out] at this; exact this) (bel_then HW11.out hS) HMC.out HDC.out).mono fun _ _ h => ⟨h.1, bel_then hS h.2⟩) ?_; simp only [List.set_cons_zero, List.set_cons_succ])
                            | (refine text_skip HT rfl (by rfl) (fun _ _ _ h => h) ?_; simp only [List.set_cons_zero, List.set_cons_succ])
                            | (refine text_val (v := ?_) HT rfl (by rfl) (fun _ _ _ h => h) (fun wx hS => ?_) ?_; rotate_left; (replace y0 := bel_cell hS y0; replace y1 := bel_cell hS y1; replace y4 := bel_cell hS y4; replace m0 := bel_cell hS m0; replace m1 := bel_cell hS m1; replace m2 := bel_cell hS m2; replace d0 := bel_cell hS d0; replace d1 := bel_cell hS d1; replace d2 := bel_cell hS d2; go_simp; with_reducible rfl); rotate_left; simp only [List.set_cons_zero, List.set_cons_succ]))
                          go_wp2
                          go_roundw
                          case rel => exact ⟨k + 1, by omega, by go_num, ⟨by rw [← HK.out, HPG.out, HPK.out]; rfl⟩, ⟨bel_then HX11.out hS⟩⟩
                          case measure => simp [intOf]; omega
                · go_wp2
                  go_ret
                  exact ⟨ret_bool (by rw [← HK.out, show 5 - k = 0 by omega]; rfl), HWW.out⟩
end Go.Proofs.YtlmlcnokiipilaaGreat

/- When a step of an undoing can be made: of any engine that is ok, and rises; of one that plays made; in plain Lean. -/
namespace Go.Proofs.YtlmlcnokiipilaaGreat

/-- May a record be applied to a page? -/
def recDoB (P : Page) (r : Rec) (n : Int) : Bool := pageOk P && (recOk r && (chgB r.kind && (decide (P.lsn < n) && (decide (n ≤ 150) && pageOk (doR P r n)))))
structure StepOk (e : Eng) (tx : Int) : Prop where
  log : logOk e.log = true
  geo : geo e.mem
  t1 : 1 ≤ tx
  t3 : tx ≤ 3
  l150 : e.log.length + 1 ≤ 150
  may : chgB (stepR e tx).kind = true → recDoB (pg e.mem (stepR e tx).page.toNat) (stepR e tx) (e.log.length + 1 : Nat) = true
  log' : logOk (e.log ++ [stepR e tx]) = true
  room : e.log.length + 1 + needAt (e.log ++ [stepR e tx]) (e.log.length + 1) ≤ 150
theorem psOk_geo' {ps : List Page} (h : psOk ps = true) : geo ps := psOk_geo h
/-- Pages that part in their records' numbers alone. -/
structure Sim (ps qs : List Page) : Prop where
  l : ps.length = 5
  l' : qs.length = 5
  lsn : ∀ p, p < 5 → 0 ≤ (pg qs p).lsn ∧ (pg qs p).lsn ≤ 150
  owner : ∀ p, p < 5 → (pg qs p).owner = (pg ps p).owner
  vals : ∀ p, p < 5 → (pg qs p).vals = (pg ps p).vals
theorem withR_sim {P Q : Page} (r : Rec) (ho : Q.owner = P.owner) (hv : Q.vals = P.vals) : (withR Q r).owner = (withR P r).owner ∧ (withR Q r).vals = (withR P r).vals := by
  unfold withR
  split
  · exact ⟨ho, by simp only; rw [hv]⟩
  · split
    · exact ⟨rfl, rfl⟩
    · exact ⟨rfl, hv⟩
theorem undoB_sim {l : List Rec} : ∀ {ms : List Nat} {ps qs : List Page}, (∀ m ∈ ms, 0 ≤ (rc l (m - 1)).page ∧ (rc l (m - 1)).page < 5) → Sim ps qs → undoB l ps ms = true → undoB l qs ms = true
  | [], _, _, _, _, _ => rfl
  | m :: ms, ps, qs, hm, hs, h => by
    have h5 := hm m (by simp)
    rw [undoB, Bool.and_eq_true] at h ⊢
    have hp : (rc l (m - 1)).page.toNat < 5 := by omega
    have hw := withR_sim (backR (rc l (m - 1)) 0) (hs.owner _ hp) (hs.vals _ hp)
    have hl := hs.lsn _ hp
    refine ⟨?_, undoB_sim (fun x hx => hm x (by simp [hx])) ⟨by simpa using hs.l, by simpa using hs.l', fun p hp5 => ?_, fun p hp5 => ?_, fun p hp5 => ?_⟩ h.2⟩
    · have h1 := pageOk_lsn (k := (pg qs (rc l (m - 1)).page.toNat).lsn) h.1 hl.1 hl.2
      rw [← hw.1, ← hw.2] at h1
      rw [← withR_lsn (pg qs (rc l (m - 1)).page.toNat) (backR (rc l (m - 1)) 0)] at h1
      exact h1
    · rw [pg_set (by rw [hs.l']; exact hp)]
      split
      · rw [withR_lsn]; exact hl
      · exact hs.lsn p hp5
    · rw [pg_set (by rw [hs.l']; exact hp), pg_set (by rw [hs.l]; exact hp)]
      split
      · exact hw.1
      · exact hs.owner p hp5
    · rw [pg_set (by rw [hs.l']; exact hp), pg_set (by rw [hs.l]; exact hp)]
      split
      · exact hw.2
      · exact hs.vals p hp5
theorem undoB_congr {l l' : List Rec} {n : Nat} (h : Agree l l' n) : ∀ {ms : List Nat} {ps : List Page}, (∀ m ∈ ms, 0 < m ∧ m ≤ n) → undoB l ps ms = undoB l' ps ms
  | [], _, _ => rfl
  | m :: ms, ps, hm => by
    have := hm m (by simp)
    rw [undoB, undoB, h (m - 1) (by omega), undoB_congr h (fun x hx => hm x (by simp [hx]))]
/-- What holds while an engine is undone, these being still to be undone. -/
structure UndL (e : Eng) (ms : List Nat) : Prop where
  log : logOk e.log = true
  mem : psOk e.mem = true
  lsn : ∀ p, p < 5 → (pg e.mem p).lsn ≤ e.log.length
  und : undoB e.log e.mem ms = true
  room : e.log.length + needAt e.log e.log.length ≤ 150
theorem UndL.one {e : Eng} {ms : List Nat} (h : UndL e ms) {tx : Int} (ht : tx = 1 ∨ tx = 2 ∨ tx = 3) (hlast : lastT e tx ≠ 0) : e.log.length + 1 ≤ 150 := by
  have h1 := h.room
  have h3 : cst e.log tx e.log.length ≥ 1 := by rw [cst, if_neg hlast]; omega
  have h4 : cst e.log tx e.log.length ≤ needAt e.log e.log.length := by
    rw [needAt]
    rcases ht with rfl | rfl | rfl <;> omega
  omega
theorem UndL.stepOk {e : Eng} {tx : Int} {rest : List Nat} (h : UndL e (U e.log tx e.log.length ++ rest)) (ht : tx = 1 ∨ tx = 2 ∨ tx = 3) (hlast : lastT e tx ≠ 0) : StepOk e tx := by
  have h1 := h.one ht hlast
  have hk := step_kind (e := e) h.log tx
  have hl' := hk.log h.log (by omega) h1
  have hn := hk.need h.log ht h1 hlast
  have hr := h.room
  refine ⟨h.log, psOk_geo h.mem, by omega, by omega, h1, fun hc => ?_, hl', by omega⟩
  have hok := hk.ok h.log (by omega)
  have hund := h.und
  have hmem := psOk_iff.1 h.mem
  have hls := h.lsn
  generalize stepR e tx = r at hk hok hc ⊢
  cases hk with
  | fin hU => simp [chgB] at hc
  | undo m ms hU h0 hm hkk htx =>
    have hrec := und_rec h.log h0 hm hkk
    rw [hU, List.cons_append, undoB, Bool.and_eq_true] at hund
    have hp : (rc e.log (m - 1)).page.toNat < 5 := by omega
    have hl5 := hls _ hp
    simp only [recDoB, Bool.and_eq_true, decide_eq_true_eq]
    refine ⟨hmem.2 _ hp, hok, hc, ?_, by omega, ?_⟩
    · show (pg e.mem (rc e.log (m - 1)).page.toNat).lsn < ((e.log.length + 1 : Nat) : Int)
      omega
    · rw [doR_withR]
      exact pageOk_lsn hund.1 (by omega) (by omega)
theorem UndL.step {e : Eng} {tx : Int} {rest : List Nat} (h : UndL e (U e.log tx e.log.length ++ rest)) (ht : tx = 1 ∨ tx = 2 ∨ tx = 3) (hlast : lastT e tx ≠ 0) (hrest : ∀ m ∈ rest, 0 < m ∧ m ≤ e.log.length ∧ 0 ≤ (rc e.log (m - 1)).page ∧ (rc e.log (m - 1)).page < 5) : UndL (stepE e tx) ((U e.log tx e.log.length).tail ++ rest) := by
  have h1 := h.one ht hlast
  have hk := step_kind (e := e) h.log tx
  have hl' := hk.log h.log (by omega) h1
  have hn := hk.need h.log ht h1 hlast
  have hr := h.room
  have hmem := psOk_iff.1 h.mem
  have hso := h.stepOk ht hlast
  have hM := fun p => app_mem hmem.1 (step_page h.log tx) p
  have hA := agree_app e.log [stepR e tx]
  have hLl : (stepE e tx).log = e.log ++ [stepR e tx] := rfl
  have hM : ∀ p : Nat, pg (stepE e tx).mem p = if chgB (stepR e tx).kind = true ∧ (stepR e tx).page = (p : Int) then doR (pg e.mem p) (stepR e tx) (e.log.length + 1 : Nat) else pg e.mem p := hM
  have hml : (stepE e tx).mem.length = 5 := by unfold stepE; rw [app_mlen]; exact hmem.1
  have hUr : ∀ m ∈ U e.log tx e.log.length, 0 < m ∧ m ≤ e.log.length ∧ 0 ≤ (rc e.log (m - 1)).page ∧ (rc e.log (m - 1)).page < 5 := fun m hm => by
    have h2 := U_mem hm
    have h3 := und_rec h.log h2.1 h2.2 (U_kind h.log (Nat.le_refl _) hm)
    exact ⟨h2.1, h2.2, h3.2.1, h3.2.2.1⟩
  have hpage : ∀ p : Nat, p < 5 → pageOk (pg (stepE e tx).mem p) = true := fun p hp => by
    rw [hM p]
    split
    · rename_i hc
      have := hso.may hc.1
      simp only [recDoB, Bool.and_eq_true, decide_eq_true_eq] at this
      rw [show (stepR e tx).page.toNat = p by omega] at this
      exact this.2.2.2.2.2
    · exact hmem.2 p hp
  refine ⟨by rw [hLl]; exact hl', psOk_iff.2 ⟨hml, hpage⟩, fun p hp => ?_, ?_, by rw [hLl]; simp only [List.length_append, List.length_singleton]; omega⟩
  · rw [hM p, hLl]
    simp only [List.length_append, List.length_singleton]
    split
    · exact Int.le_refl _
    · have := h.lsn p hp; omega
  · have hund := h.und
    rw [hLl]
    generalize stepR e tx = r at hk hl' hn hA hM
    cases hk with
    | fin hU =>
      rw [hU, List.nil_append] at hund
      rw [hU, List.tail_nil, List.nil_append, undoB_congr hA (fun m hm => by have := hrest m hm; omega)]
      refine undoB_sim (fun m hm => (hrest m hm).2.2) ⟨hmem.1, hml, fun p hp => ?_, fun p hp => ?_, fun p hp => ?_⟩ hund
      · have := pageOk_iff.1 (hpage p hp); exact ⟨this.1, this.2.1⟩
      · rw [hM p, if_neg (fun hc => by simp [chgB] at hc)]
      · rw [hM p, if_neg (fun hc => by simp [chgB] at hc)]
    | undo m ms hU h0 hm hkk htx =>
      rw [hU, List.cons_append, undoB, Bool.and_eq_true] at hund
      rw [hU] at hUr
      have hmr := hUr m (by simp)
      have hmp : (rc e.log (m - 1)).page.toNat < 5 := by omega
      rw [hU, List.tail_cons, undoB_congr hA (fun x hx => by
        rcases List.mem_append.1 hx with hx | hx
        · have := hUr x (by simp [hx]); omega
        · have := hrest x hx; omega)]
      refine undoB_sim (fun x hx => ?_) ⟨by simpa using hmem.1, hml, fun p hp => ?_, fun p hp => ?_, fun p hp => ?_⟩ hund.2
      · rcases List.mem_append.1 hx with hx | hx
        · exact (hUr x (by simp [hx])).2.2
        · exact (hrest x hx).2.2
      · have := pageOk_iff.1 (hpage p hp); exact ⟨this.1, this.2.1⟩
      · rw [hM p, pg_set (by rw [hmem.1]; exact hmp)]
        by_cases e1 : (rc e.log (m - 1)).page.toNat = p
        · rw [if_pos ⟨rfl, by show (rc e.log (m - 1)).page = _; omega⟩, if_pos e1, ← e1]; rfl
        · rw [if_neg (fun hc => e1 (by have h2 : (rc e.log (m - 1)).page = (p : Int) := hc.2; omega)), if_neg e1]
      · rw [hM p, pg_set (by rw [hmem.1]; exact hmp)]
        by_cases e1 : (rc e.log (m - 1)).page.toNat = p
        · rw [if_pos ⟨rfl, by show (rc e.log (m - 1)).page = _; omega⟩, if_pos e1, ← e1]; rfl
        · rw [if_neg (fun hc => e1 (by have h2 : (rc e.log (m - 1)).page = (p : Int) := hc.2; omega)), if_neg e1]
theorem undR_three (l : List Rec) : undR l 3 = U l 1 l.length ++ (U l 2 l.length ++ U l 3 l.length) := by
  have e1 : (3 - ((2 : Nat) : Int)) = 1 := rfl
  have e2 : (3 - ((1 : Nat) : Int)) = 2 := rfl
  have e3 : (3 - ((0 : Nat) : Int)) = 3 := rfl
  rw [undR, undR, undR, undR, e1, e2, e3, List.append_nil]
  rfl
/-- What holds while an engine rises, whatever made it. -/
def RiseOk (e : Eng) : Prop := UndL e (undR e.log 3)
theorem lastT_U {e : Eng} {t : Int} (h : lastT e t = 0) : U e.log t e.log.length = [] := by rw [U, show lastN e.log t e.log.length = 0 from h, undN_zero]
theorem RiseOk.step {e : Eng} (h : RiseOk e) (h0 : firstO e ≠ 0) : StepOk e (firstO e) ∧ RiseOk (stepE e (firstO e)) ∧ needAt (stepE e (firstO e)).log (stepE e (firstO e)).log.length + 1 = needAt e.log e.log.length := by
  obtain ⟨ht, hlast⟩ := firstO_some h0
  have hlt := h
  unfold RiseOk at h ⊢
  obtain ⟨rest, hrest, hr2, hr3⟩ : ∃ rest, undR e.log 3 = U e.log (firstO e) e.log.length ++ rest ∧ (∀ m ∈ rest, ∃ t, m ∈ U e.log t e.log.length) ∧ ∀ l' : List Rec, (∀ t, t ≠ firstO e → U l' t l'.length = U e.log t e.log.length) → undR l' 3 = U l' (firstO e) l'.length ++ rest := by
    rw [undR_three]
    by_cases h1 : lastT e 1 = 0
    · by_cases h2 : lastT e 2 = 0
      · by_cases h3 : lastT e 3 = 0
        · exact absurd (show firstO e = 0 by unfold firstO; rw [if_neg (by simpa using h1), if_neg (by simpa using h2), if_neg (by simpa using h3)]) h0
        · have hf : firstO e = 3 := by unfold firstO; rw [if_neg (by simpa using h1), if_neg (by simpa using h2), if_pos h3]
          rw [hf, lastT_U h1, lastT_U h2]
          refine ⟨[], by simp, fun m hm => (by cases hm), fun l' hl => ?_⟩
          rw [undR_three, hl 1 (by decide), hl 2 (by decide), lastT_U h1, lastT_U h2]; simp
      · have hf : firstO e = 2 := by unfold firstO; rw [if_neg (by simpa using h1), if_pos h2]
        rw [hf, lastT_U h1]
        refine ⟨U e.log 3 e.log.length, by simp, fun m hm => ⟨3, hm⟩, fun l' hl => ?_⟩
        rw [undR_three, hl 1 (by decide), hl 3 (by decide), lastT_U h1]; simp
    · have hf : firstO e = 1 := by unfold firstO; rw [if_pos h1]
      rw [hf]
      refine ⟨U e.log 2 e.log.length ++ U e.log 3 e.log.length, rfl, fun m hm => ?_, fun l' hl => ?_⟩
      · rcases List.mem_append.1 hm with hm | hm
        · exact ⟨2, hm⟩
        · exact ⟨3, hm⟩
      · rw [undR_three, hl 2 (by decide), hl 3 (by decide)]
  rw [hrest] at h
  have h1 := h.one ht hlast
  have hk := step_kind (e := e) h.log (firstO e)
  have hn := hk.next h.log (by omega) h1
  have hd := hk.need h.log ht h1 hlast
  have hlen : (stepE e (firstO e)).log.length = e.log.length + 1 := stepE_len _ _
  have hLl : (stepE e (firstO e)).log = e.log ++ [stepR e (firstO e)] := rfl
  refine ⟨h.stepOk ht hlast, ?_, by rw [hlen, hLl]; exact hd⟩
  rw [hr3 (stepE e (firstO e)).log (fun t hne => by rw [hlen, hLl]; exact (hn.2.1 t hne).1)]
  rw [show U (stepE e (firstO e)).log (firstO e) (stepE e (firstO e)).log.length = (U e.log (firstO e) e.log.length).tail by rw [hlen, hLl]; exact hn.1]
  refine h.step ht hlast fun m hm => ?_
  obtain ⟨t, hmt⟩ := hr2 m hm
  have h2 := U_mem hmt
  have h3 := und_rec h.log h2.1 h2.2 (U_kind h.log (Nat.le_refl _) hmt)
  exact ⟨h2.1, h2.2, h3.2.1, h3.2.2.1⟩
/-- What is known of an engine that is ok. -/
structure OkF (e : Eng) : Prop where
  disk : psOk e.disk = true
  mem : psOk e.mem = true
  log : logOk e.log = true
  s0 : 0 ≤ e.safe
  s1 : e.safe ≤ e.log.length
  fits : fitsB e.log = true
  pref : ∀ n : Nat, e.safe ≤ n → n ≤ e.log.length → prefB e n = true
  page : ∀ p, p < 5 → pageB e p = true
theorem okF_iff {e : Eng} : eOk e = true ↔ OkF e := by
  simp only [eOk, Bool.and_eq_true, inB_iff, prefsB_iff, List.all_eq_true, List.mem_range]
  constructor
  · rintro ⟨h1, h2, h3, ⟨h4, h5⟩, h6, h7, h8⟩
    exact ⟨h1, h2, h3, h4, h5, h6, fun n ha hb => h7 n (by omega) (by omega), h8⟩
  · rintro ⟨h1, h2, h3, h4, h5, h6, h7, h8⟩
    exact ⟨h1, h2, h3, ⟨h4, h5⟩, h6, fun n ha hb => h7 n (by omega) (by omega), h8⟩
theorem OkF.dlsn {e : Eng} (h : OkF e) {p : Nat} (hp : p < 5) : (pg e.disk p).lsn ≤ e.safe := by
  have := h.page p hp
  simp only [pageB, Bool.and_eq_true, decide_eq_true_eq] at this
  exact this.1.2
theorem OkF.rise {e : Eng} (h : OkF e) : RiseOk { e with mem := redoN e.disk e.log e.log.length } := by
  have hp := h.pref e.log.length h.s1 (Nat.le_refl _)
  have hd := psOk_iff.1 h.disk
  rw [prefB, List.take_length, Bool.and_eq_true, undoneB, undAll_open] at hp
  have hf := h.fits
  rw [fitsB, need_at, decide_eq_true_eq] at hf
  refine ⟨h.log, hp.1, fun p hp5 => ?_, hp.2, hf⟩
  show (pg (redoN e.disk e.log e.log.length) p).lsn ≤ (e.log.length : Int)
  rw [pg_redo hd.1 (fun k hk => (logOk_facts h.log hk).ok) p _ (Nat.le_refl _)]
  have h1 := redo1_lsn (P := pg e.disk p) (l := e.log) (p := p) e.log.length
  have h2 := h.dlsn hp5
  have h3 := h.s1
  omega
/-- k steps undo tx. -/
def UndOk (tx : Int) : Nat → Eng → Prop
  | 0, e => lastT e tx = 0 ∧ logOk e.log = true
  | k + 1, e => lastT e tx ≠ 0 ∧ StepOk e tx ∧ UndOk tx k (stepE e tx)
theorem UndInv.stepOk {e : Eng} {C : Nat → Page} {B : Nat} {tx : Int} (h : UndInv e C B tx) (ht : tx = 1 ∨ tx = 2 ∨ tx = 3) (hlast : lastT e tx ≠ 0) : StepOk e tx := by
  have h1 := h.core.one ht hlast
  have hk := step_kind (e := e) h.core.log tx
  have hl' := hk.log h.core.log (by omega) h1
  have hn := hk.need h.core.log ht h1 hlast
  have hr := h.core.room e.log.length (Nat.le_refl _)
  have hb := h.core.b150
  have hs := fun p hp => (h.step ht hlast).upm p hp
  have hps : psOk e.mem = true := psOk_iff.2 ⟨h.mlen, fun p hp => (h.upm p hp).ok⟩
  refine ⟨h.core.log, psOk_geo hps, by omega, by omega, h1, fun hc => ?_, hl', by omega⟩
  have hok := hk.ok h.core.log (by omega)
  have hpg := step_page h.core.log tx hc
  have hpn : (nextU e tx).page.toNat < 5 := by omega
  have hmem := app_mem h.mlen (step_page h.core.log tx) (nextU e tx).page.toNat
  rw [if_pos ⟨hc, by omega⟩] at hmem
  have hs1 := (hs _ hpn).ok
  rw [show pg (stepE e tx).mem (nextU e tx).page.toNat = _ from hmem] at hs1
  have hl := (h.upm _ hpn).lsn
  simp only [recDoB, Bool.and_eq_true, decide_eq_true_eq]
  refine ⟨(h.upm _ hpn).ok, hok, hc, ?_, by omega, hs1⟩
  show (pg e.mem (nextU e tx).page.toNat).lsn < ((e.log.length + 1 : Nat) : Int)
  omega
theorem UndInv.undOk {C : Nat → Page} {B : Nat} {tx : Int} (ht : tx = 1 ∨ tx = 2 ∨ tx = 3) : ∀ (k : Nat) (e : Eng), UndInv e C B tx → lastT e tx ≠ 0 → (U e.log tx e.log.length).length = k → UndOk tx (k + 1) e
  | 0, e, h, hlast, hk => by
    have hs := h.core.stepU ht hlast
    have h0 := List.eq_nil_of_length_eq_zero hk
    refine ⟨hlast, h.stepOk ht hlast, ?_, (h.step ht hlast).core.log⟩
    show lastT (stepE e tx) tx = 0
    rw [hs.2.2.1, if_pos h0]
  | k + 1, e, h, hlast, hk => by
    have hs := h.core.stepU ht hlast
    have hne : U e.log tx e.log.length ≠ [] := fun h0 => by rw [h0] at hk; cases hk
    exact ⟨hlast, h.stepOk ht hlast, UndInv.undOk ht k (stepE e tx) (h.step ht hlast) (by rw [hs.2.2.1, if_neg hne]; omega) (by rw [hs.1, List.length_tail, hk]; omega)⟩
end Go.Proofs.YtlmlcnokiipilaaGreat

/- The reference's l11Fresh; who holds a page, counted. -/
namespace Go.Proofs.YtlmlcnokiipilaaGreat
open Go.RowKit Go.Proofs.YtlmlcnokiipilaaGreatW.PrintWords Go.Proofs.YtlmlcnokiipilaaGreatW.PrintLast Go.Proofs.YtlmlcnokiipilaaGreatW.PrintMore

def freshB (e : Eng) (p : Nat) : Bool := (pg e.mem p).lsn == lastOfN e.log p e.log.length && (decide ((pg e.disk p).lsn < (pg e.mem p).lsn) || samePg (pg e.mem p) (pg e.disk p))
set_option maxRecDepth 100000 in
set_option maxHeartbeats 8000000 in
theorem l11Fresh_calls {w0 w : World} {e : Eng} {Ad Am Al : Option Addr} {cd cm cl : Nat} {p : Nat} {b : Bool} (hv : freshB e p = b) (hp : p < 5) (hd : psOk e.disk = true) (hm : psOk e.mem = true) (hb : Below w0.heap.size w0 w) (hr : EngC w0 e Ad Am Al) : Calls Tryz.prog 75 #[e.val Ad Am Al cd cm cl, .int .i64 p] w fun x w' => x = .returned (.bool b) ∧ Below w.heap.size w w' := by
  have HR := Aside0.mk (hr.up hb)
  have HV := Aside0.mk hv
  have hd5 := psOk_iff.1 hd
  have hm5 := psOk_iff.1 hm
  have HOK := Aside0.mk (And.intro (hm5.2 p hp) (hd5.2 p hp))
  have hpd : p < e.disk.length := by omega
  have hpm : p < e.mem.length := by omega
  clear hr hb hv hd hm hd5 hm5
  obtain ⟨adm, Am2, cm2, rfl, QM, -, hmC⟩ := at_page HR.out.m p hpm
  obtain ⟨add, Ad2, cd2, rfl, QD, -, hdC⟩ := at_page HR.out.d p hpd
  obtain ⟨M, hM⟩ : ∃ M, pg e.mem p = M := ⟨_, rfl⟩
  obtain ⟨Dp, hD⟩ : ∃ Dp, pg e.disk p = Dp := ⟨_, rfl⟩
  rw [hM] at QM hmC HOK
  rw [hD] at QD hdC HOK
  have HMC := Aside0.mk hmC
  have HDC := Aside0.mk hdC
  have HMD := Aside0.mk (And.intro hM hD)
  obtain ⟨sD, hsD⟩ : ∃ sD, samePg M Dp = sD := ⟨_, rfl⟩
  have HSD := Aside0.mk hsD
  clear hmC hdC hM hD hsD
  obtain ⟨w1, hw1⟩ : ∃ w1, w.alloc (e.obox (.slice (some add) e.disk.length cd) (.slice (some adm) e.mem.length cm) (.slice Al e.log.length cl)) = w1 := ⟨_, rfl⟩
  have HW1 := Aside0.mk hw1
  have HB1 : Aside0 (Below w.heap.size w w1) := ⟨by rw [← hw1]; exact bel_alloc (Below.refl _ _) _⟩
  have HQ1 : Aside0 (EgBox w1 w.heap.size e (.slice (some add) e.disk.length cd) (.slice (some adm) e.mem.length cm) (.slice Al e.log.length cl)) := ⟨by rw [← hw1]; exact EgBox.mk1 _ _ _ _ _⟩
  clear hw1
  have x0 := HQ1.out.c0
  have x1 := HQ1.out.c1
  have x2 := HQ1.out.c2
  obtain ⟨m0, m1, m2⟩ := QM.up HB1.out
  obtain ⟨d0, d1, d2⟩ := QD.up HB1.out
  rcases beqs M.lsn (lastOfN e.log p e.log.length) with ⟨e2, b2, c2⟩ | ⟨e2, b2, c2⟩
  · rcases lts Dp.lsn M.lsn with ⟨e3, k1, k2⟩ | ⟨e3, k1, k2⟩
    all_goals
      go_enter Tryz.func75, Tryz.ntmps75
      go_wp2
      rw [HW1.out]
      refine text_start (fun w' => Below w1.heap.size w1 w') rfl rfl (by kernel_rfl) (below_drew (Below.refl _ _)) (fun HT => ?_)
      repeat (first
        | (refine text_end (fun wx hS => ?_))
        | ((with_reducible refine text_gate (f := 131) rfl ?_); refine text_call (v := .int .i64 (lastOfN e.log p e.log.length)) (args := #[.slice Al e.log.length cl, .int .i64 p]) HT rfl Tryz.func131 (by kernel_rfl) rfl rfl (by rfl) (fun _ _ _ h => h) (by simp only [List.map_toArray, List.map_cons, List.map_nil]; rfl) (fun wx hS => (l11Last_calls (p : Int) (bel_then HB1.out hS) HR.out.l).mono fun _ _ h => ⟨h.1, h.2 ▸ hS⟩) ?_; simp only [List.set_cons_zero, List.set_cons_succ])
        | ((with_reducible refine text_gate (f := 73) rfl ?_); refine text_call (v := .bool sD) (args := #[M.val Am2 cm2, Dp.val Ad2 cd2]) HT rfl Tryz.func73 (by kernel_rfl) rfl rfl (by rfl) (fun _ _ _ h => h) (by simp only [List.map_toArray, List.map_cons, List.map_nil]; rfl) (fun wx hS => (l11Same_calls (c := cm2) (d := cd2) HSD.out HOK.out.1 HOK.out.2 (bel_then HB1.out hS) HMC.out HDC.out).mono fun _ _ h => ⟨h.1, bel_then hS h.2⟩) ?_; simp only [List.set_cons_zero, List.set_cons_succ])
        | (refine text_skip HT rfl (by rfl) (fun _ _ _ h => h) ?_; simp only [List.set_cons_zero, List.set_cons_succ])
        | (refine text_val (v := ?_) HT rfl (by rfl) (fun _ _ _ h => h) (fun wx hS => ?_) ?_; rotate_left; (replace x0 := bel_cell hS x0; replace x1 := bel_cell hS x1; replace x2 := bel_cell hS x2; replace m0 := bel_cell hS m0; replace m1 := bel_cell hS m1; replace m2 := bel_cell hS m2; replace d0 := bel_cell hS d0; replace d1 := bel_cell hS d1; replace d2 := bel_cell hS d2; go_simp; with_reducible rfl); rotate_left; simp only [List.set_cons_zero, List.set_cons_succ]))
      go_wp2
      go_ret
      exact ⟨ret_bool (by rw [← HV.out, freshB, HMD.out.1, HMD.out.2, HSD.out]; simp [b2, k1]), bel_then HB1.out hS⟩
  · go_enter Tryz.func75, Tryz.ntmps75
    go_wp2
    rw [HW1.out]
    refine text_start (fun w' => Below w1.heap.size w1 w') rfl rfl (by kernel_rfl) (below_drew (Below.refl _ _)) (fun HT => ?_)
    repeat (first
      | (refine text_end (fun wx hS => ?_))
      | ((with_reducible refine text_gate (f := 131) rfl ?_); refine text_call (v := .int .i64 (lastOfN e.log p e.log.length)) (args := #[.slice Al e.log.length cl, .int .i64 p]) HT rfl Tryz.func131 (by kernel_rfl) rfl rfl (by rfl) (fun _ _ _ h => h) (by simp only [List.map_toArray, List.map_cons, List.map_nil]; rfl) (fun wx hS => (l11Last_calls (p : Int) (bel_then HB1.out hS) HR.out.l).mono fun _ _ h => ⟨h.1, h.2 ▸ hS⟩) ?_; simp only [List.set_cons_zero, List.set_cons_succ])
      | (refine text_skip HT rfl (by rfl) (fun _ _ _ h => h) ?_; simp only [List.set_cons_zero, List.set_cons_succ])
      | (refine text_val (v := ?_) HT rfl (by rfl) (fun _ _ _ h => h) (fun wx hS => ?_) ?_; rotate_left; (replace x0 := bel_cell hS x0; replace x1 := bel_cell hS x1; replace x2 := bel_cell hS x2; replace m0 := bel_cell hS m0; replace m1 := bel_cell hS m1; replace m2 := bel_cell hS m2; replace d0 := bel_cell hS d0; replace d1 := bel_cell hS d1; replace d2 := bel_cell hS d2; go_simp; with_reducible rfl); rotate_left; simp only [List.set_cons_zero, List.set_cons_succ]))
    go_wp2
    go_ret
    exact ⟨ret_bool (by rw [← HV.out, freshB, HMD.out.1, HMD.out.2, HSD.out]; simp [b2]), bel_then HB1.out hS⟩
/-- How many of the last j transactions hold a page. -/
def heldR (l : List Rec) (p : Int) : Nat → Nat
  | 0 => 0
  | j + 1 => (if hasN l (lastN l (3 - j : Int) l.length) p = true then 1 else 0) + heldR l p j
theorem heldR_le (l : List Rec) (p : Int) : ∀ j, heldR l p j ≤ j
  | 0 => Nat.le_refl _
  | j + 1 => by
    have := heldR_le l p j
    unfold heldR
    split <;> omega
theorem held_lock (l : List Rec) (p : Int) : (lockF l p (openR l 3) 0 true).2 = decide (heldR l p 3 ≤ 1) := by
  have e1 : (3 - ((2 : Nat) : Int)) = 1 := rfl
  have e2 : (3 - ((1 : Nat) : Int)) = 2 := rfl
  have e3 : (3 - ((0 : Nat) : Int)) = 3 := rfl
  rw [openR_three, heldR, heldR, heldR, heldR, e1, e2, e3]
  by_cases h1 : lastN l 1 l.length = 0 <;> by_cases h2 : lastN l 2 l.length = 0 <;> by_cases h3 : lastN l 3 l.length = 0 <;> cases k1 : hasN l (lastN l 1 l.length) p <;> cases k2 : hasN l (lastN l 2 l.length) p <;> cases k3 : hasN l (lastN l 3 l.length) p <;> simp_all [lockF, hasN_zero]
end Go.Proofs.YtlmlcnokiipilaaGreat

/- The reference's EngineOk. -/
namespace Go.Proofs.YtlmlcnokiipilaaGreat
open Go.RowKit Go.Proofs.YtlmlcnokiipilaaGreatW.PrintWords Go.Proofs.YtlmlcnokiipilaaGreatW.PrintLast Go.Proofs.YtlmlcnokiipilaaGreatW.PrintMore

set_option maxRecDepth 100000 in
set_option maxHeartbeats 16000000 in
theorem specEngineOk_calls {w0 w : World} {e : Eng} {Ad Am Al : Option Addr} {cd cm cl : Nat} {b : Bool} (hv : eOk e = b) (hcl : e.log.length ≤ cl) (hb : Below w0.heap.size w0 w) (hr : EngC w0 e Ad Am Al) : Calls Tryz.prog 31 #[e.val Ad Am Al cd cm cl] w fun x w' => x = .returned (.bool b) ∧ Below w.heap.size w w' := by
  have HR := Aside0.mk (hr.up hb)
  have HV := Aside0.mk hv
  have hlm := (C_len HR.out.l).2
  clear hr hb hv
  obtain ⟨w1, hw1⟩ : ∃ w1, w.alloc (e.obox (.slice Ad e.disk.length cd) (.slice Am e.mem.length cm) (.slice Al e.log.length cl)) = w1 := ⟨_, rfl⟩
  have HW1 := Aside0.mk hw1
  have HB1 : Aside0 (Below w.heap.size w w1) := ⟨by rw [← hw1]; exact bel_alloc (Below.refl _ _) _⟩
  have HQ1 : Aside0 (EgBox w1 w.heap.size e (.slice Ad e.disk.length cd) (.slice Am e.mem.length cm) (.slice Al e.log.length cl)) := ⟨by rw [← hw1]; exact EgBox.mk1 _ _ _ _ _⟩
  clear hw1
  have HX := Aside0.mk (Below.refl w1.heap.size w1)
  have x0 := HQ1.out.c0
  have x1 := HQ1.out.c1
  have x2 := HQ1.out.c2
  have x3 := HQ1.out.c3
  have x4 := HQ1.out.c4
  cases hvd : psOk e.disk
  · have HVd := Aside0.mk hvd
    clear hvd
    go_enter Tryz.func31, Tryz.ntmps31
    go_wp2_with (first | (go_at_call 68; rw [HW1.out]; refine (l11Good_calls (c := cd) HVd.out (bel_then HB1.out HX.out) HR.out.d).mono ?_; rintro x w9 ⟨rfl, hb9⟩; have HX := Aside0.mk (bel_then HX.out hb9); replace x0 := bel_cell hb9 x0; replace x1 := bel_cell hb9 x1; replace x2 := bel_cell hb9 x2; replace x3 := bel_cell hb9 x3; replace x4 := bel_cell hb9 x4; clear hb9))
    go_ret
    exact ⟨ret_bool (by rw [← HV.out, eOk, HVd.out]; simp), bel_then HB1.out HX.out⟩
  · have HVd := Aside0.mk hvd
    clear hvd
    cases hvm : psOk e.mem
    · have HVm := Aside0.mk hvm
      clear hvm
      go_enter Tryz.func31, Tryz.ntmps31
      go_wp2_with (first | (go_at_call 68; rw [HW1.out]; refine (l11Good_calls (c := cd) HVd.out (bel_then HB1.out HX.out) HR.out.d).mono ?_; rintro x w9 ⟨rfl, hb9⟩; have HX := Aside0.mk (bel_then HX.out hb9); replace x0 := bel_cell hb9 x0; replace x1 := bel_cell hb9 x1; replace x2 := bel_cell hb9 x2; replace x3 := bel_cell hb9 x3; replace x4 := bel_cell hb9 x4; clear hb9) | (go_at_call 68; refine (l11Good_calls (c := cm) HVm.out (bel_then HB1.out HX.out) HR.out.m).mono ?_; rintro x w9 ⟨rfl, hb9⟩; have HX := Aside0.mk (bel_then HX.out hb9); replace x0 := bel_cell hb9 x0; replace x1 := bel_cell hb9 x1; replace x2 := bel_cell hb9 x2; replace x3 := bel_cell hb9 x3; replace x4 := bel_cell hb9 x4; clear hb9))
      go_ret
      exact ⟨ret_bool (by rw [← HV.out, eOk, HVd.out, HVm.out]; simp), bel_then HB1.out HX.out⟩
    · have HVm := Aside0.mk hvm
      clear hvm
      cases hvl : logOk e.log
      · have HVl := Aside0.mk hvl
        clear hvl
        go_enter Tryz.func31, Tryz.ntmps31
        go_wp2_with (first | (go_at_call 68; rw [HW1.out]; refine (l11Good_calls (c := cd) HVd.out (bel_then HB1.out HX.out) HR.out.d).mono ?_; rintro x w9 ⟨rfl, hb9⟩; have HX := Aside0.mk (bel_then HX.out hb9); replace x0 := bel_cell hb9 x0; replace x1 := bel_cell hb9 x1; replace x2 := bel_cell hb9 x2; replace x3 := bel_cell hb9 x3; replace x4 := bel_cell hb9 x4; clear hb9) | (go_at_call 68; refine (l11Good_calls (c := cm) HVm.out (bel_then HB1.out HX.out) HR.out.m).mono ?_; rintro x w9 ⟨rfl, hb9⟩; have HX := Aside0.mk (bel_then HX.out hb9); replace x0 := bel_cell hb9 x0; replace x1 := bel_cell hb9 x1; replace x2 := bel_cell hb9 x2; replace x3 := bel_cell hb9 x3; replace x4 := bel_cell hb9 x4; clear hb9) | (go_at_call 69; refine (specLogOk_calls (c := cl) (Below.refl _ _) (C_up HR.out.l (bel_then HB1.out HX.out)) hcl).mono ?_; rintro x w9 ⟨rfl, hb9⟩; rw [HVl.out]; have HX := Aside0.mk (bel_then HX.out hb9); replace x0 := bel_cell hb9 x0; replace x1 := bel_cell hb9 x1; replace x2 := bel_cell hb9 x2; replace x3 := bel_cell hb9 x3; replace x4 := bel_cell hb9 x4; clear hb9))
        go_ret
        exact ⟨ret_bool (by rw [← HV.out, eOk, HVd.out, HVm.out, HVl.out]; simp), bel_then HB1.out HX.out⟩
      · have HVl := Aside0.mk hvl
        clear hvl
        have hm150 := logOk_len HVl.out
        cases hvs : inB e.safe 0 e.log.length
        · have HVs := Aside0.mk hvs
          clear hvs
          go_enter Tryz.func31, Tryz.ntmps31
          go_wp2_with (first | (go_at_call 68; rw [HW1.out]; refine (l11Good_calls (c := cd) HVd.out (bel_then HB1.out HX.out) HR.out.d).mono ?_; rintro x w9 ⟨rfl, hb9⟩; have HX := Aside0.mk (bel_then HX.out hb9); replace x0 := bel_cell hb9 x0; replace x1 := bel_cell hb9 x1; replace x2 := bel_cell hb9 x2; replace x3 := bel_cell hb9 x3; replace x4 := bel_cell hb9 x4; clear hb9) | (go_at_call 68; refine (l11Good_calls (c := cm) HVm.out (bel_then HB1.out HX.out) HR.out.m).mono ?_; rintro x w9 ⟨rfl, hb9⟩; have HX := Aside0.mk (bel_then HX.out hb9); replace x0 := bel_cell hb9 x0; replace x1 := bel_cell hb9 x1; replace x2 := bel_cell hb9 x2; replace x3 := bel_cell hb9 x3; replace x4 := bel_cell hb9 x4; clear hb9) | (go_at_call 69; refine (specLogOk_calls (c := cl) (Below.refl _ _) (C_up HR.out.l (bel_then HB1.out HX.out)) hcl).mono ?_; rintro x w9 ⟨rfl, hb9⟩; rw [HVl.out]; have HX := Aside0.mk (bel_then HX.out hb9); replace x0 := bel_cell hb9 x0; replace x1 := bel_cell hb9 x1; replace x2 := bel_cell hb9 x2; replace x3 := bel_cell hb9 x3; replace x4 := bel_cell hb9 x4; clear hb9) | (go_at_call 70; refine (l6In_is HVs.out _).mono ?_; rintro x w9 ⟨rfl, rfl⟩))
          go_ret
          exact ⟨ret_bool (by rw [← HV.out, eOk, HVd.out, HVm.out, HVl.out, HVs.out]; simp), bel_then HB1.out HX.out⟩
        · have HVs := Aside0.mk hvs
          clear hvs
          have HS01 := Aside0.mk (inB_iff.1 HVs.out)
          have HGR := Aside0.mk (geo_redo (psOk_geo HVd.out) (fun k hk => (logOk_facts HVl.out hk).ok) e.log.length (Nat.le_refl _))
          obtain ⟨nd, hnd⟩ : ∃ nd, need e.log = nd := ⟨_, rfl⟩
          have hnd453 := need_le hm150
          rw [hnd] at hnd453
          have HND := Aside0.mk hnd
          clear hnd
          go_enter Tryz.func31, Tryz.ntmps31
          go_wp2_with (first | (go_at_call 68; rw [HW1.out]; refine (l11Good_calls (c := cd) HVd.out (bel_then HB1.out HX.out) HR.out.d).mono ?_; rintro x w9 ⟨rfl, hb9⟩; have HX := Aside0.mk (bel_then HX.out hb9); replace x0 := bel_cell hb9 x0; replace x1 := bel_cell hb9 x1; replace x2 := bel_cell hb9 x2; replace x3 := bel_cell hb9 x3; replace x4 := bel_cell hb9 x4; clear hb9) | (go_at_call 68; refine (l11Good_calls (c := cm) HVm.out (bel_then HB1.out HX.out) HR.out.m).mono ?_; rintro x w9 ⟨rfl, hb9⟩; have HX := Aside0.mk (bel_then HX.out hb9); replace x0 := bel_cell hb9 x0; replace x1 := bel_cell hb9 x1; replace x2 := bel_cell hb9 x2; replace x3 := bel_cell hb9 x3; replace x4 := bel_cell hb9 x4; clear hb9) | (go_at_call 69; refine (specLogOk_calls (c := cl) (Below.refl _ _) (C_up HR.out.l (bel_then HB1.out HX.out)) hcl).mono ?_; rintro x w9 ⟨rfl, hb9⟩; rw [HVl.out]; have HX := Aside0.mk (bel_then HX.out hb9); replace x0 := bel_cell hb9 x0; replace x1 := bel_cell hb9 x1; replace x2 := bel_cell hb9 x2; replace x3 := bel_cell hb9 x3; replace x4 := bel_cell hb9 x4; clear hb9) | (go_at_call 70; refine (l6In_is HVs.out _).mono ?_; rintro x w9 ⟨rfl, rfl⟩) | (go_at_call 71; refine (l11Redo_calls (c := cd) (d := cl) (psOk_geo HVd.out) (fun k hk => (logOk_facts HVl.out hk).ok) hm150 (bel_then HB1.out HX.out) HR.out.d HR.out.l).mono ?_; rintro x w9 ⟨u, rfl, hO, hb9⟩; obtain ⟨g, cap, rfl, hgb, hgl⟩ := psS_form hO (by rw [HGR.out.1]; omega); rw [HGR.out.1] at hO ⊢; have HO := Aside0.mk hO; have HGB := Aside0.mk (And.intro hgb hgl); clear hO hgb hgl; have HX := Aside0.mk (bel_then HX.out hb9); replace x0 := bel_cell hb9 x0; replace x1 := bel_cell hb9 x1; replace x2 := bel_cell hb9 x2; replace x3 := bel_cell hb9 x3; replace x4 := bel_cell hb9 x4; clear hb9))
          obtain ⟨R, hRR⟩ : ∃ R, redoN e.disk e.log e.log.length = R := ⟨_, rfl⟩
          rw [hRR] at HO HGR
          have HRR := Aside0.mk hRR
          clear hRR
          have hwr : IntKind.i64.wrap ((e.log.length : Int) + nd) = (e.log.length : Int) + nd := by simp (disch := omega) only [IntWalk.i64_in]
          rcases lts 150 ((e.log.length : Int) + nd) with ⟨ef, f1, f2⟩ | ⟨ef, f1, f2⟩
          · refine text_start (fun w' => Below w9.heap.size w9 w') rfl rfl (by kernel_rfl) (below_drew (Below.refl _ _)) (fun HT => ?_)
            repeat (first
              | (refine text_end (fun wx hS => ?_))
              | ((with_reducible refine text_gate (f := 32) rfl ?_); refine text_call (v := .int .i64 nd) (args := #[.slice Al e.log.length cl]) HT rfl Tryz.func32 (by kernel_rfl) rfl rfl (by rfl) (fun _ _ _ h => h) (by simp only [List.map_toArray, List.map_cons, List.map_nil]; rfl) (fun wx hS => (HND.out ▸ l11Need_calls (w0 := w9) hS (C_up HR.out.l (bel_then HB1.out HX.out)) HVl.out : Calls Tryz.prog 32 #[.slice Al e.log.length cl] wx fun e w' => e = .returned (.int .i64 nd) ∧ Below w9.heap.size w9 w')) ?_; simp only [List.set_cons_zero, List.set_cons_succ])
              | (refine text_skip HT rfl (by rfl) (fun _ _ _ h => h) ?_; simp only [List.set_cons_zero, List.set_cons_succ])
              | (refine text_val (v := ?_) HT rfl (by rfl) (fun _ _ _ h => h) (fun wx hS => ?_) ?_; rotate_left; (replace x2 := bel_cell hS x2; go_simp; with_reducible rfl); rotate_left; simp only [List.set_cons_zero, List.set_cons_succ]))
            have HX := Aside0.mk (bel_then HX.out hS)
            replace HO := Aside0.mk (Kd.S_below HO.out hS)
            replace x0 := bel_cell hS x0; replace x1 := bel_cell hS x1; replace x2 := bel_cell hS x2; replace x3 := bel_cell hS x3; replace x4 := bel_cell hS x4
            clear hS
            go_wp2
            go_ret
            exact ⟨ret_bool (by rw [← HV.out, eOk, HVd.out, HVm.out, HVl.out, HVs.out, fitsB, HND.out, decide_eq_false (by have := ef.out; omega)]; simp), bel_then HB1.out HX.out⟩
          refine text_start (fun w' => Below w9.heap.size w9 w') rfl rfl (by kernel_rfl) (below_drew (Below.refl _ _)) (fun HT => ?_)
          repeat (first
            | (refine text_end (fun wx hS => ?_))
            | ((with_reducible refine text_gate (f := 32) rfl ?_); refine text_call (v := .int .i64 nd) (args := #[.slice Al e.log.length cl]) HT rfl Tryz.func32 (by kernel_rfl) rfl rfl (by rfl) (fun _ _ _ h => h) (by simp only [List.map_toArray, List.map_cons, List.map_nil]; rfl) (fun wx hS => (HND.out ▸ l11Need_calls (w0 := w9) hS (C_up HR.out.l (bel_then HB1.out HX.out)) HVl.out : Calls Tryz.prog 32 #[.slice Al e.log.length cl] wx fun e w' => e = .returned (.int .i64 nd) ∧ Below w9.heap.size w9 w')) ?_; simp only [List.set_cons_zero, List.set_cons_succ])
            | (refine text_skip HT rfl (by rfl) (fun _ _ _ h => h) ?_; simp only [List.set_cons_zero, List.set_cons_succ])
            | (refine text_val (v := ?_) HT rfl (by rfl) (fun _ _ _ h => h) (fun wx hS => ?_) ?_; rotate_left; (replace x2 := bel_cell hS x2; go_simp; with_reducible rfl); rotate_left; simp only [List.set_cons_zero, List.set_cons_succ]))
          have HX := Aside0.mk (bel_then HX.out hS)
          replace HO := Aside0.mk (Kd.S_below HO.out hS)
          replace x0 := bel_cell hS x0; replace x1 := bel_cell hS x1; replace x2 := bel_cell hS x2; replace x3 := bel_cell hS x3; replace x4 := bel_cell hS x4
          clear hS
          have HVf := Aside0.mk (show fitsB e.log = true by rw [fitsB, HND.out, decide_eq_true_eq]; have := ef.out; omega)
          obtain ⟨s, hs⟩ : ∃ s : Nat, e.safe = s := ⟨e.safe.toNat, by have := HS01.out; omega⟩
          have HS := Aside0.mk hs
          have hs2 : s ≤ e.log.length := by have := HS01.out; omega
          clear hs
          obtain ⟨pv, hpv⟩ : ∃ pv, prefsB e (e.log.length + 1 - e.safe.toNat) e.safe.toNat = pv := ⟨_, rfl⟩
          have HPV := Aside0.mk hpv
          clear hpv
          go_wp2
          clear f1 f2 ef
          go_loopw [4] (fun i wr => ∃ n : Nat, s ≤ n ∧ n ≤ e.log.length + 1 ∧ i = .int .i64 (n : Int) ∧ Aside0 (prefsB e (e.log.length + 1 - n) n = pv) ∧ Aside0 (Below wx.heap.size wx wr)) (fun i _ => (e.log.length + 1 - intOf i).toNat)
          case atStart => exact ⟨s, Nat.le_refl _, by omega, by rw [HS.out], ⟨by have := HPV.out; rw [HS.out] at this; exact this⟩, ⟨Below.refl _ _⟩⟩
          case round => as_aux_lemma =>
            obtain ⟨n, hn1, hn2, rfl, HK, HW⟩ := hrel
            have HWW := Aside0.mk (bel_then HB1.out (bel_then HX.out HW.out))
            replace x0 := bel_cell HW.out x0; replace x1 := bel_cell HW.out x1; replace x2 := bel_cell HW.out x2; replace x3 := bel_cell HW.out x3; replace x4 := bel_cell HW.out x4
            by_cases hlt : n ≤ e.log.length
            · have hl : (e.log.take n).length = n := by rw [List.length_take]; omega
              obtain ⟨ps, hps⟩ : ∃ ps, redoN e.disk (e.log.take n) (e.log.take n).length = ps := ⟨_, rfl⟩
              obtain ⟨ok, hok⟩ : ∃ ok, psOk ps = ok := ⟨_, rfl⟩
              have hgeo : geo ps := by rw [← hps]; exact geo_redo (psOk_geo HVd.out) (take_ok HVl.out n) _ (Nat.le_refl _)
              have HGP := Aside0.mk hgeo
              have HPS := Aside0.mk (And.intro hps hok)
              have hcall : ∀ w2, Below wr.heap.size wr w2 → Calls Tryz.prog 71 #[.slice Ad e.disk.length cd, .slice Al n cl] w2 (RetPs w2 ps) := fun w2 hb => by
                have h := l11Redo_calls (c := cd) (d := cl) (psOk_geo HVd.out) (take_ok HVl.out n) (by omega) hb (C_up HR.out.d HWW.out) (take_C (C_up HR.out.l HWW.out) hlt)
                rw [hps, hl] at h
                exact h
              have HLn := Aside0.mk hl
              have hncl : n ≤ cl := Nat.le_trans hlt hcl
              clear hps hok hl hgeo
              go_wp2
              refine reg_start (fun lx a w2 => Below wr.heap.size wr w2 ∧ Sl 6 62 (fun v w2 => OwnPs w2 wr.heap.size v ps) lx a w2) 8 rfl (by kernel_rfl) (⟨below_drew (Below.refl _ _), sl_start⟩) (fun HT => ?_)
              refine reg_val (i := 0) (v := ?_) HT rfl (by kernel_rfl) rfl (keeps_and keeps_world (keeps_sl rfl rfl)) (by rfl) (fun _ _ _ h => h) (fun lx ax wx hS => ?_) ?_; rotate_left; (have hbx := hS.1; clear hS; replace x0 := bel_cell hbx x0; replace x2 := bel_cell hbx x2; go_simp; with_reducible rfl); rotate_left; simp only [List.set_cons_zero, List.set_cons_succ]
              refine reg_val (i := 1) (v := ?_) HT rfl (by kernel_rfl) rfl (keeps_and keeps_world (keeps_sl rfl rfl)) (by rfl) (fun _ _ _ h => h) (fun lx ax wx hS => ?_) ?_; rotate_left; (have hbx := hS.1; clear hS; replace x0 := bel_cell hbx x0; replace x2 := bel_cell hbx x2; go_simp; with_reducible rfl); rotate_left; simp only [List.set_cons_zero, List.set_cons_succ]
              refine reg_val (i := 2) (v := ?_) HT rfl (by kernel_rfl) rfl (keeps_and keeps_world (keeps_sl rfl rfl)) (by rfl) (fun _ _ _ h => h) (fun lx ax wx hS => ?_) ?_; rotate_left; (have hbx := hS.1; clear hS; replace x0 := bel_cell hbx x0; replace x2 := bel_cell hbx x2; go_simp; with_reducible rfl); rotate_left; simp only [List.set_cons_zero, List.set_cons_succ]
              refine reg_val (i := 3) (v := ?_) HT rfl (by kernel_rfl) rfl (keeps_and keeps_world (keeps_sl rfl rfl)) (by rfl) (fun _ _ _ h => h) (fun lx ax wx hS => ?_) ?_; rotate_left; (have hbx := hS.1; clear hS; replace x0 := bel_cell hbx x0; replace x2 := bel_cell hbx x2; go_simp; with_reducible rfl); rotate_left; simp only [List.set_cons_zero, List.set_cons_succ]
              refine reg_val (i := 4) (v := ?_) HT rfl (by kernel_rfl) rfl (keeps_and keeps_world (keeps_sl rfl rfl)) (by rfl) (fun _ _ _ h => h) (fun lx ax wx hS => ?_) ?_; rotate_left; (have hbx := hS.1; clear hS; replace x0 := bel_cell hbx x0; replace x2 := bel_cell hbx x2; go_simp; with_reducible rfl); rotate_left; simp only [List.set_cons_zero, List.set_cons_succ]
              refine reg_val (i := 5) (v := ?_) HT rfl (by kernel_rfl) rfl (keeps_and keeps_world (keeps_sl rfl rfl)) (by rfl) (fun _ _ _ h => h) (fun lx ax wx hS => ?_) ?_; rotate_left; (have hbx := hS.1; clear hS; replace x0 := bel_cell hbx x0; replace x2 := bel_cell hbx x2; go_simp; with_reducible rfl); rotate_left; simp only [List.set_cons_zero, List.set_cons_succ]
              refine reg_only (i := 6) (f := 71) (args := #[.slice Ad e.disk.length cd, .slice Al n cl]) (fun v => True) rfl (by kernel_rfl) rfl Tryz.func71 (by kernel_rfl) rfl rfl (by rfl) (by simp only [List.map_toArray, List.map_cons, List.map_nil]; rfl) (fun wx hS => (hcall wx hS.1).mono (by rintro e w6 ⟨u, rfl, ho, hb⟩; exact ⟨_, rfl, trivial, bel_then hS.1 hb, fun _ => Kd.S_lower ho hS.1.size⟩)) (fun vx hg => ?_); simp only [List.set_cons_zero, List.set_cons_succ]
              rename_i u; clear hg
              refine reg_val (i := 7) (v := ?_) HT rfl (by kernel_rfl) rfl (keeps_and keeps_world (keeps_sl rfl rfl)) (by rfl) (fun _ _ _ h => h) (fun lx ax wx hS => ?_) ?_; rotate_left; (go_simp; with_reducible rfl); rotate_left; simp only [List.set_cons_zero, List.set_cons_succ]
              refine reg_end (by kernel_rfl) (fun w2 hS => ?_)
              obtain ⟨h1, h2⟩ := hS
              have hown : OwnPs w2 wr.heap.size vx ps := h2 (by kernel_rfl)
              obtain ⟨g2, cap2, rfl, hgb, hgl⟩ := psS_form hown (by rw [HGP.out.1]; omega)
              have HO2 := Aside0.mk (Kd.S_R hown)
              have HX2 := Aside0.mk h1
              rw [HGP.out.1] at HO2 ⊢
              replace x0 := bel_cell h1 x0; replace x1 := bel_cell h1 x1; replace x2 := bel_cell h1 x2; replace x3 := bel_cell h1 x3; replace x4 := bel_cell h1 x4
              clear h1 h2 hown hcall hgb hgl
              have HP := Aside0.mk (show prefsB e (e.log.length + 1 - n) n = (prefB e n && prefsB e (e.log.length + 1 - (n + 1)) (n + 1)) by rw [show e.log.length + 1 - n = (e.log.length + 1 - (n + 1)) + 1 by omega, prefsB])
              cases ok
              · go_wp2_with (go_at_call 68; refine (l11Good_n HGP.out.1 HPS.out.2 (Below.refl _ _) (Kd.R_reads' HO2.out).2.2).mono ?_; rintro x w7 ⟨rfl, hb7⟩; have HB7 := Aside0.mk (bel_then HX2.out hb7); clear hb7)
                go_ret
                exact ⟨ret_bool (by rw [← HV.out, eOk, HVd.out, HVm.out, HVl.out, HVs.out, HVf.out, HPV.out, ← HK.out, HP.out, prefB, HPS.out.1, HPS.out.2]; simp), bel_then HWW.out HB7.out⟩
              · obtain ⟨ub, hub⟩ : ∃ ub, undoneB (e.log.take n) ps = ub := ⟨_, rfl⟩
                have hcall2 : ∀ w8, Below w2.heap.size w2 w8 → Calls Tryz.prog 72 #[.slice (some ⟨g2, 0, none⟩) 5 cap2, .slice Al n cl] w8 fun x w' => x = .returned (.bool ub) ∧ Below wr.heap.size wr w' := fun w8 hb8 => by
                  have h := l11Undone_calls (d := cl) hub HGP.out (logOk_take HVl.out n) (Kd.R_below HO2.out hb8) (bel_then HX2.out hb8) (take_C (C_up HR.out.l HWW.out) hlt)
                  rw [HLn.out] at h
                  exact h
                have HUB := Aside0.mk hub
                clear hub
                cases ub
                all_goals
                  go_wp2_with (first | (go_at_call 68; refine (l11Good_n HGP.out.1 HPS.out.2 (Below.refl _ _) (Kd.R_reads' HO2.out).2.2).mono ?_; rintro x w7 ⟨rfl, hb7⟩; have HB7 := Aside0.mk hb7; replace x0 := bel_cell hb7 x0; replace x1 := bel_cell hb7 x1; replace x2 := bel_cell hb7 x2; replace x3 := bel_cell hb7 x3; replace x4 := bel_cell hb7 x4; clear hb7) | (go_at_call 72; refine (hcall2 _ HB7.out).mono ?_; rintro x w8 ⟨rfl, hb8⟩; have HB8 := Aside0.mk hb8; clear hb8))
                · go_ret
                  exact ⟨ret_bool (by rw [← HV.out, eOk, HVd.out, HVm.out, HVl.out, HVs.out, HVf.out, HPV.out, ← HK.out, HP.out, prefB, HPS.out.1, HPS.out.2, HUB.out]; simp), bel_then HWW.out HB8.out⟩
                · go_roundw
                  case rel => exact ⟨n + 1, by omega, by omega, by go_num, ⟨by rw [← HK.out, HP.out, prefB, HPS.out.1, HPS.out.2, HUB.out]; rfl⟩, ⟨bel_then HW.out HB8.out⟩⟩
                  case measure => simp [intOf]; omega
            · have HPT := Aside0.mk (show pv = true by rw [← HK.out, show e.log.length + 1 - n = 0 by omega]; rfl)
              have HPS := Aside0.mk (show psOk R = true by
                have h := HPV.out
                rw [HPT.out, prefsB_iff] at h
                have h2 := h e.log.length (by have := HS01.out; omega) (by have := HS01.out; omega)
                rw [prefB, List.take_length, Bool.and_eq_true, HRR.out] at h2
                exact h2.1)
              have HP5 := Aside0.mk (show pgsB e 5 0 = b by rw [← HV.out, eOk, HVd.out, HVm.out, HVl.out, HVs.out, HVf.out, HPV.out, HPT.out, ← pgsB_all]; simp)
              go_wp2
              replace HO := Aside0.mk (Kd.S_below HO.out HW.out)
              obtain ⟨w5, rfl⟩ : ∃ w5, w5 = wr := ⟨_, rfl⟩
              go_loopw [6] (fun i wr => ∃ k : Nat, k ≤ 5 ∧ i = .int .i64 (k : Int) ∧ Aside0 (pgsB e (5 - k) k = b) ∧ Aside0 (Below w5.heap.size w5 wr)) (fun i _ => (5 - intOf i).toNat)
              case atStart => exact ⟨0, by omega, rfl, HP5, ⟨Below.refl _ _⟩⟩
              case round => as_aux_lemma =>
                obtain ⟨k, hk, rfl, HK2, HW2⟩ := hrel
                have HWQ := Aside0.mk (bel_then HWW.out HW2.out)
                have y0 := bel_cell HW2.out x0
                have y1 := bel_cell HW2.out x1
                have y2 := bel_cell HW2.out x2
                have y3 := bel_cell HW2.out x3
                have y4 := bel_cell HW2.out x4
                clear x0 x1 x2 x3 x4
                by_cases hlt : k < 5
                · have hd5 := psOk_iff.1 HVd.out
                  have hm5 := psOk_iff.1 HVm.out
                  have hr5 := psOk_iff.1 HPS.out
                  have hpd : k < e.disk.length := by omega
                  have hpm : k < e.mem.length := by omega
                  obtain ⟨adm, Am2, cm2, rfl, QM, -, hmC⟩ := at_page HR.out.m k hpm
                  obtain ⟨add, Ad2, cd2, rfl, QD, -, hdC⟩ := at_page HR.out.d k hpd
                  obtain ⟨M, hM⟩ : ∃ M, pg e.mem k = M := ⟨_, rfl⟩
                  obtain ⟨Dp, hD⟩ : ∃ Dp, pg e.disk k = Dp := ⟨_, rfl⟩
                  obtain ⟨q, hq⟩ : ∃ q, pg R k = q := ⟨_, rfl⟩
                  obtain ⟨m0, m1, m2⟩ := QM.up HWQ.out
                  obtain ⟨d0, d1, d2⟩ := QD.up HWQ.out
                  obtain ⟨A3, c3, q0, q1, q2, qC, -⟩ := psS_at (Kd.S_below HO.out HW2.out) k hlt
                  have hoks := And.intro (hm5.2 k hlt) (And.intro (hd5.2 k hlt) (hr5.2 k hlt))
                  have hqd : (pg e.disk k).lsn ≤ (pg R k).lsn := by
                    rw [← HRR.out, pg_redo hd5.1 (fun k hk => (logOk_facts HVl.out hk).ok) k _ (Nat.le_refl _)]
                    exact (redo1_lsn _).1
                  rw [hM] at m0 m1 m2 hmC hoks
                  rw [hD] at d0 d1 d2 hdC hoks hqd
                  rw [hq] at q0 q1 q2 qC hoks hqd
                  have HOKs := Aside0.mk hoks
                  have HQD := Aside0.mk hqd
                  have HMD := Aside0.mk (And.intro hM hD)
                  have HMC := Aside0.mk hmC
                  have HDC := Aside0.mk hdC
                  have HQC := Aside0.mk qC
                  have HQQ := Aside0.mk hq
                  have HPG := Aside0.mk (show pgsB e (5 - k) k = (pageB e k && pgsB e (5 - (k + 1)) (k + 1)) by rw [show 5 - k = (5 - (k + 1)) + 1 by omega, pgsB])
                  have HPB := Aside0.mk (show pageB e k = (decide (heldR e.log k 3 ≤ 1) && decide (Dp.lsn ≤ e.safe) && (if e.down = true then samePg M Dp else memB e k)) by rw [pageB, held_lock, hM, hD])
                  obtain ⟨dn, hdn⟩ : ∃ dn, e.down = dn := ⟨_, rfl⟩
                  rw [hdn] at y4
                  have HDN := Aside0.mk hdn
                  clear hM hD hq hmC hdC QM QD hdn qC hoks hqd hd5 hm5 hr5
                  rcases lts e.safe Dp.lsn with ⟨e3, k1, k2⟩ | ⟨e3, k1, k2⟩
                  · go_wp2
                    refine text_start (fun w' => Below wr.heap.size wr w') rfl rfl (by kernel_rfl) (below_drew (Below.refl _ _)) (fun HT => ?_)
                    repeat (first
                      | (refine text_end (fun wx hS => ?_))
                      | (refine text_skip HT rfl (by rfl) (fun _ _ _ h => h) ?_; simp only [List.set_cons_zero, List.set_cons_succ])
                      | (refine text_val (v := ?_) HT rfl (by rfl) (fun _ _ _ h => h) (fun wx hS => ?_) ?_; rotate_left; (replace y0 := bel_cell hS y0; replace y3 := bel_cell hS y3; replace d0 := bel_cell hS d0; go_simp; with_reducible rfl); rotate_left; simp only [List.set_cons_zero, List.set_cons_succ]))
                    go_wp2
                    go_ret
                    exact ⟨ret_bool (by rw [← HK2.out, HPG.out, HPB.out, k2]; simp), bel_then HWQ.out hS⟩
                  · have HPC := Aside0.mk (show pageB e k = (decide (heldR e.log k 3 ≤ 1) && (if e.down = true then samePg M Dp else memB e k)) by rw [HPB.out, k2]; simp)
                    cases dn
                    · as_aux_lemma =>
                        obtain ⟨ldb, hld⟩ : ∃ ldb, loadR e.log k 3 = ldb := ⟨_, rfl⟩
                        have HLD := Aside0.mk hld
                        have HPD := Aside0.mk (show pageB e k = (decide (heldR e.log k 3 ≤ 1) && memB e k) by rw [HPC.out, if_neg (by rw [HDN.out]; simp)])
                        clear hld
                        cases ldb
                        · as_aux_lemma =>
                            obtain ⟨s2, hs2⟩ : ∃ s2, samePg M q = s2 := ⟨_, rfl⟩
                            have HS2 := Aside0.mk hs2
                            have HPE := Aside0.mk (show memB e k = s2 by rw [memB, HLD.out, HRR.out, HMD.out.1, HQQ.out, hs2]; simp)
                            clear hs2
                            go_wp2
                            refine text_start (fun w' => Below wr.heap.size wr w') rfl rfl (by kernel_rfl) (below_drew (Below.refl _ _)) (fun HT => ?_)
                            repeat (first
                              | (refine text_end (fun wx hS => ?_))
                              | ((with_reducible refine text_gate (f := 74) rfl ?_); refine text_call (v := .bool false) (args := #[.slice Al e.log.length cl, .int .i64 k]) HT rfl Tryz.func74 (by kernel_rfl) rfl rfl (by rfl) (fun _ _ _ h => h) (by simp only [List.map_toArray, List.map_cons, List.map_nil]; rfl) (fun wx hS => (l11Loaded_calls (c := cl) HLD.out (bel_then HWQ.out hS) HR.out.l HVl.out).mono fun _ _ h => ⟨h.1, h.2 ▸ hS⟩) ?_; simp only [List.set_cons_zero, List.set_cons_succ])
                              | ((with_reducible refine text_gate (f := 73) rfl ?_); refine text_call (v := .bool s2) (args := #[M.val Am2 cm2, q.val A3 c3]) HT rfl Tryz.func73 (by kernel_rfl) rfl rfl (by rfl) (fun _ _ _ h => h) (by simp only [List.map_toArray, List.map_cons, List.map_nil]; rfl) (fun wx hS => (l11Same_calls (w0 := wr) (c := cm2) (d := c3) HS2.out HOKs.out.1 HOKs.out.2.2 hS (C_up HMC.out HWQ.out) HQC.out).mono fun _ _ h => ⟨h.1, bel_then hS h.2⟩) ?_; simp only [List.set_cons_zero, List.set_cons_succ])
                              | (refine text_skip HT rfl (by rfl) (fun _ _ _ h => h) ?_; simp only [List.set_cons_zero, List.set_cons_succ])
                              | (refine text_val (v := ?_) HT rfl (by rfl) (fun _ _ _ h => h) (fun wx hS => ?_) ?_; rotate_left; (replace y0 := bel_cell hS y0; replace y1 := bel_cell hS y1; replace y2 := bel_cell hS y2; replace y3 := bel_cell hS y3; replace y4 := bel_cell hS y4; replace m0 := bel_cell hS m0; replace m1 := bel_cell hS m1; replace m2 := bel_cell hS m2; replace d0 := bel_cell hS d0; replace q0 := bel_cell hS q0; replace q1 := bel_cell hS q1; replace q2 := bel_cell hS q2; go_simp; with_reducible rfl); rotate_left; simp only [List.set_cons_zero, List.set_cons_succ]))
                            cases s2
                            · go_wp2
                              go_ret
                              exact ⟨ret_bool (by rw [← HK2.out, HPG.out, HPD.out, HPE.out]; simp), bel_then HWQ.out hS⟩
                            · have hmq := samePg_iff.1 HS2.out
                              have HPX := Aside0.mk (show pageB e k = decide (heldR e.log k 3 ≤ 1) by rw [HPD.out, HPE.out]; simp)
                              rcases lts M.lsn Dp.lsn with ⟨e5, g1, g2⟩ | ⟨e5, g1, g2⟩
                              · exact absurd e5.out (by have := HQD.out; rw [hmq]; omega)
                              rcases beqs M.owner q.owner with ⟨e6, b1, c1⟩ | ⟨e6, b1, c1⟩
                              rotate_left
                              · exact absurd (by rw [hmq]) e6.out
                              clear hmq
                              have HX5 := Aside0.mk hS
                              replace y0 := bel_cell hS y0; replace y1 := bel_cell hS y1; replace y2 := bel_cell hS y2; replace y3 := bel_cell hS y3; replace y4 := bel_cell hS y4; replace m0 := bel_cell hS m0; replace m1 := bel_cell hS m1; replace m2 := bel_cell hS m2; replace d0 := bel_cell hS d0; replace d1 := bel_cell hS d1; replace d2 := bel_cell hS d2; replace q0 := bel_cell hS q0; replace q1 := bel_cell hS q1; replace q2 := bel_cell hS q2
                              clear hS
                              go_wp2
                              refine text_start (fun w' => Below wx.heap.size wx w') rfl rfl (by kernel_rfl) (below_drew (Below.refl _ _)) (fun HT => ?_)
                              repeat (first
                                | (refine text_end (fun wx hS => ?_))
                                | ((with_reducible refine text_gate (f := 74) rfl ?_); refine text_call (v := .bool false) (args := #[.slice Al e.log.length cl, .int .i64 k]) HT rfl Tryz.func74 (by kernel_rfl) rfl rfl (by rfl) (fun _ _ _ h => h) (by simp only [List.map_toArray, List.map_cons, List.map_nil]; rfl) (fun wx hS => (l11Loaded_calls (c := cl) HLD.out (bel_then HWQ.out (bel_then HX5.out hS)) HR.out.l HVl.out).mono fun _ _ h => ⟨h.1, h.2 ▸ hS⟩) ?_; simp only [List.set_cons_zero, List.set_cons_succ])
                                | (refine text_skip HT rfl (by rfl) (fun _ _ _ h => h) ?_; simp only [List.set_cons_zero, List.set_cons_succ])
                                | (refine text_val (v := ?_) HT rfl (by rfl) (fun _ _ _ h => h) (fun wx hS => ?_) ?_; rotate_left; (replace y0 := bel_cell hS y0; replace y1 := bel_cell hS y1; replace y2 := bel_cell hS y2; replace y4 := bel_cell hS y4; replace m0 := bel_cell hS m0; replace m1 := bel_cell hS m1; replace d0 := bel_cell hS d0; replace q1 := bel_cell hS q1; go_simp; with_reducible rfl); rotate_left; simp only [List.set_cons_zero, List.set_cons_succ]))
                              have HX6 := Aside0.mk (bel_then HX5.out hS)
                              replace y2 := bel_cell hS y2
                              clear hS
                              go_wp2
                              try rw [decide_eq_true (show (k : Int) < 5 by omega)]
                              try rw [Bool.not_true]
                              try rw [c1]
                              go_loop [7, 8] (fun h t => ∃ (j c : Nat), j ≤ 3 ∧ t = .int .i64 (4 - j : Int) ∧ h = .int .i64 (c : Int) ∧ c + j ≤ 3 ∧ Aside0 (c + heldR e.log k j = heldR e.log k 3)) (fun _ t => (4 - intOf t).toNat)
                              case atStart => exact ⟨3, 0, by omega, rfl, rfl, by omega, ⟨by simp⟩⟩
                              case round => as_aux_lemma =>
                                obtain ⟨j, c, hj, rfl, rfl, hc, HH⟩ := hrel
                                rcases j with _ | j
                                · rcases lts 1 (c : Int) with ⟨e7, g1, g2⟩ | ⟨e7, g1, g2⟩
                                  · go_wp2
                                    go_ret
                                    exact ⟨ret_bool (by rw [← HK2.out, HPG.out, HPX.out, decide_eq_false (by have := HH.out; have := e7.out; simp only [heldR] at *; omega)]; rfl), bel_then HWQ.out HX6.out⟩
                                  · go_wp2
                                    go_roundw
                                    case rel => exact ⟨k + 1, by omega, by go_num, ⟨by rw [← HK2.out, HPG.out, HPX.out, decide_eq_true (by have := HH.out; have := e7.out; simp only [heldR] at *; omega)]; rfl⟩, ⟨bel_then HW2.out HX6.out⟩⟩
                                    case measure => simp [intOf]; omega
                                · have hw : (4 - ((j + 1 : Nat) : Int)) = 3 - (j : Int) := by omega
                                  rw [hw]
                                  have h1 : (3 - (j : Int)) ≤ 3 := by omega
                                  have h2 : 1 ≤ (3 - (j : Int)) := by omega
                                  clear hw
                                  obtain ⟨hb, hhb⟩ : ∃ hb, hasN e.log (lastN e.log (3 - (j : Int)) e.log.length) k = hb := ⟨_, rfl⟩
                                  have HHB := Aside0.mk hhb
                                  clear hhb
                                  cases hb
                                  · go_wp2_with (go_at_call 76; refine (l3Has_calls (c := cl) HHB.out (bel_then HWQ.out HX6.out) HR.out.l HVl.out).mono ?_; rintro x w7 ⟨rfl, rfl⟩)
                                    go_round
                                    case rel => exact ⟨j, c, by omega, by go_num, rfl, by omega, ⟨by rw [← HH.out, heldR, HHB.out]; simp⟩⟩
                                    case measure => simp [intOf]; omega
                                  · go_wp2_with (go_at_call 76; refine (l3Has_calls (c := cl) HHB.out (bel_then HWQ.out HX6.out) HR.out.l HVl.out).mono ?_; rintro x w7 ⟨rfl, rfl⟩)
                                    go_round
                                    case rel => exact ⟨j, c + 1, by omega, by go_num, by go_num, by omega, ⟨by rw [← HH.out, heldR, HHB.out]; simp; omega⟩⟩
                                    case measure => simp [intOf]; omega
                        · as_aux_lemma =>
                            obtain ⟨fr, hfr⟩ : ∃ fr, freshB e k = fr := ⟨_, rfl⟩
                            have HFR := Aside0.mk hfr
                            have HPE := Aside0.mk (show memB e k = (M.owner == q.owner && fr) by rw [memB, if_pos HLD.out, HRR.out, HQQ.out, ← hfr, freshB, HMD.out.1, HMD.out.2, Bool.and_assoc])
                            have hcall : ∀ w' : World, Below wr.heap.size wr w' → Calls Tryz.prog 75 #[.agg #[.slice (some add) e.disk.length cd, .slice (some adm) e.mem.length cm, .slice Al e.log.length cl, .int .i64 e.safe, .bool false], .int .i64 k] w' fun x w2 => x = .returned (.bool fr) ∧ Below w'.heap.size w' w2 := fun w' hb => by
                              have h := l11Fresh_calls (w0 := wr) (cd := cd) (cm := cm) (cl := cl) HFR.out hlt HVd.out HVm.out hb (HR.out.up HWQ.out)
                              unfold Eng.val Eng.ag at h
                              rw [HDN.out] at h
                              exact h
                            clear hfr
                            go_wp2
                            refine text_start (fun w' => Below wr.heap.size wr w') rfl rfl (by kernel_rfl) (below_drew (Below.refl _ _)) (fun HT => ?_)
                            repeat (first
                              | (refine text_end (fun wx hS => ?_))
                              | ((with_reducible refine text_gate (f := 74) rfl ?_); refine text_call (v := .bool true) (args := #[.slice Al e.log.length cl, .int .i64 k]) HT rfl Tryz.func74 (by kernel_rfl) rfl rfl (by rfl) (fun _ _ _ h => h) (by simp only [List.map_toArray, List.map_cons, List.map_nil]; rfl) (fun wx hS => (l11Loaded_calls (c := cl) HLD.out (bel_then HWQ.out hS) HR.out.l HVl.out).mono fun _ _ h => ⟨h.1, h.2 ▸ hS⟩) ?_; simp only [List.set_cons_zero, List.set_cons_succ])
                              | (refine text_skip HT rfl (by rfl) (fun _ _ _ h => h) ?_; simp only [List.set_cons_zero, List.set_cons_succ])
                              | (refine text_val (v := ?_) HT rfl (by rfl) (fun _ _ _ h => h) (fun wx hS => ?_) ?_; rotate_left; (replace y0 := bel_cell hS y0; replace y2 := bel_cell hS y2; replace y3 := bel_cell hS y3; replace y4 := bel_cell hS y4; replace d0 := bel_cell hS d0; go_simp; with_reducible rfl); rotate_left; simp only [List.set_cons_zero, List.set_cons_succ]))
                            have HX5 := Aside0.mk hS
                            replace y0 := bel_cell hS y0; replace y1 := bel_cell hS y1; replace y2 := bel_cell hS y2; replace y3 := bel_cell hS y3; replace y4 := bel_cell hS y4; replace m0 := bel_cell hS m0; replace m1 := bel_cell hS m1; replace m2 := bel_cell hS m2; replace d0 := bel_cell hS d0; replace d1 := bel_cell hS d1; replace d2 := bel_cell hS d2; replace q0 := bel_cell hS q0; replace q1 := bel_cell hS q1; replace q2 := bel_cell hS q2
                            clear hS
                            go_wp2
                            cases fr
                            · skip
                              refine text_start (fun w' => Below wx.heap.size wx w') rfl rfl (by kernel_rfl) (below_drew (Below.refl _ _)) (fun HT => ?_)
                              repeat (first
                                | (refine text_end (fun wx hS => ?_))
                                | ((with_reducible refine text_gate (f := 74) rfl ?_); refine text_call (v := .bool true) (args := #[.slice Al e.log.length cl, .int .i64 k]) HT rfl Tryz.func74 (by kernel_rfl) rfl rfl (by rfl) (fun _ _ _ h => h) (by simp only [List.map_toArray, List.map_cons, List.map_nil]; rfl) (fun wx hS => (l11Loaded_calls (c := cl) HLD.out (bel_then HWQ.out (bel_then HX5.out hS)) HR.out.l HVl.out).mono fun _ _ h => ⟨h.1, h.2 ▸ hS⟩) ?_; simp only [List.set_cons_zero, List.set_cons_succ])
                                | ((with_reducible refine text_gate (f := 75) rfl ?_); refine text_call (v := .bool false) (args := #[.agg #[.slice (some add) e.disk.length cd, .slice (some adm) e.mem.length cm, .slice Al e.log.length cl, .int .i64 e.safe, .bool false], .int .i64 k]) HT rfl Tryz.func75 (by kernel_rfl) rfl rfl (by rfl) (fun _ _ _ h => h) (by simp only [List.map_toArray, List.map_cons, List.map_nil]; rfl) (fun wx hS => (hcall wx (bel_then HX5.out hS)).mono fun _ _ h => ⟨h.1, bel_then hS h.2⟩) ?_; simp only [List.set_cons_zero, List.set_cons_succ])
                                | (refine text_skip HT rfl (by rfl) (fun _ _ _ h => h) ?_; simp only [List.set_cons_zero, List.set_cons_succ])
                                | (refine text_val (v := ?_) HT rfl (by rfl) (fun _ _ _ h => h) (fun wx hS => ?_) ?_; rotate_left; (replace y0 := bel_cell hS y0; replace y1 := bel_cell hS y1; replace y2 := bel_cell hS y2; replace y3 := bel_cell hS y3; replace y4 := bel_cell hS y4; go_simp; with_reducible rfl); rotate_left; simp only [List.set_cons_zero, List.set_cons_succ]))
                              go_wp2
                              go_ret
                              exact ⟨ret_bool (by rw [← HK2.out, HPG.out, HPD.out, HPE.out]; simp), bel_then HWQ.out (bel_then HX5.out hS)⟩
                            · skip
                              refine text_start (fun w' => Below wx.heap.size wx w') rfl rfl (by kernel_rfl) (below_drew (Below.refl _ _)) (fun HT => ?_)
                              repeat (first
                                | (refine text_end (fun wx hS => ?_))
                                | ((with_reducible refine text_gate (f := 74) rfl ?_); refine text_call (v := .bool true) (args := #[.slice Al e.log.length cl, .int .i64 k]) HT rfl Tryz.func74 (by kernel_rfl) rfl rfl (by rfl) (fun _ _ _ h => h) (by simp only [List.map_toArray, List.map_cons, List.map_nil]; rfl) (fun wx hS => (l11Loaded_calls (c := cl) HLD.out (bel_then HWQ.out (bel_then HX5.out hS)) HR.out.l HVl.out).mono fun _ _ h => ⟨h.1, h.2 ▸ hS⟩) ?_; simp only [List.set_cons_zero, List.set_cons_succ])
                                | ((with_reducible refine text_gate (f := 75) rfl ?_); refine text_call (v := .bool true) (args := #[.agg #[.slice (some add) e.disk.length cd, .slice (some adm) e.mem.length cm, .slice Al e.log.length cl, .int .i64 e.safe, .bool false], .int .i64 k]) HT rfl Tryz.func75 (by kernel_rfl) rfl rfl (by rfl) (fun _ _ _ h => h) (by simp only [List.map_toArray, List.map_cons, List.map_nil]; rfl) (fun wx hS => (hcall wx (bel_then HX5.out hS)).mono fun _ _ h => ⟨h.1, bel_then hS h.2⟩) ?_; simp only [List.set_cons_zero, List.set_cons_succ])
                                | (refine text_skip HT rfl (by rfl) (fun _ _ _ h => h) ?_; simp only [List.set_cons_zero, List.set_cons_succ])
                                | (refine text_val (v := ?_) HT rfl (by rfl) (fun _ _ _ h => h) (fun wx hS => ?_) ?_; rotate_left; (replace y0 := bel_cell hS y0; replace y1 := bel_cell hS y1; replace y2 := bel_cell hS y2; replace y3 := bel_cell hS y3; replace y4 := bel_cell hS y4; replace m1 := bel_cell hS m1; replace q1 := bel_cell hS q1; go_simp; with_reducible rfl); rotate_left; simp only [List.set_cons_zero, List.set_cons_succ]))
                              rcases beqs M.owner q.owner with ⟨e6, b1, c1⟩ | ⟨e6, b1, c1⟩
                              · have HPX := Aside0.mk (show pageB e k = decide (heldR e.log k 3 ≤ 1) by rw [HPD.out, HPE.out, b1]; simp)
                                have HX6 := Aside0.mk (bel_then HX5.out hS)
                                replace y2 := bel_cell hS y2
                                clear hS
                                go_wp2
                                try rw [decide_eq_true (show (k : Int) < 5 by omega)]
                                try rw [Bool.not_true]
                                try rw [c1]
                                go_loop [7, 8] (fun h t => ∃ (j c : Nat), j ≤ 3 ∧ t = .int .i64 (4 - j : Int) ∧ h = .int .i64 (c : Int) ∧ c + j ≤ 3 ∧ Aside0 (c + heldR e.log k j = heldR e.log k 3)) (fun _ t => (4 - intOf t).toNat)
                                case atStart => exact ⟨3, 0, by omega, rfl, rfl, by omega, ⟨by simp⟩⟩
                                case round => as_aux_lemma =>
                                  obtain ⟨j, c, hj, rfl, rfl, hc, HH⟩ := hrel
                                  rcases j with _ | j
                                  · rcases lts 1 (c : Int) with ⟨e7, g1, g2⟩ | ⟨e7, g1, g2⟩
                                    · go_wp2
                                      go_ret
                                      exact ⟨ret_bool (by rw [← HK2.out, HPG.out, HPX.out, decide_eq_false (by have := HH.out; have := e7.out; simp only [heldR] at *; omega)]; rfl), bel_then HWQ.out HX6.out⟩
                                    · go_wp2
                                      go_roundw
                                      case rel => exact ⟨k + 1, by omega, by go_num, ⟨by rw [← HK2.out, HPG.out, HPX.out, decide_eq_true (by have := HH.out; have := e7.out; simp only [heldR] at *; omega)]; rfl⟩, ⟨bel_then HW2.out HX6.out⟩⟩
                                      case measure => simp [intOf]; omega
                                  · have hw : (4 - ((j + 1 : Nat) : Int)) = 3 - (j : Int) := by omega
                                    rw [hw]
                                    have h1 : (3 - (j : Int)) ≤ 3 := by omega
                                    have h2 : 1 ≤ (3 - (j : Int)) := by omega
                                    clear hw
                                    obtain ⟨hb, hhb⟩ : ∃ hb, hasN e.log (lastN e.log (3 - (j : Int)) e.log.length) k = hb := ⟨_, rfl⟩
                                    have HHB := Aside0.mk hhb
                                    clear hhb
                                    cases hb
                                    · go_wp2_with (go_at_call 76; refine (l3Has_calls (c := cl) HHB.out (bel_then HWQ.out HX6.out) HR.out.l HVl.out).mono ?_; rintro x w7 ⟨rfl, rfl⟩)
                                      go_round
                                      case rel => exact ⟨j, c, by omega, by go_num, rfl, by omega, ⟨by rw [← HH.out, heldR, HHB.out]; simp⟩⟩
                                      case measure => simp [intOf]; omega
                                    · go_wp2_with (go_at_call 76; refine (l3Has_calls (c := cl) HHB.out (bel_then HWQ.out HX6.out) HR.out.l HVl.out).mono ?_; rintro x w7 ⟨rfl, rfl⟩)
                                      go_round
                                      case rel => exact ⟨j, c + 1, by omega, by go_num, by go_num, by omega, ⟨by rw [← HH.out, heldR, HHB.out]; simp; omega⟩⟩
                                      case measure => simp [intOf]; omega
                              · skip
                                go_wp2
                                go_ret
                                exact ⟨ret_bool (by rw [← HK2.out, HPG.out, HPD.out, HPE.out, b1]; simp), bel_then HWQ.out (bel_then HX5.out hS)⟩
                    · as_aux_lemma =>
                        obtain ⟨s1, hs1⟩ : ∃ s1, samePg M Dp = s1 := ⟨_, rfl⟩
                        have HS1 := Aside0.mk hs1
                        have HPD := Aside0.mk (show pageB e k = (decide (heldR e.log k 3 ≤ 1) && s1) by rw [HPC.out, if_pos HDN.out, hs1])
                        clear hs1
                        cases s1
                        · go_wp2
                          refine text_start (fun w' => Below wr.heap.size wr w') rfl rfl (by kernel_rfl) (below_drew (Below.refl _ _)) (fun HT => ?_)
                          repeat (first
                            | (refine text_end (fun wx hS => ?_))
                            | ((with_reducible refine text_gate (f := 73) rfl ?_); refine text_call (v := .bool false) (args := #[M.val Am2 cm2, Dp.val Ad2 cd2]) HT rfl Tryz.func73 (by kernel_rfl) rfl rfl (by rfl) (fun _ _ _ h => h) (by simp only [List.map_toArray, List.map_cons, List.map_nil]; rfl) (fun wx hS => (l11Same_calls (c := cm2) (d := cd2) HS1.out HOKs.out.1 HOKs.out.2.1 (bel_then HWQ.out hS) HMC.out HDC.out).mono fun _ _ h => ⟨h.1, bel_then hS h.2⟩) ?_; simp only [List.set_cons_zero, List.set_cons_succ])
                            | (refine text_skip HT rfl (by rfl) (fun _ _ _ h => h) ?_; simp only [List.set_cons_zero, List.set_cons_succ])
                            | (refine text_val (v := ?_) HT rfl (by rfl) (fun _ _ _ h => h) (fun wx hS => ?_) ?_; rotate_left; (replace y0 := bel_cell hS y0; replace y1 := bel_cell hS y1; replace y3 := bel_cell hS y3; replace y4 := bel_cell hS y4; replace m0 := bel_cell hS m0; replace m1 := bel_cell hS m1; replace m2 := bel_cell hS m2; replace d0 := bel_cell hS d0; replace d1 := bel_cell hS d1; replace d2 := bel_cell hS d2; go_simp; with_reducible rfl); rotate_left; simp only [List.set_cons_zero, List.set_cons_succ]))
                          go_wp2
                          go_ret
                          exact ⟨ret_bool (by rw [← HK2.out, HPG.out, HPD.out]; simp), bel_then HWQ.out hS⟩
                        · have HPX := Aside0.mk (show pageB e k = decide (heldR e.log k 3 ≤ 1) by rw [HPD.out]; simp)
                          go_wp2
                          refine text_start (fun w' => Below wr.heap.size wr w') rfl rfl (by kernel_rfl) (below_drew (Below.refl _ _)) (fun HT => ?_)
                          repeat (first
                            | (refine text_end (fun wx hS => ?_))
                            | ((with_reducible refine text_gate (f := 73) rfl ?_); refine text_call (v := .bool true) (args := #[M.val Am2 cm2, Dp.val Ad2 cd2]) HT rfl Tryz.func73 (by kernel_rfl) rfl rfl (by rfl) (fun _ _ _ h => h) (by simp only [List.map_toArray, List.map_cons, List.map_nil]; rfl) (fun wx hS => (l11Same_calls (c := cm2) (d := cd2) HS1.out HOKs.out.1 HOKs.out.2.1 (bel_then HWQ.out hS) HMC.out HDC.out).mono fun _ _ h => ⟨h.1, bel_then hS h.2⟩) ?_; simp only [List.set_cons_zero, List.set_cons_succ])
                            | (refine text_skip HT rfl (by rfl) (fun _ _ _ h => h) ?_; simp only [List.set_cons_zero, List.set_cons_succ])
                            | (refine text_val (v := ?_) HT rfl (by rfl) (fun _ _ _ h => h) (fun wx hS => ?_) ?_; rotate_left; (replace y0 := bel_cell hS y0; replace y1 := bel_cell hS y1; replace y3 := bel_cell hS y3; replace y4 := bel_cell hS y4; replace m0 := bel_cell hS m0; replace m1 := bel_cell hS m1; replace m2 := bel_cell hS m2; replace d0 := bel_cell hS d0; replace d1 := bel_cell hS d1; replace d2 := bel_cell hS d2; go_simp; with_reducible rfl); rotate_left; simp only [List.set_cons_zero, List.set_cons_succ]))
                          have HX5 := Aside0.mk hS
                          replace y0 := bel_cell hS y0; replace y1 := bel_cell hS y1; replace y2 := bel_cell hS y2; replace y3 := bel_cell hS y3; replace y4 := bel_cell hS y4; replace m0 := bel_cell hS m0; replace m1 := bel_cell hS m1; replace m2 := bel_cell hS m2; replace d0 := bel_cell hS d0; replace d1 := bel_cell hS d1; replace d2 := bel_cell hS d2; replace q0 := bel_cell hS q0; replace q1 := bel_cell hS q1; replace q2 := bel_cell hS q2
                          clear hS
                          go_wp2
                          refine text_start (fun w' => Below wx.heap.size wx w') rfl rfl (by kernel_rfl) (below_drew (Below.refl _ _)) (fun HT => ?_)
                          repeat (first
                            | (refine text_end (fun wx hS => ?_))
                            | (refine text_skip HT rfl (by rfl) (fun _ _ _ h => h) ?_; simp only [List.set_cons_zero, List.set_cons_succ])
                            | (refine text_val (v := ?_) HT rfl (by rfl) (fun _ _ _ h => h) (fun wx hS => ?_) ?_; rotate_left; (replace y4 := bel_cell hS y4; go_simp; with_reducible rfl); rotate_left; simp only [List.set_cons_zero, List.set_cons_succ]))
                          have HX6 := Aside0.mk (bel_then HX5.out hS)
                          replace y2 := bel_cell hS y2
                          clear hS
                          go_wp2
                          try rw [decide_eq_true (show (k : Int) < 5 by omega)]
                          try rw [Bool.not_true]
                          try rw [c1]
                          go_loop [7, 8] (fun h t => ∃ (j c : Nat), j ≤ 3 ∧ t = .int .i64 (4 - j : Int) ∧ h = .int .i64 (c : Int) ∧ c + j ≤ 3 ∧ Aside0 (c + heldR e.log k j = heldR e.log k 3)) (fun _ t => (4 - intOf t).toNat)
                          case atStart => exact ⟨3, 0, by omega, rfl, rfl, by omega, ⟨by simp⟩⟩
                          case round => as_aux_lemma =>
                            obtain ⟨j, c, hj, rfl, rfl, hc, HH⟩ := hrel
                            rcases j with _ | j
                            · rcases lts 1 (c : Int) with ⟨e7, g1, g2⟩ | ⟨e7, g1, g2⟩
                              · go_wp2
                                go_ret
                                exact ⟨ret_bool (by rw [← HK2.out, HPG.out, HPX.out, decide_eq_false (by have := HH.out; have := e7.out; simp only [heldR] at *; omega)]; rfl), bel_then HWQ.out HX6.out⟩
                              · go_wp2
                                go_roundw
                                case rel => exact ⟨k + 1, by omega, by go_num, ⟨by rw [← HK2.out, HPG.out, HPX.out, decide_eq_true (by have := HH.out; have := e7.out; simp only [heldR] at *; omega)]; rfl⟩, ⟨bel_then HW2.out HX6.out⟩⟩
                                case measure => simp [intOf]; omega
                            · have hw : (4 - ((j + 1 : Nat) : Int)) = 3 - (j : Int) := by omega
                              rw [hw]
                              have h1 : (3 - (j : Int)) ≤ 3 := by omega
                              have h2 : 1 ≤ (3 - (j : Int)) := by omega
                              clear hw
                              obtain ⟨hb, hhb⟩ : ∃ hb, hasN e.log (lastN e.log (3 - (j : Int)) e.log.length) k = hb := ⟨_, rfl⟩
                              have HHB := Aside0.mk hhb
                              clear hhb
                              cases hb
                              · go_wp2_with (go_at_call 76; refine (l3Has_calls (c := cl) HHB.out (bel_then HWQ.out HX6.out) HR.out.l HVl.out).mono ?_; rintro x w7 ⟨rfl, rfl⟩)
                                go_round
                                case rel => exact ⟨j, c, by omega, by go_num, rfl, by omega, ⟨by rw [← HH.out, heldR, HHB.out]; simp⟩⟩
                                case measure => simp [intOf]; omega
                              · go_wp2_with (go_at_call 76; refine (l3Has_calls (c := cl) HHB.out (bel_then HWQ.out HX6.out) HR.out.l HVl.out).mono ?_; rintro x w7 ⟨rfl, rfl⟩)
                                go_round
                                case rel => exact ⟨j, c + 1, by omega, by go_num, by go_num, by omega, ⟨by rw [← HH.out, heldR, HHB.out]; simp; omega⟩⟩
                                case measure => simp [intOf]; omega
                · go_wp2
                  go_ret
                  exact ⟨ret_bool (by rw [← HK2.out, show 5 - k = 0 by omega]; rfl), HWQ.out⟩
end Go.Proofs.YtlmlcnokiipilaaGreat

/- The program's RiseNeed, RiseFall. -/
namespace Go.Proofs.YtlmlcnokiipilaaGreat
open Go.RowKit Go.Proofs.YtlmlcnokiipilaaGreatW.PrintWords Go.Proofs.YtlmlcnokiipilaaGreatW.PrintLast Go.Proofs.YtlmlcnokiipilaaGreatW.PrintMore

set_option maxRecDepth 100000 in
set_option maxHeartbeats 4000000 in
theorem RiseNeed_calls {w0 w : World} {e : Eng} {Ad Am Al : Option Addr} {cd cm cl : Nat} (hcl : e.log.length ≤ cl) (hb : Below w0.heap.size w0 w) (hr : EngC w0 e Ad Am Al) : Calls Tryz.prog 12 #[e.val Ad Am Al cd cm cl] w fun x w' => x = .returned (.int .i64 (if eOk e = true then (need e.log : Int) else -1)) ∧ Below w.heap.size w w' := by
  have HR := Aside0.mk (hr.up hb)
  clear hr hb
  obtain ⟨w1, hw1⟩ : ∃ w1, w.alloc (e.obox (.slice Ad e.disk.length cd) (.slice Am e.mem.length cm) (.slice Al e.log.length cl)) = w1 := ⟨_, rfl⟩
  have HW1 := Aside0.mk hw1
  have HB1 : Aside0 (Below w.heap.size w w1) := ⟨by rw [← hw1]; exact bel_alloc (Below.refl _ _) _⟩
  have HQ1 : Aside0 (EgBox w1 w.heap.size e (.slice Ad e.disk.length cd) (.slice Am e.mem.length cm) (.slice Al e.log.length cl)) := ⟨by rw [← hw1]; exact EgBox.mk1 _ _ _ _ _⟩
  clear hw1
  have x2 := HQ1.out.c2
  cases hv : eOk e
  all_goals
    have HV := Aside0.mk hv
    clear hv
    go_enter Tryz.func12, Tryz.ntmps12
    go_wp2_with (first | (go_at_call 25; rw [HW1.out]; refine (EngineOk_calls (cd := cd) (cm := cm) HV.out hcl HB1.out HR.out).mono ?_; rintro x w2 ⟨rfl, hb2⟩; have HB2 := Aside0.mk (bel_then HB1.out hb2); replace x2 := bel_cell hb2 x2; clear hb2) | (go_at_call 35; refine (cost_calls (c := cl) HB2.out HR.out.l (okF_iff.1 HV.out).log).mono ?_; rintro x w3 ⟨rfl, hb3⟩; have HB3 := Aside0.mk (bel_then HB2.out hb3); clear hb3))
    go_ret
  · exact ⟨rfl, HB2.out⟩
  · exact ⟨rfl, HB3.out⟩
/-- A call that hands back an engine of its own, and a yes or no. -/
def RetEB (w : World) (e : Eng) (b : Bool) (x : Ending) (w' : World) : Prop := ∃ vd vm vl, x = .returned (.tuple #[e.ag vd vm vl, .bool b]) ∧ OwnE w' w.heap.size vd vm vl e ∧ Below w.heap.size w w'
theorem own_zE (w : World) (b : Nat) : OwnE w b (.slice none 0 0) (.slice none 0 0) (.slice none 0 0) zE := ⟨⟨fun _ => True, fun _ => False, fun _ _ h => h, Kd.S_nil _ _ _ _ _, Kd.S_nil _ _ _ _ _⟩, Kd.R_nil _ _ _ _ _⟩
/-- An engine's variable laid empty. -/
abbrev set5z (w : World) (g : Nat) : World := ((((w.setCell ⟨g, 0, none⟩ (.slice none 0 0)).setCell ⟨g, 1, none⟩ (.slice none 0 0)).setCell ⟨g, 2, none⟩ (.slice none 0 0)).setCell ⟨g, 3, none⟩ (.int .i64 0)).setCell ⟨g, 4, none⟩ (.bool false)
structure EmptyAt (w : World) (g : Nat) : Prop where
  c0 : w.cell? ⟨g, 0, none⟩ = some (.slice none 0 0)
  c1 : w.cell? ⟨g, 1, none⟩ = some (.slice none 0 0)
  c2 : w.cell? ⟨g, 2, none⟩ = some (.slice none 0 0)
  c3 : w.cell? ⟨g, 3, none⟩ = some (.int .i64 0)
  c4 : w.cell? ⟨g, 4, none⟩ = some (.bool false)
theorem EgBox.empty {w : World} {g : Nat} {q : Eng} {ud um ul : Value} (h : EgBox w g q ud um ul) : EmptyAt (set5z w g) g :=
  have hy := h.set5 zE (.slice none 0 0) (.slice none 0 0) (.slice none 0 0)
  ⟨hy.c0, hy.c1, hy.c2, hy.c3, hy.c4⟩
abbrev zEv : Value := .agg #[.slice none 0 0, .slice none 0 0, .slice none 0 0, .int .i64 0, .bool false]
def fallR (e : Eng) (left : Int) : Eng × Bool := if eOk e = true ∧ 0 ≤ left then (fallE e left, true) else (zE, false)
set_option maxRecDepth 100000 in
set_option maxHeartbeats 8000000 in
theorem RiseFall_calls {w0 w : World} {e : Eng} {Ad Am Al : Option Addr} {cd cm cl : Nat} (left : Int) (hcl : e.log.length ≤ cl) (hb : Below w0.heap.size w0 w) (hr : EngC w0 e Ad Am Al) : Calls Tryz.prog 15 #[e.val Ad Am Al cd cm cl, .int .i64 left] w (RetEB w (fallR e left).1 (fallR e left).2) := by
  have HR := Aside0.mk (hr.up hb)
  clear hr hb
  obtain ⟨w1, hw1⟩ : ∃ w1, w.alloc (e.obox (.slice Ad e.disk.length cd) (.slice Am e.mem.length cm) (.slice Al e.log.length cl)) = w1 := ⟨_, rfl⟩
  obtain ⟨w2, hw2⟩ : ∃ w2, w1.alloc (zE.obox (.slice none 0 0) (.slice none 0 0) (.slice none 0 0)) = w2 := ⟨_, rfl⟩
  have hz1 : w1.heap.size = w.heap.size + 1 := by rw [← hw1]; exact size1 _ _
  have hz2 : w2.heap.size = w.heap.size + 2 := by rw [← hw2, size1, hz1]
  have hb12 : Below w1.heap.size w1 w2 := by rw [← hw2]; exact bel_alloc (Below.refl _ _) _
  have HB2 : Aside0 (Below w.heap.size w w2) := ⟨by rw [← hw2, ← hw1]; exact bel_alloc (bel_alloc (Below.refl _ _) _) _⟩
  have HQ2 : Aside0 (EgBox w2 w.heap.size e (.slice Ad e.disk.length cd) (.slice Am e.mem.length cm) (.slice Al e.log.length cl)) := ⟨EgBox.up (by rw [← hw1]; exact EgBox.mk1 _ _ _ _ _) hb12⟩
  have HP2 : Aside0 (EgBox w2 (w.heap.size + 1) zE (.slice none 0 0) (.slice none 0 0) (.slice none 0 0)) := ⟨by rw [← hw2, ← hz1]; exact EgBox.mk1 _ _ _ _ _⟩
  have HW2 : Aside0 ((w.alloc (e.obox (.slice Ad e.disk.length cd) (.slice Am e.mem.length cm) (.slice Al e.log.length cl))).alloc (zE.obox (.slice none 0 0) (.slice none 0 0) (.slice none 0 0)) = w2) := ⟨by rw [hw1, hw2]⟩
  have HZ2 := Aside0.mk hz2
  clear hw1 hw2 hz1 hz2 hb12
  have x2 := HQ2.out.c2
  have x3 := HQ2.out.c3
  cases hv : eOk e
  · have HV := Aside0.mk hv
    have hE : fallR e left = (zE, false) := by rw [fallR, if_neg (by rw [hv]; simp)]
    rw [hE]
    clear hv hE
    go_enter Tryz.func15, Tryz.ntmps15
    go_wp2_with (go_at_call 25; rw [show (w.alloc (Obj.cells #[Value.slice Ad e.disk.length cd, Value.slice Am e.mem.length cm, Value.slice Al e.log.length cl, Value.int IntKind.i64 e.safe, Value.bool e.down] 31)).alloc (Obj.cells #[Value.slice none 0 0, Value.slice none 0 0, Value.slice none 0 0, Value.int IntKind.i64 0, Value.bool false] 31) = w2 from HW2.out]; refine (EngineOk_calls (cd := cd) (cm := cm) HV.out hcl HB2.out HR.out).mono ?_; rintro x w3 ⟨rfl, hb3⟩; have HB3 := Aside0.mk (bel_then HB2.out hb3); have HP3 := Aside0.mk (HP2.out.up hb3); have y0 := HP3.out.c0; have y1 := HP3.out.c1; have y2 := HP3.out.c2; have y3 := HP3.out.c3; have y4 := HP3.out.c4; have f0 := HP3.out.frz 0; have f1 := HP3.out.frz 1; have f2 := HP3.out.frz 2; have f3 := HP3.out.frz 3; have f4 := HP3.out.frz 4; clear hb3)
    obtain ⟨z0, z1, z2, z3, z4⟩ := HP3.out.empty
    exact bodyPost_ret (v := .tuple #[zEv, .bool false]) (by simp [results, Tryz.results15, go_sem, z0, z1, z2, z3, z4]) rfl ⟨_, _, _, rfl, own_zE _ _, bel_set5 (g := w.heap.size + 1) HB3.out (by omega) zE _ _ _⟩
  · have HV := Aside0.mk hv
    have HF := Aside0.mk (okF_iff.1 hv)
    clear hv
    rcases lts left 0 with ⟨e1, b1, c1⟩ | ⟨e1, b1, c1⟩
    · have hE : fallR e left = (zE, false) := by rw [fallR, if_neg (by have := e1.out; omega)]
      rw [hE]
      clear hE
      have hl0 := e1.out
      go_enter Tryz.func15, Tryz.ntmps15
      go_wp2_with (go_at_call 25; rw [show (w.alloc (Obj.cells #[Value.slice Ad e.disk.length cd, Value.slice Am e.mem.length cm, Value.slice Al e.log.length cl, Value.int IntKind.i64 e.safe, Value.bool e.down] 31)).alloc (Obj.cells #[Value.slice none 0 0, Value.slice none 0 0, Value.slice none 0 0, Value.int IntKind.i64 0, Value.bool false] 31) = w2 from HW2.out]; refine (EngineOk_calls (cd := cd) (cm := cm) HV.out hcl HB2.out HR.out).mono ?_; rintro x w3 ⟨rfl, hb3⟩; have HB3 := Aside0.mk (bel_then HB2.out hb3); have HP3 := Aside0.mk (HP2.out.up hb3); have y0 := HP3.out.c0; have y1 := HP3.out.c1; have y2 := HP3.out.c2; have y3 := HP3.out.c3; have y4 := HP3.out.c4; have f0 := HP3.out.frz 0; have f1 := HP3.out.frz 1; have f2 := HP3.out.frz 2; have f3 := HP3.out.frz 3; have f4 := HP3.out.frz 4; clear hb3)
      obtain ⟨z0, z1, z2, z3, z4⟩ := HP3.out.empty
      exact bodyPost_ret (v := .tuple #[zEv, .bool false]) (by simp [results, Tryz.results15, go_sem, z0, z1, z2, z3, z4]) rfl ⟨_, _, _, rfl, own_zE _ _, bel_set5 (g := w.heap.size + 1) HB3.out (by omega) zE _ _ _⟩
    · have hE : fallR e left = (fallE e left, true) := by rw [fallR, if_pos ⟨HV.out, e1.out⟩]
      rw [hE]
      clear hE
      have hl0 := e1.out
      go_enter Tryz.func15, Tryz.ntmps15
      go_wp2_with (go_at_call 25; rw [show (w.alloc (Obj.cells #[Value.slice Ad e.disk.length cd, Value.slice Am e.mem.length cm, Value.slice Al e.log.length cl, Value.int IntKind.i64 e.safe, Value.bool e.down] 31)).alloc (Obj.cells #[Value.slice none 0 0, Value.slice none 0 0, Value.slice none 0 0, Value.int IntKind.i64 0, Value.bool false] 31) = w2 from HW2.out]; refine (EngineOk_calls (cd := cd) (cm := cm) HV.out hcl HB2.out HR.out).mono ?_; rintro x w3 ⟨rfl, hb3⟩; have HB3 := Aside0.mk (bel_then HB2.out hb3); have HP3 := Aside0.mk (HP2.out.up hb3); have y0 := HP3.out.c0; have y1 := HP3.out.c1; have y2 := HP3.out.c2; have y3 := HP3.out.c3; have y4 := HP3.out.c4; have f0 := HP3.out.frz 0; have f1 := HP3.out.frz 1; have f2 := HP3.out.frz 2; have f3 := HP3.out.frz 3; have f4 := HP3.out.frz 4; replace x2 := bel_cell hb3 x2; replace x3 := bel_cell hb3 x3; have HX3 := Aside0.mk hb3; clear hb3)
      obtain ⟨n, hn⟩ : ∃ n : Nat, leftN e left = n := ⟨_, rfl⟩
      have hle := leftN_le (left := left) HF.out.s0 HF.out.s1
      rw [hn] at hle
      have hmax : max (min left (e.log.length : Int)) e.safe = (n : Int) := by rw [← hn]; unfold leftN; have := HF.out.s0; have := HF.out.s1; omega
      rw [hmax]
      have hncl : n ≤ cl := by omega
      have hl : (e.log.take n).length = n := by rw [List.length_take]; omega
      have HLn := Aside0.mk hl
      have HE := Aside0.mk (show fallE e left = ⟨e.disk, e.disk, e.log.take n, e.safe, true⟩ by rw [fallE, hn])
      have hgd := psOk_geo HF.out.disk
      have HGD := Aside0.mk hgd
      have hm150 := logOk_len HF.out.log
      have hclone : ∀ wx, Below w.heap.size w wx → Calls Tryz.prog 41 #[.slice Al n cl] wx (RetRs wx (e.log.take n)) := fun wx hb => by
        have h := cloneR_calls (c := cl) (by rw [hl]; omega) hb (take_C HR.out.l (by omega))
        rw [hl] at h
        exact h
      have x0 := HQ2.out.c0
      clear hgd hle hmax hl hn y0 y1 y2 y3 y4 f0 f1 f2 f3 f4
      refine reg_start (fun lx a wx => (Below w.heap.size w wx ∧ w.heap.size + 2 ≤ wx.heap.size ∧ EgBox wx w.heap.size e (.slice Ad e.disk.length cd) (.slice Am e.mem.length cm) (.slice Al e.log.length cl) ∧ EgBox wx (w.heap.size + 1) zE (.slice none 0 0) (.slice none 0 0) (.slice none 0 0)) ∧ (Sl 2 25 (fun v wx => OwnPs wx (w.heap.size + 2) v e.disk) lx a wx ∧ (Sl2 2 25 5 28 (fun v u wx => TwoPs wx (w.heap.size + 2) v u e.disk e.disk) lx a wx ∧ Sl 10 33 (fun v wx => OwnRs wx (w.heap.size + 2) v (e.log.take n)) lx a wx))) 14 rfl (by kernel_rfl) (⟨⟨below_drew HB3.out, by have := HZ2.out; have := HX3.out.size; show _ ≤ w3.heap.size; omega, HQ2.out.up (below_drew HX3.out), HP2.out.up (below_drew HX3.out)⟩, sl_start, sl2_start, sl_start⟩) (fun HT => ?_)
      refine reg_val (i := 0) (v := ?_) HT rfl (by kernel_rfl) rfl (keeps_and keeps_world (keeps_and (keeps_sl rfl rfl) (keeps_and (keeps_sl2 rfl rfl rfl rfl) (keeps_sl rfl rfl)))) (by rfl) (fun _ _ _ h => h) (fun lx ax wx hS => ?_) ?_; rotate_left; (obtain ⟨⟨-, -, hq, -⟩, -⟩ := hS; have x0 := hq.c0; have x1 := hq.c1; have x2 := hq.c2; have x3 := hq.c3; clear hq; go_simp; with_reducible rfl); rotate_left; simp only [List.set_cons_zero, List.set_cons_succ]
      refine reg_val (i := 1) (v := ?_) HT rfl (by kernel_rfl) rfl (keeps_and keeps_world (keeps_and (keeps_sl rfl rfl) (keeps_and (keeps_sl2 rfl rfl rfl rfl) (keeps_sl rfl rfl)))) (by rfl) (fun _ _ _ h => h) (fun lx ax wx hS => ?_) ?_; rotate_left; (obtain ⟨⟨-, -, hq, -⟩, -⟩ := hS; have x0 := hq.c0; have x1 := hq.c1; have x2 := hq.c2; have x3 := hq.c3; clear hq; go_simp; with_reducible rfl); rotate_left; simp only [List.set_cons_zero, List.set_cons_succ]
      refine reg_val (i := 3) (v := ?_) HT rfl (by kernel_rfl) rfl (keeps_and keeps_world (keeps_and (keeps_sl rfl rfl) (keeps_and (keeps_sl2 rfl rfl rfl rfl) (keeps_sl rfl rfl)))) (by rfl) (fun _ _ _ h => h) (fun lx ax wx hS => ?_) ?_; rotate_left; (obtain ⟨⟨-, -, hq, -⟩, -⟩ := hS; have x0 := hq.c0; have x1 := hq.c1; have x2 := hq.c2; have x3 := hq.c3; clear hq; go_simp; with_reducible rfl); rotate_left; simp only [List.set_cons_zero, List.set_cons_succ]
      refine reg_val (i := 4) (v := ?_) HT rfl (by kernel_rfl) rfl (keeps_and keeps_world (keeps_and (keeps_sl rfl rfl) (keeps_and (keeps_sl2 rfl rfl rfl rfl) (keeps_sl rfl rfl)))) (by rfl) (fun _ _ _ h => h) (fun lx ax wx hS => ?_) ?_; rotate_left; (obtain ⟨⟨-, -, hq, -⟩, -⟩ := hS; have x0 := hq.c0; have x1 := hq.c1; have x2 := hq.c2; have x3 := hq.c3; clear hq; go_simp; with_reducible rfl); rotate_left; simp only [List.set_cons_zero, List.set_cons_succ]
      refine reg_val (i := 6) (v := ?_) HT rfl (by kernel_rfl) rfl (keeps_and keeps_world (keeps_and (keeps_sl rfl rfl) (keeps_and (keeps_sl2 rfl rfl rfl rfl) (keeps_sl rfl rfl)))) (by rfl) (fun _ _ _ h => h) (fun lx ax wx hS => ?_) ?_; rotate_left; (obtain ⟨⟨-, -, hq, -⟩, -⟩ := hS; have x0 := hq.c0; have x1 := hq.c1; have x2 := hq.c2; have x3 := hq.c3; clear hq; go_simp; with_reducible rfl); rotate_left; simp only [List.set_cons_zero, List.set_cons_succ]
      refine reg_val (i := 7) (v := ?_) HT rfl (by kernel_rfl) rfl (keeps_and keeps_world (keeps_and (keeps_sl rfl rfl) (keeps_and (keeps_sl2 rfl rfl rfl rfl) (keeps_sl rfl rfl)))) (by rfl) (fun _ _ _ h => h) (fun lx ax wx hS => ?_) ?_; rotate_left; (obtain ⟨⟨-, -, hq, -⟩, -⟩ := hS; have x0 := hq.c0; have x1 := hq.c1; have x2 := hq.c2; have x3 := hq.c3; clear hq; go_simp; with_reducible rfl); rotate_left; simp only [List.set_cons_zero, List.set_cons_succ]
      refine reg_val (i := 8) (v := ?_) HT rfl (by kernel_rfl) rfl (keeps_and keeps_world (keeps_and (keeps_sl rfl rfl) (keeps_and (keeps_sl2 rfl rfl rfl rfl) (keeps_sl rfl rfl)))) (by rfl) (fun _ _ _ h => h) (fun lx ax wx hS => ?_) ?_; rotate_left; (obtain ⟨⟨-, -, hq, -⟩, -⟩ := hS; have x0 := hq.c0; have x1 := hq.c1; have x2 := hq.c2; have x3 := hq.c3; clear hq; go_simp; with_reducible rfl); rotate_left; simp only [List.set_cons_zero, List.set_cons_succ]
      refine reg_val (i := 9) (v := ?_) HT rfl (by kernel_rfl) rfl (keeps_and keeps_world (keeps_and (keeps_sl rfl rfl) (keeps_and (keeps_sl2 rfl rfl rfl rfl) (keeps_sl rfl rfl)))) (by rfl) (fun _ _ _ h => h) (fun lx ax wx hS => ?_) ?_; rotate_left; (obtain ⟨⟨-, -, hq, -⟩, -⟩ := hS; have x0 := hq.c0; have x1 := hq.c1; have x2 := hq.c2; have x3 := hq.c3; clear hq; go_simp; with_reducible rfl); rotate_left; simp only [List.set_cons_zero, List.set_cons_succ]
      refine reg_val (i := 11) (v := ?_) HT rfl (by kernel_rfl) rfl (keeps_and keeps_world (keeps_and (keeps_sl rfl rfl) (keeps_and (keeps_sl2 rfl rfl rfl rfl) (keeps_sl rfl rfl)))) (by rfl) (fun _ _ _ h => h) (fun lx ax wx hS => ?_) ?_; rotate_left; (obtain ⟨⟨-, -, hq, -⟩, -⟩ := hS; have x0 := hq.c0; have x1 := hq.c1; have x2 := hq.c2; have x3 := hq.c3; clear hq; go_simp; with_reducible rfl); rotate_left; simp only [List.set_cons_zero, List.set_cons_succ]
      refine reg_val (i := 12) (v := ?_) HT rfl (by kernel_rfl) rfl (keeps_and keeps_world (keeps_and (keeps_sl rfl rfl) (keeps_and (keeps_sl2 rfl rfl rfl rfl) (keeps_sl rfl rfl)))) (by rfl) (fun _ _ _ h => h) (fun lx ax wx hS => ?_) ?_; rotate_left; (obtain ⟨⟨-, -, hq, -⟩, -⟩ := hS; have x0 := hq.c0; have x1 := hq.c1; have x2 := hq.c2; have x3 := hq.c3; clear hq; go_simp; with_reducible rfl); rotate_left; simp only [List.set_cons_zero, List.set_cons_succ]
      refine reg_only (i := 2) (f := 40) (args := #[.slice Ad e.disk.length cd]) (fun v => ∃ A1 c1, v = .slice A1 e.disk.length c1) rfl (by kernel_rfl) rfl Tryz.func40 (by kernel_rfl) rfl rfl (by rfl) (by simp only [List.map_toArray, List.map_cons, List.map_nil]; rfl) (fun wx hS => (copies_calls (geo_few HGD.out) (by have := HGD.out.1; omega) hS.1.1 HR.out.d).mono (by rintro x w6 ⟨v, rfl, ho, hb⟩; obtain ⟨A1, c1, rfl, -, -⟩ := Kd.S_reads ho; exact ⟨_, rfl, ⟨A1, c1, rfl⟩, ⟨bel_then hS.1.1 hb, Nat.le_trans hS.1.2.1 hb.size, hS.1.2.2.1.up hb, hS.1.2.2.2.up hb⟩, fun _ => Kd.S_lower ho hS.1.2.1, fun _ h => (no_yes h (by kernel_rfl)).elim, fun h => (no_yes h (by kernel_rfl)).elim⟩)) (fun vx hg => ?_); simp only [List.set_cons_zero, List.set_cons_succ]
      obtain ⟨Bd, dd, rfl⟩ := hg
      refine reg_only (i := 5) (f := 40) (args := #[.slice Ad e.disk.length cd]) (fun v => ∃ A1 c1, v = .slice A1 e.disk.length c1) rfl (by kernel_rfl) rfl Tryz.func40 (by kernel_rfl) rfl rfl (by rfl) (by simp only [List.map_toArray, List.map_cons, List.map_nil]; rfl) (fun wx hS => (copies_calls (geo_few HGD.out) (by have := HGD.out.1; omega) hS.1.1 HR.out.d).mono (by rintro x w6 ⟨v, rfl, ho, hb⟩; obtain ⟨A1, c1, rfl, -, -⟩ := Kd.S_reads ho; exact ⟨_, rfl, ⟨A1, c1, rfl⟩, ⟨bel_then hS.1.1 hb, Nat.le_trans hS.1.2.1 hb.size, hS.1.2.2.1.up hb, hS.1.2.2.2.up hb⟩, fun _ => Kd.S_below (hS.2.1 (by kernel_rfl)) hb, fun _ _ => TwoPs.mk (hS.2.1 (by kernel_rfl)) ho hb hS.1.2.1, fun h => (no_yes h (by kernel_rfl)).elim⟩)) (fun vx hg => ?_); simp only [List.set_cons_zero, List.set_cons_succ]
      obtain ⟨Bm, dm, rfl⟩ := hg
      refine reg_only (i := 10) (f := 41) (args := #[.slice Al n cl]) (fun v => ∃ A1 c1, v = .slice A1 n c1) rfl (by kernel_rfl) rfl Tryz.func41 (by kernel_rfl) rfl rfl (by rfl) (by simp only [List.map_toArray, List.map_cons, List.map_nil]; rfl) (fun wx hS => (hclone wx hS.1.1).mono (by rintro x w6 ⟨v, rfl, ho, hb⟩; obtain ⟨A1, c1, rfl, -, -⟩ := Kd.R_reads ho; rw [HLn.out] at ho ⊢; exact ⟨_, rfl, ⟨A1, c1, rfl⟩, ⟨bel_then hS.1.1 hb, Nat.le_trans hS.1.2.1 hb.size, hS.1.2.2.1.up hb, hS.1.2.2.2.up hb⟩, fun _ => Kd.S_below (hS.2.1 (by kernel_rfl)) hb, fun _ _ => (hS.2.2.1 (by kernel_rfl) (by kernel_rfl)).below hb, fun _ => Kd.R_lower ho hS.1.2.1⟩)) (fun vx hg => ?_); simp only [List.set_cons_zero, List.set_cons_succ]
      obtain ⟨Bl, dl, rfl⟩ := hg
      refine reg_val (i := 13) (v := ?_) HT rfl (by kernel_rfl) rfl (keeps_and keeps_world (keeps_and (keeps_sl rfl rfl) (keeps_and (keeps_sl2 rfl rfl rfl rfl) (keeps_sl rfl rfl)))) (by rfl) (fun _ _ _ h => h) (fun lx ax wx hS => ?_) ?_; rotate_left; (go_simp; with_reducible rfl); rotate_left; simp only [List.set_cons_zero, List.set_cons_succ]
      refine reg_tail (i := 14) (by kernel_rfl) rfl (fun wx hS => ?_)
      obtain ⟨⟨h1, h2, -, hy⟩, -, hs2, hs3⟩ := hS
      obtain ⟨E, hEE⟩ : ∃ E : Eng, (⟨e.disk, e.disk, e.log.take n, e.safe, true⟩ : Eng) = E := ⟨_, rfl⟩
      have ho : OwnE wx (w.heap.size + 2) (.slice Bd e.disk.length dd) (.slice Bm e.disk.length dm) (.slice Bl n dl) E := by
        rw [← hEE]
        exact ⟨hs2 (by kernel_rfl) (by kernel_rfl), hs3 (by kernel_rfl)⟩
      have HEE := Aside0.mk hEE
      clear hs2 hs3 hEE
      have y0 := hy.c0
      have y1 := hy.c1
      have y2 := hy.c2
      have y3 := hy.c3
      have y4 := hy.c4
      have f0 := hy.frz 0
      have f1 := hy.frz 1
      have f2 := hy.frz 2
      have f3 := hy.frz 3
      have f4 := hy.frz 4
      refine wpOp_skip (w1 := Go.Proofs.YtlmlcnokiipilaaGreat.set5 wx (w.heap.size + 1) ⟨e.disk, e.disk, e.log.take n, e.safe, true⟩ (.slice Bd e.disk.length dd) (.slice Bm e.disk.length dm) (.slice Bl n dl)) rfl (by rfl) (by go_simp) ?_
      have hy2 := hy.set5 ⟨e.disk, e.disk, e.log.take n, e.safe, true⟩ (.slice Bd e.disk.length dd) (.slice Bm e.disk.length dm) (.slice Bl n dl)
      have ho2 := ho.set5 (f := ⟨e.disk, e.disk, e.log.take n, e.safe, true⟩) (xd := .slice Bd e.disk.length dd) (xm := .slice Bm e.disk.length dm) (xl := .slice Bl n dl) hy
      have h3 := bel_set5 (g := w.heap.size + 1) h1 (by omega) ⟨e.disk, e.disk, e.log.take n, e.safe, true⟩ (.slice Bd e.disk.length dd) (.slice Bm e.disk.length dm) (.slice Bl n dl)
      obtain ⟨W8, hW8⟩ : ∃ W8, Go.Proofs.YtlmlcnokiipilaaGreat.set5 wx (w.heap.size + 1) ⟨e.disk, e.disk, e.log.take n, e.safe, true⟩ (.slice Bd e.disk.length dd) (.slice Bm e.disk.length dm) (.slice Bl n dl) = W8 := ⟨_, rfl⟩
      rw [hW8] at hy2 ho2 h3 ⊢
      clear hW8
      have z0 := hy2.c0
      have z1 := hy2.c1
      have z2 := hy2.c2
      have z3 := hy2.c3
      have z4 := hy2.c4
      simp only at z0 z1 z2 z3 z4
      refine regAt_only (i := 15) (by kernel_rfl) ?_
      refine wpOp_valL (w1 := W8) (.bool true) rfl rfl (by rfl) (by go_simp) ?_
      refine regAt_end (by kernel_rfl) ?_
      go_wp2
      exact bodyPost_ret (v := .tuple #[.agg #[.slice Bd e.disk.length dd, .slice Bm e.disk.length dm, .slice Bl n dl, .int .i64 e.safe, .bool true], .bool true]) (by simp [results, Tryz.results15, go_sem, z0, z1, z2, z3, z4]) rfl ⟨_, _, _, by rw [HE.out], by rw [HE.out, HEE.out]; exact ho2.lower (by omega), h3⟩
end Go.Proofs.YtlmlcnokiipilaaGreat

/- The reference's RiseNeed. -/
namespace Go.Proofs.YtlmlcnokiipilaaGreat
open Go.RowKit Go.Proofs.YtlmlcnokiipilaaGreatW.PrintWords Go.Proofs.YtlmlcnokiipilaaGreatW.PrintLast Go.Proofs.YtlmlcnokiipilaaGreatW.PrintMore

set_option maxRecDepth 100000 in
set_option maxHeartbeats 4000000 in
theorem specRiseNeed_calls {w0 w : World} {e : Eng} {Ad Am Al : Option Addr} {cd cm cl : Nat} (hcl : e.log.length ≤ cl) (hb : Below w0.heap.size w0 w) (hr : EngC w0 e Ad Am Al) : Calls Tryz.prog 10 #[e.val Ad Am Al cd cm cl] w fun x w' => x = .returned (.int .i64 (if eOk e = true then (need e.log : Int) else -1)) ∧ Below w.heap.size w w' := by
  have HR := Aside0.mk (hr.up hb)
  clear hr hb
  obtain ⟨w1, hw1⟩ : ∃ w1, w.alloc (e.obox (.slice Ad e.disk.length cd) (.slice Am e.mem.length cm) (.slice Al e.log.length cl)) = w1 := ⟨_, rfl⟩
  have HW1 := Aside0.mk hw1
  have HB1 : Aside0 (Below w.heap.size w w1) := ⟨by rw [← hw1]; exact bel_alloc (Below.refl _ _) _⟩
  have HQ1 : Aside0 (EgBox w1 w.heap.size e (.slice Ad e.disk.length cd) (.slice Am e.mem.length cm) (.slice Al e.log.length cl)) := ⟨by rw [← hw1]; exact EgBox.mk1 _ _ _ _ _⟩
  clear hw1
  have x2 := HQ1.out.c2
  cases hv : eOk e
  all_goals
    have HV := Aside0.mk hv
    clear hv
    go_enter Tryz.func10, Tryz.ntmps10
    go_wp2_with (first | (go_at_call 31; rw [HW1.out]; refine (specEngineOk_calls (cd := cd) (cm := cm) HV.out hcl HB1.out HR.out).mono ?_; rintro x w2 ⟨rfl, hb2⟩; have HB2 := Aside0.mk (bel_then HB1.out hb2); replace x2 := bel_cell hb2 x2; clear hb2) | (go_at_call 32; refine (l11Need_calls (c := cl) (Below.refl w2.heap.size w2) (C_up HR.out.l HB2.out) (okF_iff.1 HV.out).log).mono ?_; rintro x w3 ⟨rfl, hb3⟩; have HB3 := Aside0.mk (bel_then HB2.out hb3); clear hb3))
    go_ret
  · exact ⟨rfl, HB2.out⟩
  · exact ⟨rfl, HB3.out⟩
theorem Eng.val_inj {e : Eng} {A B C A' B' C' : Option Addr} {a b c a' b' c' : Nat} (h : e.val A B C a b c = e.val A' B' C' a' b' c') : A = A' ∧ B = B' ∧ C = C' ∧ a = a' ∧ b = b' ∧ c = c' := by
  simp only [Eng.val, Eng.ag, Value.agg.injEq, Array.mk.injEq, List.cons.injEq, Value.slice.injEq, and_true, true_and] at h
  exact ⟨h.1.1, h.2.1.1, h.2.2.1, h.1.2, h.2.1.2, h.2.2.2⟩
set_option maxRecDepth 100000 in
set_option maxHeartbeats 8000000 in
theorem FnExactRiseNeed_calls {w0 w : World} {e : Eng} {Ad Am Al : Option Addr} {cd cm cl : Nat} (hcl : e.log.length ≤ cl) (hb : Below w0.heap.size w0 w) (hr : EngC w0 e Ad Am Al) : Calls Tryz.prog 3 #[e.val Ad Am Al cd cm cl] w (RetYes w) := by
  have HR := Aside0.mk (hr.up hb)
  have HCL := Aside0.mk hcl
  clear hr hb hcl
  obtain ⟨W1, hW1⟩ : ∃ W1, w.alloc (.cells #[.slice Ad e.disk.length cd, .slice Am e.mem.length cm, .slice Al e.log.length cl, .int .i64 e.safe, .bool e.down] 25) = W1 := ⟨_, rfl⟩
  have HW1 := Aside0.mk hW1
  have HI1 : Aside0 (LgBox W1 w.heap.size e (.slice Ad e.disk.length cd) (.slice Am e.mem.length cm) (.slice Al e.log.length cl)) := ⟨by rw [← hW1]; exact LgBox.mk1 _ _ _ _ _⟩
  have HB1 : Aside0 (Below w.heap.size w W1) := ⟨by rw [← hW1]; exact bel_alloc (Below.refl _ _) _⟩
  clear hW1
  have i0 := HI1.out.c0
  have i1 := HI1.out.c1
  have i2 := HI1.out.c2
  have i3 := HI1.out.c3
  have i4 := HI1.out.c4
  obtain ⟨z, hz⟩ : ∃ z, szE e 1048576 = z := ⟨_, rfl⟩
  have HZ := Aside0.mk hz
  clear hz
  rcases lts z 0 with ⟨e1, b1, c1⟩ | ⟨e1, b1, c1⟩
  · go_enter Tryz.func3, Tryz.ntmps3
    go_wp2_with (first | (go_at_call 9; rw [HW1.out]; refine (szEngine_calls (cd := cd) (cm := cm) (cl := cl) 1048576 (by decide) (by decide) HB1.out HR.out).mono ?_; rw [HZ.out]; rintro x w2 ⟨rfl, hb2⟩; have HB2 := Aside0.mk (bel_then HB1.out hb2); clear hb2))
    go_ret
    exact ⟨rfl, HB2.out⟩
  · have HF := Aside0.mk (few_of_sz (e := e) (by rw [HZ.out]; exact e1.out))
    obtain ⟨n, hn⟩ : ∃ n, (if eOk e = true then (need e.log : Int) else -1) = n := ⟨_, rfl⟩
    have HN := Aside0.mk hn
    have hnn := ne_same n
    clear hn
    go_enter Tryz.func3, Tryz.ntmps3
    go_wp2_with (first
      | (go_at_call 9; rw [HW1.out]; refine (szEngine_calls (cd := cd) (cm := cm) (cl := cl) 1048576 (by decide) (by decide) HB1.out HR.out).mono ?_; rw [HZ.out]; rintro x w2 ⟨rfl, hb2⟩; have HB2 := Aside0.mk (bel_then HB1.out hb2); have HI2 := Aside0.mk (HI1.out.up hb2); have i0 := HI2.out.c0; have i1 := HI2.out.c1; have i2 := HI2.out.c2; have i3 := HI2.out.c3; have i4 := HI2.out.c4; clear hb2)
      | (go_at_call 11; refine (toEngine_calls HF.out HB2.out HR.out).mono ?_; rintro x w3 ⟨vd, vm, vl, rfl, ho, hb3⟩; obtain ⟨Bd, dd, Bm, dm, Bl, dl, rfl, rfl, rfl, hdl, hc⟩ := ho.reads; have HC3 := Aside0.mk hc; have HDL3 := Aside0.mk hdl; have HB3 := Aside0.mk (bel_then HB2.out hb3); have HI3 := Aside0.mk (HI2.out.up hb3); clear HB2 HI2; have i0 := HI3.out.c0; have i1 := HI3.out.c1; have i2 := HI3.out.c2; have i3 := HI3.out.c3; have i4 := HI3.out.c4; clear ho hb3 hc hdl)
      | (go_at_call 10; refine (specRiseNeed_calls (cd := dd) (cm := dm) HDL3.out (Below.refl w3.heap.size w3) HC3.out).mono ?_; rw [HN.out]; rintro x w4 ⟨rfl, hb4⟩; have HB4 := Aside0.mk (bel_then HB3.out hb4); have HI4 := Aside0.mk (HI3.out.up hb4); clear HB3 HI3; have i0 := HI4.out.c0; have i1 := HI4.out.c1; have i2 := HI4.out.c2; have i3 := HI4.out.c3; have i4 := HI4.out.c4; clear hb4)
      | (go_at_call 11; refine (toEngine_calls HF.out HB4.out HR.out).mono ?_; rintro x w5 ⟨vd5, vm5, vl5, rfl, ho, hb5⟩; obtain ⟨Cd, gd, Cm, gm, Cl, gl, rfl, rfl, rfl, hgl, hc⟩ := ho.reads; have HC5 := Aside0.mk hc; have HGL5 := Aside0.mk hgl; have HB5 := Aside0.mk (bel_then HB4.out hb5); have HI5 := Aside0.mk (HI4.out.up hb5); clear HB4 HI4; clear ho hb5 hc hgl)
      | (go_at_call 12; obtain ⟨w6, hw6⟩ : ∃ w6, w5.alloc (e.obox (.slice Cd e.disk.length gd) (.slice Cm e.mem.length gm) (.slice Cl e.log.length gl)) = w6 := ⟨_, rfl⟩; have hb6 : Below w5.heap.size w5 w6 := (by rw [← hw6]; exact bel_alloc (Below.refl _ _) _); have hq6 : EgBox w6 w5.heap.size e (.slice Cd e.disk.length gd) (.slice Cm e.mem.length gm) (.slice Cl e.log.length gl) := (by rw [← hw6]; exact EgBox.mk1 _ _ _ _ _); rw [show w5.alloc (.cells #[.slice Cd e.disk.length gd, .slice Cm e.mem.length gm, .slice Cl e.log.length gl, .int .i64 e.safe, .bool e.down] 31) = w6 from hw6]; refine (RiseNeed_calls (cd := gd) (cm := gm) HGL5.out (Below.refl w6.heap.size w6) (HC5.out.up hb6)).mono ?_; rw [HN.out]; rintro x w7 ⟨rfl, hb7⟩; have HB7 := Aside0.mk (bel_then (bel_then HB5.out hb6) hb7); have HI7 := Aside0.mk (HI5.out.up (bel_then hb6 hb7)); have HQ7 := Aside0.mk (hq6.up hb7); have HC7 := Aside0.mk (HC5.out.up (bel_then hb6 hb7)); clear hw6 hb6 hq6 hb7))
    refine reg_start (fun lx a wx => Below w7.heap.size w7 wx ∧ Sl 2 24 (fun v wx => ∃ D1 D2 D3 k1 k2 k3, v = e.val D1 D2 D3 k1 k2 k3 ∧ EngC wx e D1 D2 D3) lx a wx) 5 rfl (by kernel_rfl) (⟨below_drew (Below.refl _ _), sl_start⟩) (fun HT => ?_)
    refine reg_val (i := 0) (v := ?_) HT rfl (by kernel_rfl) rfl (keeps_and keeps_world (keeps_sl rfl rfl)) (by rfl) (fun _ _ _ h => h) (fun lx ax wx hS => ?_) ?_; rotate_left; (have hq := HQ7.out.up hS.1; have hi := HI7.out.up hS.1; have x0 := hq.c0; have x1 := hq.c1; have x2 := hq.c2; have x3 := hq.c3; have x4 := hq.c4; have i0 := hi.c0; have i1 := hi.c1; have i2 := hi.c2; have i3 := hi.c3; have i4 := hi.c4; clear hq hi; go_simp; with_reducible rfl); rotate_left; simp only [List.set_cons_zero, List.set_cons_succ]
    refine reg_val (i := 1) (v := ?_) HT rfl (by kernel_rfl) rfl (keeps_and keeps_world (keeps_sl rfl rfl)) (by rfl) (fun _ _ _ h => h) (fun lx ax wx hS => ?_) ?_; rotate_left; (have hq := HQ7.out.up hS.1; have hi := HI7.out.up hS.1; have x0 := hq.c0; have x1 := hq.c1; have x2 := hq.c2; have x3 := hq.c3; have x4 := hq.c4; have i0 := hi.c0; have i1 := hi.c1; have i2 := hi.c2; have i3 := hi.c3; have i4 := hi.c4; clear hq hi; go_simp; with_reducible rfl); rotate_left; simp only [List.set_cons_zero, List.set_cons_succ]
    refine reg_only (i := 2) (f := 11) (args := #[e.val Ad Am Al cd cm cl]) (fun v => ∃ D1 D2 D3 k1 k2 k3, v = e.val D1 D2 D3 k1 k2 k3) rfl (by kernel_rfl) rfl Tryz.func11 (by kernel_rfl) rfl rfl (by rfl) (by simp only [List.map_toArray, List.map_cons, List.map_nil]; rfl) (fun wx hS => (toEngine_calls HF.out (bel_then HB7.out hS.1) HR.out).mono (by rintro x w8 ⟨vd, vm, vl, rfl, ho, hb8⟩; obtain ⟨D1, k1, D2, k2, D3, k3, rfl, rfl, rfl, -, hc⟩ := ho.reads; exact ⟨_, rfl, ⟨D1, D2, D3, k1, k2, k3, rfl⟩, bel_then hS.1 hb8, fun _ => ⟨D1, D2, D3, k1, k2, k3, rfl, hc⟩⟩)) (fun vx hg => ?_); simp only [List.set_cons_zero, List.set_cons_succ]
    obtain ⟨D1, D2, D3, k1, k2, k3, rfl⟩ := hg
    refine reg_only (i := 3) (f := 13) (args := #[e.val Cd Cm Cl gd gm gl, e.val D1 D2 D3 k1 k2 k3]) (fun v => v = .bool true) rfl (by kernel_rfl) rfl Tryz.func13 (by kernel_rfl) rfl rfl (by rfl) (by simp only [List.map_toArray, List.map_cons, List.map_nil]; rfl) (fun wx hS => (by obtain ⟨E1, E2, E3, j1, j2, j3, e3, hC⟩ := hS.2 (by kernel_rfl); obtain ⟨rfl, rfl, rfl, rfl, rfl, rfl⟩ := Eng.val_inj e3; exact (eqEngine_calls hS.1 HC7.out (Below.refl _ _) hC).mono (by rintro x w8 ⟨rfl, hb8⟩; exact ⟨_, rfl, rfl, bel_then hS.1 hb8, fun _ => ⟨D1, D2, D3, k1, k2, k3, rfl, hC.up hb8⟩⟩))) (fun vx hg => ?_); simp only [List.set_cons_zero, List.set_cons_succ]
    subst hg
    refine reg_val (i := 4) (v := ?_) HT rfl (by kernel_rfl) rfl (keeps_and keeps_world (keeps_sl rfl rfl)) (by rfl) (fun _ _ _ h => h) (fun lx ax wx hS => ?_) ?_; rotate_left; (go_simp; with_reducible rfl); rotate_left; simp only [List.set_cons_zero, List.set_cons_succ]
    refine reg_end (by kernel_rfl) (fun wx hS => ?_)
    have HX := Aside0.mk (bel_then HB7.out hS.1)
    clear hS
    go_wp2
    go_ret
    exact ⟨rfl, HX.out⟩
end Go.Proofs.YtlmlcnokiipilaaGreat

/- The reference's copy of an engine. -/
namespace Go.Proofs.YtlmlcnokiipilaaGreat
open Go.RowKit Go.Proofs.YtlmlcnokiipilaaGreatW.PrintWords Go.Proofs.YtlmlcnokiipilaaGreatW.PrintLast Go.Proofs.YtlmlcnokiipilaaGreatW.PrintMore

section
variable {P : Program} {ops : Array Oper} {Q : Exit → Act → World → Prop} {S : Array Bool → Act → World → Prop} {m i d : Nat} {o : Oper} {done : List Nat} {L : List Value} {D : List Deferred} {w w1 : World}
theorem reg_later {R : Option Addr → Nat → Option Addr → Nat → Nat → Prop} {G : Prop} (h1 : (∀ a b c d e, R a b c d e) → G) (h2 : ∀ a b c d e, R a b c d e) : G := h1 h2
/-- In whatever order they came up. -/
theorem reg_perm {done' : List Nat} {a : Act} (hp : (lsd ops.size done == lsd ops.size done' && done.length == done'.length) = true) (h : Reg P ops Q S m done a) : Reg P ops Q S m done' a := by
  simp only [Bool.and_eq_true, beq_iff_eq] at hp
  have h1 := h.out
  rw [hp.1, hp.2] at h1
  exact ⟨h1⟩
end
theorem TwoPs.over {w w1 : World} {b : Nat} {vd vm vl : Value} {ps qs : List Page} {l : List Rec} (h : TwoPs w b vd vm ps qs) (hl : OwnRs w b vl l) (hg : w.grownBy w1 vl.ownBlock) : TwoPs w1 b vd vm ps qs := by
  obtain ⟨okd, okm, h1, h2, h3⟩ := h
  exact ⟨okd, okm, h1, Kd.S_over' h2 (rs_typed hl) pages_ne_recs hg, Kd.S_over' h3 (rs_typed hl) pages_ne_recs hg⟩
set_option maxRecDepth 100000 in
set_option maxHeartbeats 16000000 in
theorem l11Copy_calls {w0 w : World} {e : Eng} {Ad Am Al : Option Addr} {cd cm cl : Nat} (hd : geo e.disk) (hm : geo e.mem) (hl : e.log.length ≤ 150) (hb : Below w0.heap.size w0 w) (hr : EngC w0 e Ad Am Al) : Calls Tryz.prog 39 #[e.val Ad Am Al cd cm cl] w (RetE w e) := by
  have HR := Aside0.mk (hr.up hb)
  have HD := Aside0.mk hd
  have HM := Aside0.mk hm
  have HL := Aside0.mk hl
  clear hr hb hd hm hl
  obtain ⟨w1, hw1⟩ : ∃ w1, w.alloc (e.obox (.slice Ad e.disk.length cd) (.slice Am e.mem.length cm) (.slice Al e.log.length cl)) = w1 := ⟨_, rfl⟩
  obtain ⟨w2, hw2⟩ : ∃ w2, w1.alloc (zE.obox (.slice none 0 0) (.slice none 0 0) (.slice none 0 0)) = w2 := ⟨_, rfl⟩
  have hz1 : w1.heap.size = w.heap.size + 1 := by rw [← hw1]; exact size1 _ _
  have hz2 : w2.heap.size = w.heap.size + 2 := by rw [← hw2, size1, hz1]
  have hb12 : Below w1.heap.size w1 w2 := by rw [← hw2]; exact bel_alloc (Below.refl _ _) _
  have HB2 : Aside0 (Below w.heap.size w w2) := ⟨by rw [← hw2, ← hw1]; exact bel_alloc (bel_alloc (Below.refl _ _) _) _⟩
  have HQ2 : Aside0 (EgBox w2 w.heap.size e (.slice Ad e.disk.length cd) (.slice Am e.mem.length cm) (.slice Al e.log.length cl)) := ⟨EgBox.up (by rw [← hw1]; exact EgBox.mk1 _ _ _ _ _) hb12⟩
  have HP2 : Aside0 (EgBox w2 (w.heap.size + 1) zE (.slice none 0 0) (.slice none 0 0) (.slice none 0 0)) := ⟨by rw [← hw2, ← hz1]; exact EgBox.mk1 _ _ _ _ _⟩
  have HW2 : Aside0 ((w.alloc (e.obox (.slice Ad e.disk.length cd) (.slice Am e.mem.length cm) (.slice Al e.log.length cl))).alloc (zE.obox (.slice none 0 0) (.slice none 0 0) (.slice none 0 0)) = w2) := ⟨by rw [hw1, hw2]⟩
  have HZ2 := Aside0.mk hz2
  clear hw1 hw2 hz1 hz2 hb12
  have HCD : Aside0 (∀ wx, Below w.heap.size w wx → Calls Tryz.prog 85 #[.slice Ad e.disk.length cd] wx (RetPs wx e.disk)) := ⟨fun wx hb => l11CopyPages_calls (geo_few HD.out) (by have := HD.out.1; omega) hb HR.out.d⟩
  have HCM : Aside0 (∀ wx, Below w.heap.size w wx → Calls Tryz.prog 85 #[.slice Am e.mem.length cm] wx (RetPs wx e.mem)) := ⟨fun wx hb => l11CopyPages_calls (geo_few HM.out) (by have := HM.out.1; omega) hb HR.out.m⟩
  go_enter Tryz.func39, Tryz.ntmps39
  go_wp2
  rw [show (w.alloc (Obj.cells #[Value.slice Ad e.disk.length cd, Value.slice Am e.mem.length cm, Value.slice Al e.log.length cl, Value.int IntKind.i64 e.safe, Value.bool e.down] 31)).alloc (Obj.cells #[Value.slice none 0 0, Value.slice none 0 0, Value.slice none 0 0, Value.int IntKind.i64 0, Value.bool false] 31) = w2 from HW2.out]
  refine reg_start (fun lx a wx => (Below w.heap.size w wx ∧ w.heap.size + 2 ≤ wx.heap.size ∧ EgBox wx w.heap.size e (.slice Ad e.disk.length cd) (.slice Am e.mem.length cm) (.slice Al e.log.length cl) ∧ EgBox wx (w.heap.size + 1) zE (.slice none 0 0) (.slice none 0 0) (.slice none 0 0)) ∧ (Sl 2 5 (fun v wx => OwnPs wx w.heap.size v e.disk) lx a wx ∧ (Sl2 2 5 5 8 (fun v u wx => TwoPs wx w.heap.size v u e.disk e.mem) lx a wx ∧ (Pre 9 6 9 (fun _ => True) (fun v wx => OwnRs wx w.heap.size v []) lx a wx ∧ Sl 9 12 (fun v wx => OwnRs wx w.heap.size v e.log) lx a wx)))) 15 rfl (by kernel_rfl) (⟨⟨below_drew HB2.out, by have := HZ2.out; show _ ≤ w2.heap.size; omega, HQ2.out.up (below_drew (Below.refl _ _)), HP2.out.up (below_drew (Below.refl _ _))⟩, sl_start, sl2_start, pre_start trivial, sl_start⟩) (fun HT => ?_)
  refine reg_val (i := 0) (v := ?_) HT rfl (by kernel_rfl) rfl (keeps_and keeps_world (keeps_and (keeps_sl rfl rfl) (keeps_and (keeps_sl2 rfl rfl rfl rfl) (keeps_and (keeps_pre rfl rfl rfl) (keeps_sl rfl rfl))))) (by rfl) (fun _ _ _ h => h) (fun lx ax wx hS => ?_) ?_; rotate_left; (obtain ⟨⟨-, -, hq, -⟩, -⟩ := hS; have x0 := hq.c0; have x1 := hq.c1; have x2 := hq.c2; have x3 := hq.c3; have x4 := hq.c4; clear hq; go_simp; with_reducible rfl); rotate_left; simp only [List.set_cons_zero, List.set_cons_succ]
  refine reg_val (i := 1) (v := ?_) HT rfl (by kernel_rfl) rfl (keeps_and keeps_world (keeps_and (keeps_sl rfl rfl) (keeps_and (keeps_sl2 rfl rfl rfl rfl) (keeps_and (keeps_pre rfl rfl rfl) (keeps_sl rfl rfl))))) (by rfl) (fun _ _ _ h => h) (fun lx ax wx hS => ?_) ?_; rotate_left; (obtain ⟨⟨-, -, hq, -⟩, -⟩ := hS; have x0 := hq.c0; have x1 := hq.c1; have x2 := hq.c2; have x3 := hq.c3; have x4 := hq.c4; clear hq; go_simp; with_reducible rfl); rotate_left; simp only [List.set_cons_zero, List.set_cons_succ]
  refine reg_val (i := 3) (v := ?_) HT rfl (by kernel_rfl) rfl (keeps_and keeps_world (keeps_and (keeps_sl rfl rfl) (keeps_and (keeps_sl2 rfl rfl rfl rfl) (keeps_and (keeps_pre rfl rfl rfl) (keeps_sl rfl rfl))))) (by rfl) (fun _ _ _ h => h) (fun lx ax wx hS => ?_) ?_; rotate_left; (obtain ⟨⟨-, -, hq, -⟩, -⟩ := hS; have x0 := hq.c0; have x1 := hq.c1; have x2 := hq.c2; have x3 := hq.c3; have x4 := hq.c4; clear hq; go_simp; with_reducible rfl); rotate_left; simp only [List.set_cons_zero, List.set_cons_succ]
  refine reg_val (i := 4) (v := ?_) HT rfl (by kernel_rfl) rfl (keeps_and keeps_world (keeps_and (keeps_sl rfl rfl) (keeps_and (keeps_sl2 rfl rfl rfl rfl) (keeps_and (keeps_pre rfl rfl rfl) (keeps_sl rfl rfl))))) (by rfl) (fun _ _ _ h => h) (fun lx ax wx hS => ?_) ?_; rotate_left; (obtain ⟨⟨-, -, hq, -⟩, -⟩ := hS; have x0 := hq.c0; have x1 := hq.c1; have x2 := hq.c2; have x3 := hq.c3; have x4 := hq.c4; clear hq; go_simp; with_reducible rfl); rotate_left; simp only [List.set_cons_zero, List.set_cons_succ]
  refine reg_val (i := 7) (v := ?_) HT rfl (by kernel_rfl) rfl (keeps_and keeps_world (keeps_and (keeps_sl rfl rfl) (keeps_and (keeps_sl2 rfl rfl rfl rfl) (keeps_and (keeps_pre rfl rfl rfl) (keeps_sl rfl rfl))))) (by rfl) (fun _ _ _ h => h) (fun lx ax wx hS => ?_) ?_; rotate_left; (obtain ⟨⟨-, -, hq, -⟩, -⟩ := hS; have x0 := hq.c0; have x1 := hq.c1; have x2 := hq.c2; have x3 := hq.c3; have x4 := hq.c4; clear hq; go_simp; with_reducible rfl); rotate_left; simp only [List.set_cons_zero, List.set_cons_succ]
  refine reg_val (i := 8) (v := ?_) HT rfl (by kernel_rfl) rfl (keeps_and keeps_world (keeps_and (keeps_sl rfl rfl) (keeps_and (keeps_sl2 rfl rfl rfl rfl) (keeps_and (keeps_pre rfl rfl rfl) (keeps_sl rfl rfl))))) (by rfl) (fun _ _ _ h => h) (fun lx ax wx hS => ?_) ?_; rotate_left; (obtain ⟨⟨-, -, hq, -⟩, -⟩ := hS; have x0 := hq.c0; have x1 := hq.c1; have x2 := hq.c2; have x3 := hq.c3; have x4 := hq.c4; clear hq; go_simp; with_reducible rfl); rotate_left; simp only [List.set_cons_zero, List.set_cons_succ]
  refine reg_val (i := 10) (v := ?_) HT rfl (by kernel_rfl) rfl (keeps_and keeps_world (keeps_and (keeps_sl rfl rfl) (keeps_and (keeps_sl2 rfl rfl rfl rfl) (keeps_and (keeps_pre rfl rfl rfl) (keeps_sl rfl rfl))))) (by rfl) (fun _ _ _ h => h) (fun lx ax wx hS => ?_) ?_; rotate_left; (obtain ⟨⟨-, -, hq, -⟩, -⟩ := hS; have x0 := hq.c0; have x1 := hq.c1; have x2 := hq.c2; have x3 := hq.c3; have x4 := hq.c4; clear hq; go_simp; with_reducible rfl); rotate_left; simp only [List.set_cons_zero, List.set_cons_succ]
  refine reg_val (i := 11) (v := ?_) HT rfl (by kernel_rfl) rfl (keeps_and keeps_world (keeps_and (keeps_sl rfl rfl) (keeps_and (keeps_sl2 rfl rfl rfl rfl) (keeps_and (keeps_pre rfl rfl rfl) (keeps_sl rfl rfl))))) (by rfl) (fun _ _ _ h => h) (fun lx ax wx hS => ?_) ?_; rotate_left; (obtain ⟨⟨-, -, hq, -⟩, -⟩ := hS; have x0 := hq.c0; have x1 := hq.c1; have x2 := hq.c2; have x3 := hq.c3; have x4 := hq.c4; clear hq; go_simp; with_reducible rfl); rotate_left; simp only [List.set_cons_zero, List.set_cons_succ]
  refine reg_val (i := 12) (v := ?_) HT rfl (by kernel_rfl) rfl (keeps_and keeps_world (keeps_and (keeps_sl rfl rfl) (keeps_and (keeps_sl2 rfl rfl rfl rfl) (keeps_and (keeps_pre rfl rfl rfl) (keeps_sl rfl rfl))))) (by rfl) (fun _ _ _ h => h) (fun lx ax wx hS => ?_) ?_; rotate_left; (obtain ⟨⟨-, -, hq, -⟩, -⟩ := hS; have x0 := hq.c0; have x1 := hq.c1; have x2 := hq.c2; have x3 := hq.c3; have x4 := hq.c4; clear hq; go_simp; with_reducible rfl); rotate_left; simp only [List.set_cons_zero, List.set_cons_succ]
  refine reg_val (i := 13) (v := ?_) HT rfl (by kernel_rfl) rfl (keeps_and keeps_world (keeps_and (keeps_sl rfl rfl) (keeps_and (keeps_sl2 rfl rfl rfl rfl) (keeps_and (keeps_pre rfl rfl rfl) (keeps_sl rfl rfl))))) (by rfl) (fun _ _ _ h => h) (fun lx ax wx hS => ?_) ?_; rotate_left; (obtain ⟨⟨-, -, hq, -⟩, -⟩ := hS; have x0 := hq.c0; have x1 := hq.c1; have x2 := hq.c2; have x3 := hq.c3; have x4 := hq.c4; clear hq; go_simp; with_reducible rfl); rotate_left; simp only [List.set_cons_zero, List.set_cons_succ]
  apply reg_later
  · intro hrest
    refine reg_each [2, 6] (by kernel_rfl) (fun i hi wx hS => ?_)
    rcases List.mem_cons.1 hi with rfl | hi
    · clear hi
      refine wpOp_only (f := 85) (args := #[.slice Ad e.disk.length cd]) rfl rfl Tryz.func85 (by kernel_rfl) rfl rfl (by rfl) (by simp only [List.map_toArray, List.map_cons, List.map_nil]; rfl) ((HCD.out wx hS.1.1).mono ?_)
      rintro x w6 ⟨v, rfl, ho, hb⟩
      obtain ⟨Bd, dd, rfl, -, -⟩ := Kd.S_reads ho
      refine ⟨_, rfl, ⟨⟨bel_then hS.1.1 hb, Nat.le_trans hS.1.2.1 hb.size, hS.1.2.2.1.up hb, hS.1.2.2.2.up hb⟩, fun _ => Kd.S_lower ho hS.1.1.size, fun _ h => (no_yes h (by kernel_rfl)).elim, fun _ => ⟨trivial, fun h => (no_yes h (by kernel_rfl)).elim⟩, fun h => (no_yes h (by kernel_rfl)).elim⟩, ?_⟩
      clear hS ho hb
      simp only [List.set_cons_zero, List.set_cons_succ]
      refine reg_each [5, 6] (by kernel_rfl) (fun i hi wx hS => ?_)
      rcases List.mem_cons.1 hi with rfl | hi
      · clear hi
        refine wpOp_only (f := 85) (args := #[.slice Am e.mem.length cm]) rfl rfl Tryz.func85 (by kernel_rfl) rfl rfl (by rfl) (by simp only [List.map_toArray, List.map_cons, List.map_nil]; rfl) ((HCM.out wx hS.1.1).mono ?_)
        rintro x w6 ⟨v, rfl, ho, hb⟩
        obtain ⟨Bm, dm, rfl, -, -⟩ := Kd.S_reads ho
        refine ⟨_, rfl, ⟨⟨bel_then hS.1.1 hb, Nat.le_trans hS.1.2.1 hb.size, hS.1.2.2.1.up hb, hS.1.2.2.2.up hb⟩, fun _ => Kd.S_below (hS.2.1 (by kernel_rfl)) hb, fun _ _ => TwoPs.mk (hS.2.1 (by kernel_rfl)) ho hb hS.1.1.size, fun _ => ⟨trivial, fun h => (no_yes h (by kernel_rfl)).elim⟩, fun h => (no_yes h (by kernel_rfl)).elim⟩, ?_⟩
        clear hS ho hb
        simp only [List.set_cons_zero, List.set_cons_succ]
        refine reg_each [6] (by kernel_rfl) (fun i hi wx hS => ?_)
        obtain rfl := List.mem_singleton.1 hi
        clear hi
        have hb : Below wx.heap.size wx (wx.alloc (.cells #[] 56)) := bel_alloc (Below.refl _ _) _
        refine wpOp_valL (w1 := wx.alloc (.cells #[] 56)) (.slice (some ⟨wx.heap.size, 0, none⟩) 0 0) rfl rfl (by rfl) (by go_simp) ?_
        refine ⟨⟨⟨bel_then hS.1.1 hb, Nat.le_trans hS.1.2.1 hb.size, hS.1.2.2.1.up hb, hS.1.2.2.2.up hb⟩, fun _ => Kd.S_below (hS.2.1 (by kernel_rfl)) hb, fun _ _ => (hS.2.2.1 (by kernel_rfl) (by kernel_rfl)).below hb, fun _ => ⟨trivial, fun _ => rs_empty rfl hS.1.1.size⟩, fun h => (no_yes h (by kernel_rfl)).elim⟩, ?_⟩
        obtain ⟨B, hB⟩ : ∃ B, wx.heap.size = B := ⟨_, rfl⟩
        clear hb
        rw [hB]
        clear hB hS
        simp only [List.set_cons_zero, List.set_cons_succ]
        exact reg_perm (done := [6, 5, 2, 13, 12, 11, 10, 8, 7, 4, 3, 1, 0]) (by kernel_rfl) (hrest Bd dd Bm dm B)
      · obtain rfl := List.mem_singleton.1 hi
        clear hi
        have hb : Below wx.heap.size wx (wx.alloc (.cells #[] 56)) := bel_alloc (Below.refl _ _) _
        refine wpOp_valL (w1 := wx.alloc (.cells #[] 56)) (.slice (some ⟨wx.heap.size, 0, none⟩) 0 0) rfl rfl (by rfl) (by go_simp) ?_
        refine ⟨⟨⟨bel_then hS.1.1 hb, Nat.le_trans hS.1.2.1 hb.size, hS.1.2.2.1.up hb, hS.1.2.2.2.up hb⟩, fun _ => Kd.S_below (hS.2.1 (by kernel_rfl)) hb, fun _ h => (no_yes h (by kernel_rfl)).elim, fun _ => ⟨trivial, fun _ => rs_empty rfl hS.1.1.size⟩, fun h => (no_yes h (by kernel_rfl)).elim⟩, ?_⟩
        obtain ⟨B, hB⟩ : ∃ B, wx.heap.size = B := ⟨_, rfl⟩
        clear hb
        rw [hB]
        clear hB hS
        simp only [List.set_cons_zero, List.set_cons_succ]
        refine reg_each [5] (by kernel_rfl) (fun i hi wx hS => ?_)
        obtain rfl := List.mem_singleton.1 hi
        clear hi
        refine wpOp_only (f := 85) (args := #[.slice Am e.mem.length cm]) rfl rfl Tryz.func85 (by kernel_rfl) rfl rfl (by rfl) (by simp only [List.map_toArray, List.map_cons, List.map_nil]; rfl) ((HCM.out wx hS.1.1).mono ?_)
        rintro x w6 ⟨v, rfl, ho, hb⟩
        obtain ⟨Bm, dm, rfl, -, -⟩ := Kd.S_reads ho
        refine ⟨_, rfl, ⟨⟨bel_then hS.1.1 hb, Nat.le_trans hS.1.2.1 hb.size, hS.1.2.2.1.up hb, hS.1.2.2.2.up hb⟩, fun _ => Kd.S_below (hS.2.1 (by kernel_rfl)) hb, fun _ _ => TwoPs.mk (hS.2.1 (by kernel_rfl)) ho hb hS.1.1.size, fun _ => ⟨trivial, fun _ => Kd.R_below ((hS.2.2.2.1 (by kernel_rfl)).2 (by kernel_rfl)) hb⟩, fun h => (no_yes h (by kernel_rfl)).elim⟩, ?_⟩
        clear hS ho hb
        simp only [List.set_cons_zero, List.set_cons_succ]
        exact reg_perm (done := [6, 5, 2, 13, 12, 11, 10, 8, 7, 4, 3, 1, 0]) (by kernel_rfl) (hrest Bd dd Bm dm B)
    · obtain rfl := List.mem_singleton.1 hi
      clear hi
      have hb : Below wx.heap.size wx (wx.alloc (.cells #[] 56)) := bel_alloc (Below.refl _ _) _
      refine wpOp_valL (w1 := wx.alloc (.cells #[] 56)) (.slice (some ⟨wx.heap.size, 0, none⟩) 0 0) rfl rfl (by rfl) (by go_simp) ?_
      refine ⟨⟨⟨bel_then hS.1.1 hb, Nat.le_trans hS.1.2.1 hb.size, hS.1.2.2.1.up hb, hS.1.2.2.2.up hb⟩, fun h => (no_yes h (by kernel_rfl)).elim, fun _ h => (no_yes h (by kernel_rfl)).elim, fun _ => ⟨trivial, fun _ => rs_empty rfl hS.1.1.size⟩, fun h => (no_yes h (by kernel_rfl)).elim⟩, ?_⟩
      obtain ⟨B, hB⟩ : ∃ B, wx.heap.size = B := ⟨_, rfl⟩
      clear hb
      rw [hB]
      clear hB hS
      simp only [List.set_cons_zero, List.set_cons_succ]
      refine reg_each [2] (by kernel_rfl) (fun i hi wx hS => ?_)
      obtain rfl := List.mem_singleton.1 hi
      clear hi
      refine wpOp_only (f := 85) (args := #[.slice Ad e.disk.length cd]) rfl rfl Tryz.func85 (by kernel_rfl) rfl rfl (by rfl) (by simp only [List.map_toArray, List.map_cons, List.map_nil]; rfl) ((HCD.out wx hS.1.1).mono ?_)
      rintro x w6 ⟨v, rfl, ho, hb⟩
      obtain ⟨Bd, dd, rfl, -, -⟩ := Kd.S_reads ho
      refine ⟨_, rfl, ⟨⟨bel_then hS.1.1 hb, Nat.le_trans hS.1.2.1 hb.size, hS.1.2.2.1.up hb, hS.1.2.2.2.up hb⟩, fun _ => Kd.S_lower ho hS.1.1.size, fun _ h => (no_yes h (by kernel_rfl)).elim, fun _ => ⟨trivial, fun _ => Kd.R_below ((hS.2.2.2.1 (by kernel_rfl)).2 (by kernel_rfl)) hb⟩, fun h => (no_yes h (by kernel_rfl)).elim⟩, ?_⟩
      clear hS ho hb
      simp only [List.set_cons_zero, List.set_cons_succ]
      refine reg_each [5] (by kernel_rfl) (fun i hi wx hS => ?_)
      obtain rfl := List.mem_singleton.1 hi
      clear hi
      refine wpOp_only (f := 85) (args := #[.slice Am e.mem.length cm]) rfl rfl Tryz.func85 (by kernel_rfl) rfl rfl (by rfl) (by simp only [List.map_toArray, List.map_cons, List.map_nil]; rfl) ((HCM.out wx hS.1.1).mono ?_)
      rintro x w6 ⟨v, rfl, ho, hb⟩
      obtain ⟨Bm, dm, rfl, -, -⟩ := Kd.S_reads ho
      refine ⟨_, rfl, ⟨⟨bel_then hS.1.1 hb, Nat.le_trans hS.1.2.1 hb.size, hS.1.2.2.1.up hb, hS.1.2.2.2.up hb⟩, fun _ => Kd.S_below (hS.2.1 (by kernel_rfl)) hb, fun _ _ => TwoPs.mk (hS.2.1 (by kernel_rfl)) ho hb hS.1.1.size, fun _ => ⟨trivial, fun _ => Kd.R_below ((hS.2.2.2.1 (by kernel_rfl)).2 (by kernel_rfl)) hb⟩, fun h => (no_yes h (by kernel_rfl)).elim⟩, ?_⟩
      clear hS ho hb
      simp only [List.set_cons_zero, List.set_cons_succ]
      exact reg_perm (done := [6, 5, 2, 13, 12, 11, 10, 8, 7, 4, 3, 1, 0]) (by kernel_rfl) (hrest Bd dd Bm dm B)
  · intro Bd dd Bm dm B
    refine reg_each [9] (by kernel_rfl) (fun i hi w3 hS => ?_)
    obtain rfl := List.mem_singleton.1 hi
    clear hi
    obtain ⟨⟨h1, h2, h3, h4⟩, hc1, hc2, hc3, -⟩ := hS
    have hr0 : OwnRs w3 w.heap.size (.slice (some ⟨B, 0, none⟩) 0 0) [] := (hc3 (by kernel_rfl)).2 (by kernel_rfl)
    have hd0 : OwnPs w3 w.heap.size (.slice Bd e.disk.length dd) e.disk := hc1 (by kernel_rfl)
    have ht0 : TwoPs w3 w.heap.size (.slice Bd e.disk.length dd) (.slice Bm e.mem.length dm) e.disk e.mem := hc2 (by kernel_rfl) (by kernel_rfl)
    have hlg : Kd.C kRec w3 Al e.log.length e.log := C_up HR.out.l h1
    refine wpOp_step rfl (Kd.R_append_rows_step kRec (Rr := kRec.K w3) (w0 := w) w.heap.size (by rfl) (.tmp 9) (.tmp 11) 29 56 _ 64 rfl under_recs info_rec rfl (by decide) (by decide) (.slice (some ⟨B, 0, none⟩) 0 0) [] e.log Al e.log.length cl (fun _ => True) (fun _ => False) rfl rfl hr0 hlg (fun _ _ hk => kRec_KM hk) (fun _ hk => hk.elim) (fun _ _ => trivial) h1 h1.size (by have := HL.out; simp; omega) (fun v1 w4 hown hb4 hg4 _ => ?_))
    have hown : OwnRs w4 w.heap.size v1 e.log := hown
    obtain ⟨Bl, dl, rfl, -, -⟩ := Kd.R_reads hown
    simp only [put_list, List.set_cons_zero, List.set_cons_succ]
    refine ⟨⟨⟨hb4, Nat.le_trans h2 hg4.size, h3.grown hr0 hg4, h4.grown hr0 hg4⟩, fun _ => Kd.S_over' hd0 (rs_typed hr0) pages_ne_recs hg4, fun _ _ => ht0.over hr0 hg4, fun h => (no_yes (by kernel_rfl) h).elim, fun _ => hown⟩, ?_⟩
    clear h1 h2 h3 h4 hc1 hc2 hc3 hr0 hd0 ht0 hlg hb4 hg4 hown
    refine reg_val (i := 14) (v := ?_) HT rfl (by kernel_rfl) rfl (keeps_and keeps_world (keeps_and (keeps_sl rfl rfl) (keeps_and (keeps_sl2 rfl rfl rfl rfl) (keeps_and (keeps_pre rfl rfl rfl) (keeps_sl rfl rfl))))) (by rfl) (fun _ _ _ h => h) (fun lx ax wx hS => ?_) ?_
    rotate_left
    · go_simp
      with_reducible rfl
    rotate_left
    simp only [List.set_cons_zero, List.set_cons_succ]
    refine reg_tail (i := 15) (by kernel_rfl) rfl (fun wx hS => ?_)
    obtain ⟨⟨h1, h2, -, hy⟩, -, hs2, -, hs4⟩ := hS
    have ho : OwnE wx w.heap.size (.slice Bd e.disk.length dd) (.slice Bm e.mem.length dm) (.slice Bl e.log.length dl) e := TwoPs.eng (hs2 (by kernel_rfl) (by kernel_rfl)) (hs4 (by kernel_rfl))
    clear hs2 hs4
    have y0 := hy.c0
    have y1 := hy.c1
    have y2 := hy.c2
    have y3 := hy.c3
    have y4 := hy.c4
    have f0 := hy.frz 0
    have f1 := hy.frz 1
    have f2 := hy.frz 2
    have f3 := hy.frz 3
    have f4 := hy.frz 4
    refine wpOp_skip (w1 := Go.Proofs.YtlmlcnokiipilaaGreat.set5 wx (w.heap.size + 1) e (.slice Bd e.disk.length dd) (.slice Bm e.mem.length dm) (.slice Bl e.log.length dl)) rfl (by rfl) (by go_simp) ?_
    have hy2 := hy.set5 e (.slice Bd e.disk.length dd) (.slice Bm e.mem.length dm) (.slice Bl e.log.length dl)
    have ho2 := ho.set5 (f := e) (xd := .slice Bd e.disk.length dd) (xm := .slice Bm e.mem.length dm) (xl := .slice Bl e.log.length dl) hy
    have h3 := bel_set5 (g := w.heap.size + 1) h1 (by omega) e (.slice Bd e.disk.length dd) (.slice Bm e.mem.length dm) (.slice Bl e.log.length dl)
    have z0 := hy2.c0
    have z1 := hy2.c1
    have z2 := hy2.c2
    have z3 := hy2.c3
    have z4 := hy2.c4
    refine regAt_end (by kernel_rfl) ?_
    go_wp2
    exact bodyPost_ret (v := e.ag (.slice Bd e.disk.length dd) (.slice Bm e.mem.length dm) (.slice Bl e.log.length dl)) (by simp [results, Tryz.results39, go_sem, z0, z1, z2, z3, z4]) rfl ⟨_, _, _, rfl, ho2, h3⟩
end Go.Proofs.YtlmlcnokiipilaaGreat

/- The reference's fall. -/
namespace Go.Proofs.YtlmlcnokiipilaaGreat
open Go.RowKit Go.Proofs.YtlmlcnokiipilaaGreatW.PrintWords Go.Proofs.YtlmlcnokiipilaaGreatW.PrintLast Go.Proofs.YtlmlcnokiipilaaGreatW.PrintMore

/-- An engine of the call's own, or of one that called it. -/
def RetEb (w0 : World) (e : Eng) (x : Ending) (w' : World) : Prop := ∃ vd vm vl, x = .returned (e.ag vd vm vl) ∧ OwnE w' w0.heap.size vd vm vl e ∧ Below w0.heap.size w0 w'
theorem rs_egset {w : World} {b g : Nat} {v ud um ul : Value} {l : List Rec} {q : Eng} (h : OwnRs w b v l) (hq : EgBox w g q ud um ul) (j : Nat) (u : Value) : OwnRs (w.setCell ⟨g, j, none⟩ u) b v l :=
  Kd.R_set h hq (fun q hq => by have : q = 56 := (by simpa [kRec, Kd.iso, Kd.pair, Kd.int, Kd.scalar] using hq); rw [this]; decide) j u
/-- Elder pages, younger ones, a log. -/
theorem OwnE.of_parts {w4 w5 : World} {b b2 : Nat} {okd : Nat → Prop} {vd vm vl : Value} {ps qs : List Page} {l : List Rec} {s : Int} {d : Bool} (hd : OwnPk w4 b okd vd ps) (hm : OwnPs w5 w4.heap.size vm qs) (hb : Below w4.heap.size w4 w5) (hl : OwnRs w4 b2 vl l) (hle : b ≤ w4.heap.size) (hb2 : b ≤ b2) : OwnE w5 b vd vm vl ⟨ps, qs, l, s, d⟩ :=
  ⟨⟨fun k => okd k ∧ k < w4.heap.size, fun k => w4.heap.size ≤ k, fun k h1 h2 => by omega, Kd.S_old hd hb, Kd.S_lower (Kd.S_mono (Kd.S_bound hm) (fun k hk => hk.2.1)) hle⟩, Kd.R_lower (Kd.R_below hl hb) hb2⟩
set_option maxRecDepth 100000 in
set_option maxHeartbeats 8000000 in
theorem l21Fall_calls {w0 w : World} {e : Eng} {vd vm vl : Value} (left : Int) (hgd : geo e.disk) (hs0 : 0 ≤ e.safe) (hs1 : e.safe ≤ e.log.length) (hl : e.log.length ≤ 150) (hb : Below w0.heap.size w0 w) (hr : OwnE w w0.heap.size vd vm vl e) : Calls Tryz.prog 38 #[e.ag vd vm vl, .int .i64 left] w (RetEb w0 (fallE e left)) := by
  obtain ⟨Ad, cd, Am, cm, Al, cl, rfl, rfl, rfl, hcl, hrd⟩ := hr.reads
  obtain ⟨okd, okm, -, hpd, -⟩ := hr.ex
  obtain ⟨w1, hw1⟩ : ∃ w1, w.alloc (e.obox (.slice Ad e.disk.length cd) (.slice Am e.mem.length cm) (.slice Al e.log.length cl)) = w1 := ⟨_, rfl⟩
  obtain ⟨w2, hw2⟩ : ∃ w2, w1.alloc (zE.obox (.slice none 0 0) (.slice none 0 0) (.slice none 0 0)) = w2 := ⟨_, rfl⟩
  have hz1 : w1.heap.size = w.heap.size + 1 := by rw [← hw1]; exact size1 _ _
  have hz2 : w2.heap.size = w.heap.size + 1 + 1 := by rw [← hw2, size1, hz1]
  have hb12 : Below w1.heap.size w1 w2 := by rw [← hw2]; exact bel_alloc (Below.refl _ _) _
  have hb02 : Below w.heap.size w w2 := by rw [← hw2, ← hw1]; exact bel_alloc (bel_alloc (Below.refl _ _) _) _
  have HB2 := Aside0.mk hb02
  have HB := Aside0.mk hb
  have HQ2 : Aside0 (EgBox w2 w.heap.size e (.slice Ad e.disk.length cd) (.slice Am e.mem.length cm) (.slice Al e.log.length cl)) := ⟨EgBox.up (by rw [← hw1]; exact EgBox.mk1 _ _ _ _ _) hb12⟩
  have HP2 : Aside0 (EgBox w2 (w.heap.size + 1) zE (.slice none 0 0) (.slice none 0 0) (.slice none 0 0)) := ⟨by rw [← hw2, ← hz1]; exact EgBox.mk1 _ _ _ _ _⟩
  have HW2 : Aside0 ((w.alloc (e.obox (.slice Ad e.disk.length cd) (.slice Am e.mem.length cm) (.slice Al e.log.length cl))).alloc (zE.obox (.slice none 0 0) (.slice none 0 0) (.slice none 0 0)) = w2) := ⟨by rw [hw1, hw2]⟩
  have HZ2 := Aside0.mk hz2
  have HD2 := Aside0.mk (Kd.S_below hpd hb02)
  have HL2 := Aside0.mk (C_up hrd.l hb02)
  have HGD := Aside0.mk hgd
  have hle := leftN_le (left := left) hs0 hs1
  obtain ⟨n, hn⟩ : ∃ n : Nat, leftN e left = n := ⟨_, rfl⟩
  rw [hn] at hle
  have hmax : max e.safe (min left (e.log.length : Int)) = (n : Int) := by rw [← hn]; unfold leftN; omega
  have hncl : n ≤ cl := by omega
  have hln : (e.log.take n).length = n := by rw [List.length_take]; omega
  have HLn := Aside0.mk hln
  have HE := Aside0.mk (show fallE e left = ⟨e.disk, e.disk, e.log.take n, e.safe, true⟩ by rw [fallE, hn])
  have HTK : Aside0 (Kd.C kRec w2 Al (e.log.take n).length (e.log.take n)) := ⟨take_C HL2.out (by omega)⟩
  have HN := Aside0.mk (show n ≤ 150 by omega)
  have HWB := Aside0.mk (bel_then hb hb02)
  have x0 := HQ2.out.c0
  have x2 := HQ2.out.c2
  have x3 := HQ2.out.c3
  clear hw1 hw2 hz1 hz2 hb12 hb02 hb hr hpd hrd hgd hle hn hln hs0 hs1 hl
  go_enter Tryz.func38, Tryz.ntmps38
  go_wp2_with (first
    | ((with_reducible refine gate_ (.call { callee := .builtin .append, args := #[.tmp 5, .tmp 16], argTypes := #[29, 29] }) rfl ?_); go_loud (rw [show (w.alloc (Obj.cells #[Value.slice Ad e.disk.length cd, Value.slice Am e.mem.length cm, Value.slice Al e.log.length cl, Value.int IntKind.i64 e.safe, Value.bool e.down] 31)).alloc (Obj.cells #[Value.slice none 0 0, Value.slice none 0 0, Value.slice none 0 0, Value.int IntKind.i64 0, Value.bool false] 31) = w2 from HW2.out]); go_loud (refine recs_append_row (w0 := w2) (xs := []) (ys := e.log.take n) (A := Al) (c := cl) rfl (.tmp 5) (.tmp 16) rfl rfl (by rw [HLn.out]; rfl) (rs_empty HZ2.out.symm (Nat.le_refl _)) (C_up HTK.out (bel_alloc (Below.refl _ _) _)) (bel_alloc (Below.refl _ _) _) (by rw [HLn.out]; have := HN.out; simp; omega) ?_); intro v1 w3 hO hb3 _; have hO : OwnRs w3 w2.heap.size v1 (e.log.take n) := hO; obtain ⟨Bl, dl, hv, -, -⟩ := Kd.R_reads hO; rw [HLn.out] at hv; subst hv; have HO3 := Aside0.mk hO; have HB3 := Aside0.mk hb3; have hq3 := HQ2.out.up hb3; have hp3 := HP2.out.up hb3; have HQ3 := Aside0.mk hq3; have HP3 := Aside0.mk hp3; have f2 := hq3.frz 2; have x0' := hq3.c0; have x2' := hq3.c2; clear hO hb3 hq3 hp3 x0 x2 x3)
    | (go_at_call 85; obtain ⟨w4, hw4⟩ : ∃ w4, w3.setCell ⟨w.heap.size, 2, none⟩ (.slice Bl n dl) = w4 := ⟨_, rfl⟩; have hz2 := HZ2.out; have hn3 := HB3.out.size; have hq4 : EgBox w4 w.heap.size e (.slice Ad e.disk.length cd) (.slice Am e.mem.length cm) (.slice Bl n dl) := (by rw [← hw4]; exact HQ3.out.set2 _); have hp4 : EgBox w4 (w.heap.size + 1) zE (.slice none 0 0) (.slice none 0 0) (.slice none 0 0) := (by rw [← hw4]; exact HP3.out.far (by omega) _ _); have hd4 : OwnPk w4 w0.heap.size okd (.slice Ad e.disk.length cd) e.disk := (by rw [← hw4]; exact pk_egset (Kd.S_below HD2.out HB3.out) HQ3.out 2 _); have hl4 : OwnRs w4 w2.heap.size (.slice Bl n dl) (e.log.take n) := (by rw [← hw4]; exact rs_egset HO3.out HQ3.out 2 _); have hb4 : Below w0.heap.size w0 w4 := (by rw [← hw4]; exact (bel_then HWB.out HB3.out).setCell (p := ⟨w.heap.size, 2, none⟩) HB.out.size _); rw [hw4]; refine (l11CopyPages_calls (w0 := w4) (c := cd) (geo_few HGD.out) (by have := HGD.out.1; omega) (Below.refl _ _) (Kd.S_reads' hd4).2.2).mono ?_; rintro x w5 ⟨v, rfl, ho, hb5⟩; obtain ⟨Bm, dm, rfl, -, -⟩ := Kd.S_reads ho; have HO5 := Aside0.mk (OwnE.of_parts (s := e.safe) (d := true) hd4 ho hb5 hl4 hb4.size (Nat.le_trans (by rw [hz2]; have := HB.out.size; omega) (Nat.le_refl _))); have HB5 := Aside0.mk (bel_then hb4 hb5); have hq5 := hq4.up hb5; have hp5 := hp4.up hb5; have HQ5 := Aside0.mk hq5; have HP5 := Aside0.mk hp5; have x0 := hq5.c0; have x1 := hq5.c1; have x2 := hq5.c2; have x3 := hq5.c3; have x4 := hq5.c4; have g1 := hq5.frz 1; have g4 := hq5.frz 4; have y0 := hp5.c0; have y1 := hp5.c1; have y2 := hp5.c2; have y3 := hp5.c3; have y4 := hp5.c4; have f0 := hp5.frz 0; have f1 := hp5.frz 1; have f2 := hp5.frz 2; have f3 := hp5.frz 3; have f4 := hp5.frz 4; clear hw4 hz2 hn3 hq4 hp4 hd4 hl4 hb4 ho hb5 hq5 hp5 x0' x2'))
  have hgw := HB.out.size
  have q1 := HQ5.out.set1 (.slice Bm e.disk.length dm)
  have r1 := (HO5.out.setEg HQ5.out 1 (.slice Bm e.disk.length dm)).setEg q1 4 (.bool true)
  have p1 := (HP5.out.far (b := w.heap.size) (by omega) 1 (.slice Bm e.disk.length dm)).far (b := w.heap.size) (by omega) 4 (.bool true)
  have b1 := (HB5.out.setCell (p := ⟨w.heap.size, 1, none⟩) hgw (.slice Bm e.disk.length dm)).setCell (p := ⟨w.heap.size, 4, none⟩) hgw (.bool true)
  have h1 := r1.set5 (f := ⟨e.disk, e.disk, e.log.take n, e.safe, true⟩) (xd := .slice Ad e.disk.length cd) (xm := .slice Bm e.disk.length dm) (xl := .slice Bl n dl) p1
  have h2 := bel_set5 (g := w.heap.size + 1) b1 (by omega) ⟨e.disk, e.disk, e.log.take n, e.safe, true⟩ (.slice Ad e.disk.length cd) (.slice Bm e.disk.length dm) (.slice Bl n dl)
  have hy := p1.set5 ⟨e.disk, e.disk, e.log.take n, e.safe, true⟩ (.slice Ad e.disk.length cd) (.slice Bm e.disk.length dm) (.slice Bl n dl)
  have z0 := hy.c0
  have z1 := hy.c1
  have z2 := hy.c2
  have z3 := hy.c3
  have z4 := hy.c4
  simp only at z0 z1 z2 z3 z4
  exact bodyPost_ret (v := .agg #[.slice Ad e.disk.length cd, .slice Bm e.disk.length dm, .slice Bl n dl, .int .i64 e.safe, .bool true]) (by simp [results, Tryz.results38, go_sem, z0, z1, z2, z3, z4]) rfl ⟨_, _, _, by rw [HE.out], by rw [HE.out]; exact h1, h2⟩
set_option maxRecDepth 100000 in
set_option maxHeartbeats 8000000 in
theorem specRiseFall_calls {w0 w : World} {e : Eng} {Ad Am Al : Option Addr} {cd cm cl : Nat} (left : Int) (hcl : e.log.length ≤ cl) (hb : Below w0.heap.size w0 w) (hr : EngC w0 e Ad Am Al) : Calls Tryz.prog 14 #[e.val Ad Am Al cd cm cl, .int .i64 left] w (RetEB w (fallR e left).1 (fallR e left).2) := by
  have HR := Aside0.mk (hr.up hb)
  clear hr hb
  obtain ⟨w1, hw1⟩ : ∃ w1, w.alloc (e.obox (.slice Ad e.disk.length cd) (.slice Am e.mem.length cm) (.slice Al e.log.length cl)) = w1 := ⟨_, rfl⟩
  obtain ⟨w2, hw2⟩ : ∃ w2, w1.alloc (zE.obox (.slice none 0 0) (.slice none 0 0) (.slice none 0 0)) = w2 := ⟨_, rfl⟩
  have hz1 : w1.heap.size = w.heap.size + 1 := by rw [← hw1]; exact size1 _ _
  have hz2 : w2.heap.size = w.heap.size + 2 := by rw [← hw2, size1, hz1]
  have hb12 : Below w1.heap.size w1 w2 := by rw [← hw2]; exact bel_alloc (Below.refl _ _) _
  have HB2 : Aside0 (Below w.heap.size w w2) := ⟨by rw [← hw2, ← hw1]; exact bel_alloc (bel_alloc (Below.refl _ _) _) _⟩
  have HQ2 : Aside0 (EgBox w2 w.heap.size e (.slice Ad e.disk.length cd) (.slice Am e.mem.length cm) (.slice Al e.log.length cl)) := ⟨EgBox.up (by rw [← hw1]; exact EgBox.mk1 _ _ _ _ _) hb12⟩
  have HP2 : Aside0 (EgBox w2 (w.heap.size + 1) zE (.slice none 0 0) (.slice none 0 0) (.slice none 0 0)) := ⟨by rw [← hw2, ← hz1]; exact EgBox.mk1 _ _ _ _ _⟩
  have HW2 : Aside0 ((w.alloc (e.obox (.slice Ad e.disk.length cd) (.slice Am e.mem.length cm) (.slice Al e.log.length cl))).alloc (zE.obox (.slice none 0 0) (.slice none 0 0) (.slice none 0 0)) = w2) := ⟨by rw [hw1, hw2]⟩
  have HZ2 := Aside0.mk hz2
  clear hw1 hw2 hz1 hz2 hb12
  have x0 := HQ2.out.c0
  have x1 := HQ2.out.c1
  have x2 := HQ2.out.c2
  have x3 := HQ2.out.c3
  have x4 := HQ2.out.c4
  cases hv : eOk e
  · have HV := Aside0.mk hv
    have hE : fallR e left = (zE, false) := by rw [fallR, if_neg (by rw [hv]; simp)]
    rw [hE]
    clear hv hE
    go_enter Tryz.func14, Tryz.ntmps14
    go_wp2_with (go_at_call 31; rw [show (w.alloc (Obj.cells #[Value.slice Ad e.disk.length cd, Value.slice Am e.mem.length cm, Value.slice Al e.log.length cl, Value.int IntKind.i64 e.safe, Value.bool e.down] 31)).alloc (Obj.cells #[Value.slice none 0 0, Value.slice none 0 0, Value.slice none 0 0, Value.int IntKind.i64 0, Value.bool false] 31) = w2 from HW2.out]; refine (specEngineOk_calls (cd := cd) (cm := cm) HV.out hcl HB2.out HR.out).mono ?_; rintro x w3 ⟨rfl, hb3⟩; have HB3 := Aside0.mk (bel_then HB2.out hb3); have HP3 := Aside0.mk (HP2.out.up hb3); have y0 := HP3.out.c0; have y1 := HP3.out.c1; have y2 := HP3.out.c2; have y3 := HP3.out.c3; have y4 := HP3.out.c4; have f0 := HP3.out.frz 0; have f1 := HP3.out.frz 1; have f2 := HP3.out.frz 2; have f3 := HP3.out.frz 3; have f4 := HP3.out.frz 4; clear hb3)
    obtain ⟨z0, z1, z2, z3, z4⟩ := HP3.out.empty
    exact bodyPost_ret (v := .tuple #[zEv, .bool false]) (by simp [results, Tryz.results14, go_sem, z0, z1, z2, z3, z4]) rfl ⟨_, _, _, rfl, own_zE _ _, bel_set5 (g := w.heap.size + 1) HB3.out (by omega) zE _ _ _⟩
  · have HV := Aside0.mk hv
    have HF := Aside0.mk (okF_iff.1 hv)
    clear hv
    rcases lts left 0 with ⟨e1, b1, c1⟩ | ⟨e1, b1, c1⟩
    · have hE : fallR e left = (zE, false) := by rw [fallR, if_neg (by have := e1.out; omega)]
      rw [hE]
      clear hE
      have hl0 := e1.out
      go_enter Tryz.func14, Tryz.ntmps14
      go_wp2_with (go_at_call 31; rw [show (w.alloc (Obj.cells #[Value.slice Ad e.disk.length cd, Value.slice Am e.mem.length cm, Value.slice Al e.log.length cl, Value.int IntKind.i64 e.safe, Value.bool e.down] 31)).alloc (Obj.cells #[Value.slice none 0 0, Value.slice none 0 0, Value.slice none 0 0, Value.int IntKind.i64 0, Value.bool false] 31) = w2 from HW2.out]; refine (specEngineOk_calls (cd := cd) (cm := cm) HV.out hcl HB2.out HR.out).mono ?_; rintro x w3 ⟨rfl, hb3⟩; have HB3 := Aside0.mk (bel_then HB2.out hb3); have HP3 := Aside0.mk (HP2.out.up hb3); have y0 := HP3.out.c0; have y1 := HP3.out.c1; have y2 := HP3.out.c2; have y3 := HP3.out.c3; have y4 := HP3.out.c4; have f0 := HP3.out.frz 0; have f1 := HP3.out.frz 1; have f2 := HP3.out.frz 2; have f3 := HP3.out.frz 3; have f4 := HP3.out.frz 4; clear hb3)
      obtain ⟨z0, z1, z2, z3, z4⟩ := HP3.out.empty
      exact bodyPost_ret (v := .tuple #[zEv, .bool false]) (by simp [results, Tryz.results14, go_sem, z0, z1, z2, z3, z4]) rfl ⟨_, _, _, rfl, own_zE _ _, bel_set5 (g := w.heap.size + 1) HB3.out (by omega) zE _ _ _⟩
    · have hE : fallR e left = (fallE e left, true) := by rw [fallR, if_pos ⟨HV.out, e1.out⟩]
      rw [hE]
      obtain ⟨E, hEE⟩ : ∃ E, fallE e left = E := ⟨_, rfl⟩
      have HEE := Aside0.mk hEE
      rw [hEE]
      clear hE hEE
      have hl0 := e1.out
      have HLG := Aside0.mk (logOk_len HF.out.log)
      go_enter Tryz.func14, Tryz.ntmps14
      go_wp2_with (first
        | (go_at_call 31; rw [show (w.alloc (Obj.cells #[Value.slice Ad e.disk.length cd, Value.slice Am e.mem.length cm, Value.slice Al e.log.length cl, Value.int IntKind.i64 e.safe, Value.bool e.down] 31)).alloc (Obj.cells #[Value.slice none 0 0, Value.slice none 0 0, Value.slice none 0 0, Value.int IntKind.i64 0, Value.bool false] 31) = w2 from HW2.out]; refine (specEngineOk_calls (cd := cd) (cm := cm) HV.out hcl HB2.out HR.out).mono ?_; rintro x w3 ⟨rfl, hb3⟩; have HB3 := Aside0.mk (bel_then HB2.out hb3); have HP3 := Aside0.mk (HP2.out.up hb3); have HX3 := Aside0.mk hb3; replace x0 := bel_cell hb3 x0; replace x1 := bel_cell hb3 x1; replace x2 := bel_cell hb3 x2; replace x3 := bel_cell hb3 x3; replace x4 := bel_cell hb3 x4; clear hb3)
        | (go_at_call 39; refine (l11Copy_calls (cd := cd) (cm := cm) (cl := cl) (psOk_geo HF.out.disk) (psOk_geo HF.out.mem) HLG.out HB3.out HR.out).mono ?_; rintro x w4 ⟨vd, vm, vl, rfl, ho, hb4⟩; have HO4 := Aside0.mk (ho.lower (b' := w2.heap.size) HX3.out.size); have HB4 := Aside0.mk (bel_then HX3.out hb4); clear ho hb4 x0 x1 x2 x3 x4)
        | (go_at_call 38; refine (l21Fall_calls (w0 := w2) left (psOk_geo HF.out.disk) HF.out.s0 HF.out.s1 HLG.out HB4.out HO4.out).mono ?_; rw [HEE.out]; rintro x w5 ⟨ud, um, ul, rfl, ho, hb5⟩; obtain ⟨Cd, gd, Cm, gm, Cl, gl, rfl, rfl, rfl, -, -⟩ := ho.reads; have HO5 := Aside0.mk ho; have HX5 := Aside0.mk hb5; have HB5 := Aside0.mk (bel_then HB2.out hb5); have HP5 := Aside0.mk (HP2.out.up hb5); have y0 := HP5.out.c0; have y1 := HP5.out.c1; have y2 := HP5.out.c2; have y3 := HP5.out.c3; have y4 := HP5.out.c4; have f0 := HP5.out.frz 0; have f1 := HP5.out.frz 1; have f2 := HP5.out.frz 2; have f3 := HP5.out.frz 3; have f4 := HP5.out.frz 4; clear ho hb5))
      have hz := HZ2.out
      have hy := HP5.out.set5 E (.slice Cd E.disk.length gd) (.slice Cm E.mem.length gm) (.slice Cl E.log.length gl)
      have h1 := HO5.out.set5 (f := E) (xd := .slice Cd E.disk.length gd) (xm := .slice Cm E.mem.length gm) (xl := .slice Cl E.log.length gl) HP5.out
      have h2 := bel_set5 (g := w.heap.size + 1) HB5.out (by omega) E (.slice Cd E.disk.length gd) (.slice Cm E.mem.length gm) (.slice Cl E.log.length gl)
      have z0 := hy.c0
      have z1 := hy.c1
      have z2 := hy.c2
      have z3 := hy.c3
      have z4 := hy.c4
      exact bodyPost_ret (v := .tuple #[E.ag (.slice Cd E.disk.length gd) (.slice Cm E.mem.length gm) (.slice Cl E.log.length gl), .bool true]) (by simp [results, Tryz.results14, go_sem, z0, z1, z2, z3, z4]) rfl ⟨_, _, _, rfl, h1.lower (by omega), h2⟩
end Go.Proofs.YtlmlcnokiipilaaGreat

/- The statement FnExactRiseFall, walked. -/
namespace Go.Proofs.YtlmlcnokiipilaaGreat
open Go.RowKit Go.Proofs.YtlmlcnokiipilaaGreatW.PrintWords Go.Proofs.YtlmlcnokiipilaaGreatW.PrintLast Go.Proofs.YtlmlcnokiipilaaGreatW.PrintMore

/-- What a fall leaves is no greater. -/
theorem few_fallR {e : Eng} {left : Int} (h : fewE e) : fewE (fallR e left).1 := by
  unfold fallR
  split
  · refine ⟨h.1, h.1, ?_⟩
    show (e.log.take (leftN e left)).length ≤ 1048576
    rw [List.length_take]
    have := h.2.2
    omega
  · exact ⟨⟨by simp [zE], fun p hp => by cases hp⟩, ⟨by simp [zE], fun p hp => by cases hp⟩, by simp [zE]⟩
set_option maxRecDepth 100000 in
set_option maxHeartbeats 16000000 in
theorem FnExactRiseFall_calls {w0 w : World} {e : Eng} {Ad Am Al : Option Addr} {cd cm cl : Nat} (left : Int) (hb : Below w0.heap.size w0 w) (hr : EngC w0 e Ad Am Al) : Calls Tryz.prog 4 #[e.val Ad Am Al cd cm cl, .int .i64 left] w (RetYes w) := by
  have HR := Aside0.mk (hr.up hb)
  clear hr hb
  obtain ⟨W1, hW1⟩ : ∃ W1, w.alloc (.cells #[.slice Ad e.disk.length cd, .slice Am e.mem.length cm, .slice Al e.log.length cl, .int .i64 e.safe, .bool e.down] 25) = W1 := ⟨_, rfl⟩
  have HW1 := Aside0.mk hW1
  have HI1 : Aside0 (LgBox W1 w.heap.size e (.slice Ad e.disk.length cd) (.slice Am e.mem.length cm) (.slice Al e.log.length cl)) := ⟨by rw [← hW1]; exact LgBox.mk1 _ _ _ _ _⟩
  have HB1 : Aside0 (Below w.heap.size w W1) := ⟨by rw [← hW1]; exact bel_alloc (Below.refl _ _) _⟩
  clear hW1
  have i0 := HI1.out.c0
  have i1 := HI1.out.c1
  have i2 := HI1.out.c2
  have i3 := HI1.out.c3
  have i4 := HI1.out.c4
  obtain ⟨z, hz⟩ : ∃ z, szE e 1048576 = z := ⟨_, rfl⟩
  have HZ := Aside0.mk hz
  clear hz
  rcases lts z 0 with ⟨e1, b1, c1⟩ | ⟨e1, b1, c1⟩
  · go_enter Tryz.func4, Tryz.ntmps4
    go_wp2_with (first | (go_at_call 9; rw [HW1.out]; refine (szEngine_calls (cd := cd) (cm := cm) (cl := cl) 1048576 (by decide) (by decide) HB1.out HR.out).mono ?_; rw [HZ.out]; rintro x w2 ⟨rfl, hb2⟩; have HB2 := Aside0.mk (bel_then HB1.out hb2); clear hb2))
    go_ret
    exact ⟨rfl, HB2.out⟩
  · have HF := Aside0.mk (few_of_sz (e := e) (by rw [HZ.out]; exact e1.out))
    have HFE0 : fewE (fallR e left).1 := few_fallR HF.out
    obtain ⟨R, hR⟩ : ∃ R, fallR e left = R := ⟨_, rfl⟩
    rw [hR] at HFE0
    obtain ⟨E, bb⟩ := R
    have HFE := Aside0.mk (show fewE E from HFE0)
    have HE := Aside0.mk hR
    have hbb := ne_sameB bb
    have hk1 : decide (1 + (cntE e : Int) < 0) = false := by simp; omega
    have hk2 : decide (1 + (cntE E : Int) < 0) = false := by simp; omega
    have hk3 : ((1 + (cntE E : Int)) != (1 + (cntE E : Int))) = false := by simp
    clear hR HFE0
    go_enter Tryz.func4, Tryz.ntmps4
    go_wp2_with (first
      | (go_at_call 9; rw [HW1.out]; refine (szEngine_calls (cd := cd) (cm := cm) (cl := cl) 1048576 (by decide) (by decide) HB1.out HR.out).mono ?_; rw [HZ.out]; rintro x w2 ⟨rfl, hb2⟩; have HB2 := Aside0.mk (bel_then HB1.out hb2); have HI2 := Aside0.mk (HI1.out.up hb2); clear hb2; clear i0 i1 i2 i3 i4; have i0 := (HI2.out).c0; have i1 := (HI2.out).c1; have i2 := (HI2.out).c2; have i3 := (HI2.out).c3; have i4 := (HI2.out).c4)
      | (go_at_call 11; refine (toEngine_calls HF.out HB2.out HR.out).mono ?_; rintro x w3 ⟨vd, vm, vl, rfl, ho, hb3⟩; obtain ⟨Bd, dd, Bm, dm, Bl, dl, rfl, rfl, rfl, hdl, hc⟩ := ho.reads; have HC3 := Aside0.mk hc; have HDL3 := Aside0.mk hdl; have HB3 := Aside0.mk (bel_then HB2.out hb3); have HI3 := Aside0.mk (HI2.out.up hb3); clear HB2 HI2 ho hb3 hc hdl; clear i0 i1 i2 i3 i4; have i0 := (HI3.out).c0; have i1 := (HI3.out).c1; have i2 := (HI3.out).c2; have i3 := (HI3.out).c3; have i4 := (HI3.out).c4)
      | (go_at_call 14; refine (specRiseFall_calls (cd := dd) (cm := dm) left HDL3.out (Below.refl w3.heap.size w3) HC3.out).mono ?_; rw [HE.out]; rintro x w4 ⟨vd, vm, vl, rfl, ho, hb4⟩; obtain ⟨Jd, s1_, Jm, s2_, Jl, s3_, rfl, rfl, rfl, -, hc⟩ := ho.reads; have HS4 := Aside0.mk hc; have HB4 := Aside0.mk (bel_then HB3.out hb4); have HI4 := Aside0.mk (HI3.out.up hb4); clear HB3 HI3 HC3 HDL3 ho hb4 hc; clear i0 i1 i2 i3 i4; have i0 := (HI4.out).c0; have i1 := (HI4.out).c1; have i2 := (HI4.out).c2; have i3 := (HI4.out).c3; have i4 := (HI4.out).c4)
      | (refine wpl_box_eg (vd := .slice Jd E.disk.length s1_) (vm := .slice Jm E.mem.length s2_) (vl := .slice Jl E.log.length s3_) E ?_; intro w5 hb5 _ hq5; have HS5 := Aside0.mk (HS4.out.up hb5); have HB5 := Aside0.mk (bel_then HB4.out hb5); have HI5 := Aside0.mk (HI4.out.up hb5); have HQ5 := Aside0.mk hq5; clear HB4 HI4 HS4 hb5 hq5; clear i0 i1 i2 i3 i4; have i0 := (HI5.out).c0; have i1 := (HI5.out).c1; have i2 := (HI5.out).c2; have i3 := (HI5.out).c3; have i4 := (HI5.out).c4)
      | (go_at_call 11; refine (toEngine_calls HF.out HB5.out HR.out).mono ?_; rintro x w6 ⟨vd, vm, vl, rfl, ho, hb6⟩; obtain ⟨Xd, x1_, Xm, x2_, Xl, x3_, rfl, rfl, rfl, hdl, hc⟩ := ho.reads; have HC6 := Aside0.mk hc; have HDL6 := Aside0.mk hdl; have HX6 := Aside0.mk ho.toK; have HT6 := Aside0.mk hb6; have HN6 := Aside0.mk hb6.size; clear ho hb6 hc hdl; clear i0 i1 i2 i3 i4)
      | (refine wpl_box_eg (vd := .slice Xd e.disk.length x1_) (vm := .slice Xm e.mem.length x2_) (vl := .slice Xl e.log.length x3_) e ?_; intro w7 hb7 hz7 hq7; have HZ7 := Aside0.mk hz7; have HC7 := Aside0.mk (HC6.out.up hb7); have HX7 := Aside0.mk (HX6.out.below hb7); have HT7 := Aside0.mk (bel_then HT6.out hb7); have HQ7 := Aside0.mk hq7; clear HC6 HX6 HT6 hb7 hz7 hq7; have x0 := (HQ7.out).c0; have x1 := (HQ7.out).c1; have x2 := (HQ7.out).c2; have x3 := (HQ7.out).c3; have x4 := (HQ7.out).c4)
      | (go_at_call 15; refine (RiseFall_calls (cd := x1_) (cm := x2_) left HDL6.out (Below.refl w7.heap.size w7) HC7.out).mono ?_; rw [HE.out]; rintro x w8 ⟨vd, vm, vl, rfl, ho, hb8⟩; obtain ⟨Gd, g1_, Gm, g2_, Gl, g3_, rfl, rfl, rfl, -, hc⟩ := ho.reads; have HG8 := Aside0.mk ho.toK; have HC8 := Aside0.mk hc; have HXC8 := Aside0.mk (HC7.out.up hb8); have HX8 := Aside0.mk (HX7.out.below hb8); have HT8 := Aside0.mk (bel_then HT7.out hb8); have HQ8 := Aside0.mk (HQ7.out.up hb8); have HN8 := Aside0.mk hb8.size; clear HC7 HX7 HT7 HQ7 ho hb8 hc; clear x0 x1 x2 x3 x4)
      | (refine wpl_box_eg (vd := .slice Gd E.disk.length g1_) (vm := .slice Gm E.mem.length g2_) (vl := .slice Gl E.log.length g3_) E ?_; intro w9 hb9 hz9 hq9; have HZ9 := Aside0.mk hz9; have HG9 := Aside0.mk (HG8.out.below hb9); have HC9 := Aside0.mk (HC8.out.up hb9); have HXC9 := Aside0.mk (HXC8.out.up hb9); have HX9 := Aside0.mk (HX8.out.below hb9); have HT9 := Aside0.mk (bel_then HT8.out hb9); have HQ9 := Aside0.mk (HQ8.out.up hb9); have HR9 := Aside0.mk hq9; clear HG8 HC8 HXC8 HX8 HT8 HQ8 hb9 hz9 hq9; have g0 := (HR9.out).c0; have g1 := (HR9.out).c1; have g2 := (HR9.out).c2; have g3 := (HR9.out).c3; have g4 := (HR9.out).c4; have s0 := (HQ5.out.up HT9.out).c0; have s1 := (HQ5.out.up HT9.out).c1; have s2 := (HQ5.out.up HT9.out).c2; have s3 := (HQ5.out.up HT9.out).c3; have s4 := (HQ5.out.up HT9.out).c4)
      | (go_at_call 13; refine (eqEngine_calls (Below.refl w9.heap.size w9) HC9.out HT9.out HS5.out).mono ?_; rintro x w10 ⟨rfl, hb10⟩; have HG10 := Aside0.mk (HG9.out.below hb10); have HXC10 := Aside0.mk (HXC9.out.up hb10); have HX10 := Aside0.mk (HX9.out.below hb10); have HT10 := Aside0.mk (bel_then HT9.out hb10); have HQ10 := Aside0.mk (HQ9.out.up hb10); have HR10 := Aside0.mk (HR9.out.up hb10); clear HG9 HC9 HXC9 HX9 HT9 HQ9 HR9 hb10; clear g0 g1 g2 g3 g4 s0 s1 s2 s3 s4))
    refine reg_start (fun lx a wx => Below w10.heap.size w10 wx ∧ Sl 2 47 (fun v wx => ∃ D1 D2 D3 k1 k2 k3, v = e.val D1 D2 D3 k1 k2 k3 ∧ EngC wx e D1 D2 D3) lx a wx) 5 rfl (by kernel_rfl) (⟨below_drew (Below.refl _ _), sl_start⟩) (fun HT => ?_)
    refine reg_val (i := 0) (v := ?_) HT rfl (by kernel_rfl) rfl (keeps_and keeps_world (keeps_sl rfl rfl)) (by rfl) (fun _ _ _ h => h) (fun lx ax wx hS => ?_) ?_; rotate_left; (have hq := HQ10.out.up hS.1; have hi := HI5.out.up (bel_then HT10.out hS.1); have x0 := hq.c0; have x1 := hq.c1; have x2 := hq.c2; have x3 := hq.c3; have x4 := hq.c4; have i0 := hi.c0; have i1 := hi.c1; have i2 := hi.c2; have i3 := hi.c3; have i4 := hi.c4; clear hq hi; go_simp; with_reducible rfl); rotate_left; simp only [List.set_cons_zero, List.set_cons_succ]
    refine reg_val (i := 1) (v := ?_) HT rfl (by kernel_rfl) rfl (keeps_and keeps_world (keeps_sl rfl rfl)) (by rfl) (fun _ _ _ h => h) (fun lx ax wx hS => ?_) ?_; rotate_left; (have hq := HQ10.out.up hS.1; have hi := HI5.out.up (bel_then HT10.out hS.1); have x0 := hq.c0; have x1 := hq.c1; have x2 := hq.c2; have x3 := hq.c3; have x4 := hq.c4; have i0 := hi.c0; have i1 := hi.c1; have i2 := hi.c2; have i3 := hi.c3; have i4 := hi.c4; clear hq hi; go_simp; with_reducible rfl); rotate_left; simp only [List.set_cons_zero, List.set_cons_succ]
    refine reg_only (i := 2) (f := 11) (args := #[e.val Ad Am Al cd cm cl]) (fun v => ∃ D1 D2 D3 k1 k2 k3, v = e.val D1 D2 D3 k1 k2 k3) rfl (by kernel_rfl) rfl Tryz.func11 (by kernel_rfl) rfl rfl (by rfl) (by simp only [List.map_toArray, List.map_cons, List.map_nil]; rfl) (fun wx hS => (toEngine_calls HF.out (bel_then HB5.out (bel_then HT10.out hS.1)) HR.out).mono (by rintro x w8' ⟨vd, vm, vl, rfl, ho, hb8⟩; obtain ⟨D1, k1, D2, k2, D3, k3, rfl, rfl, rfl, -, hc⟩ := ho.reads; exact ⟨_, rfl, ⟨D1, D2, D3, k1, k2, k3, rfl⟩, bel_then hS.1 hb8, fun _ => ⟨D1, D2, D3, k1, k2, k3, rfl, hc⟩⟩)) (fun vx hg => ?_); simp only [List.set_cons_zero, List.set_cons_succ]
    obtain ⟨D1, D2, D3, k1, k2, k3, rfl⟩ := hg
    refine reg_only (i := 3) (f := 13) (args := #[e.val Xd Xm Xl x1_ x2_ x3_, e.val D1 D2 D3 k1 k2 k3]) (fun v => v = .bool true) rfl (by kernel_rfl) rfl Tryz.func13 (by kernel_rfl) rfl rfl (by rfl) (by simp only [List.map_toArray, List.map_cons, List.map_nil]; rfl) (fun wx hS => (by obtain ⟨E1, E2, E3, j1, j2, j3, e3, hC⟩ := hS.2 (by kernel_rfl); obtain ⟨rfl, rfl, rfl, rfl, rfl, rfl⟩ := Eng.val_inj e3; exact (eqEngine_calls hS.1 HXC10.out (Below.refl _ _) hC).mono (by rintro x w8' ⟨rfl, hb8⟩; exact ⟨_, rfl, rfl, bel_then hS.1 hb8, fun _ => ⟨D1, D2, D3, k1, k2, k3, rfl, hC.up hb8⟩⟩))) (fun vx hg => ?_); simp only [List.set_cons_zero, List.set_cons_succ]
    subst hg
    refine reg_val (i := 4) (v := ?_) HT rfl (by kernel_rfl) rfl (keeps_and keeps_world (keeps_sl rfl rfl)) (by rfl) (fun _ _ _ h => h) (fun lx ax wx hS => ?_) ?_; rotate_left; (go_simp; with_reducible rfl); rotate_left; simp only [List.set_cons_zero, List.set_cons_succ]
    refine reg_end (by kernel_rfl) (fun wx hS => ?_)
    have HTx := Aside0.mk (bel_then HT10.out hS.1)
    have HGx := Aside0.mk (HG10.out.below hS.1)
    have HXx := Aside0.mk (HX10.out.below hS.1)
    have HQx := Aside0.mk (HQ10.out.up hS.1)
    have HRx := Aside0.mk (HR10.out.up hS.1)
    have HN7 : Aside0 (w5.heap.size ≤ w6.heap.size) := ⟨HN6.out⟩
    clear hS HT10 HG10 HX10 HQ10 HR10 HXC10
    have x0 := (HQx.out).c0
    have x1 := (HQx.out).c1
    have x2 := (HQx.out).c2
    have x3 := (HQx.out).c3
    have x4 := (HQx.out).c4
    have i0 := (HI5.out.up HTx.out).c0
    have i1 := (HI5.out.up HTx.out).c1
    have i2 := (HI5.out.up HTx.out).c2
    have i3 := (HI5.out.up HTx.out).c3
    have i4 := (HI5.out.up HTx.out).c4
    go_wp2_with (first
      | (go_at_call 16; refine (markEngine_calls 1 (by decide) (by decide) HF.out HXx.out).mono ?_; rintro x w11 ⟨rfl, -, hw⟩; have hz7 := HZ7.out; have HT11 := Aside0.mk (HTx.out.trans (hw.bel (N := w5.heap.size) (fun m hm => hm.1) HTx.out.size)); have HG11 := Aside0.mk (HGx.out.kept hw.kept (fun m hm hn => by have h1 := hm.1; have h2 := hn.2; omega)); have hr11 : EgBox w11 w8.heap.size E (.slice Gd E.disk.length g1_) (.slice Gm E.mem.length g2_) (.slice Gl E.log.length g3_) := (hw.kept.2 _ HRx.out.lt (fun hn => by have h1 := hn.2; have h2 := HN8.out; omega)).trans HRx.out; have HR11 := Aside0.mk hr11; clear HGx HXx HTx HQx HRx hz7 hw hr11; clear i0 i1 i2 i3 i4 x0 x1 x2 x3 x4; have g0 := (HR11.out).c0; have g1 := (HR11.out).c1; have g2 := (HR11.out).c2; have g3 := (HR11.out).c3; have g4 := (HR11.out).c4; have s0 := (HQ5.out.up HT11.out).c0; have s1 := (HQ5.out.up HT11.out).c1; have s2 := (HQ5.out.up HT11.out).c2; have s3 := (HQ5.out.up HT11.out).c3; have s4 := (HQ5.out.up HT11.out).c4)
      | (go_at_call 13; refine (eqEngine_calls (Below.refl w11.heap.size w11) HG11.out.C HT11.out HS5.out).mono ?_; rintro x w12 ⟨rfl, hb12⟩; have HG12 := Aside0.mk (HG11.out.below hb12); have HT12 := Aside0.mk (bel_then HT11.out hb12); have HR12 := Aside0.mk (HR11.out.up hb12); clear HG11 HT11 HR11 hb12; clear g0 g1 g2 g3 g4 s0 s1 s2 s3 s4; have g0 := (HR12.out).c0; have g1 := (HR12.out).c1; have g2 := (HR12.out).c2; have g3 := (HR12.out).c3; have g4 := (HR12.out).c4)
      | (go_at_call 16; refine (markEngine_calls 1 (by decide) (by decide) HFE.out HG12.out).mono ?_; rintro x w13 ⟨rfl, hm, hw⟩; have hz7 := HZ7.out; have hn7 := HN7.out; have HT13 := Aside0.mk (HT12.out.trans (hw.bel (N := w5.heap.size) (fun m hm => by have h1 := hm.1; omega) HT12.out.size)); have HC13 := Aside0.mk hm.C; have hr13 : EgBox w13 w8.heap.size E (.slice Gd E.disk.length g1_) (.slice Gm E.mem.length g2_) (.slice Gl E.log.length g3_) := (hw.kept.2 _ HR12.out.lt (fun hn => by have h1 := hn.2; omega)).trans HR12.out; have HR13 := Aside0.mk hr13; clear HG12 HT12 HR12 hz7 hn7 hw hm hr13; clear g0 g1 g2 g3 g4; have g0 := (HR13.out).c0; have g1 := (HR13.out).c1; have g2 := (HR13.out).c2; have g3 := (HR13.out).c3; have g4 := (HR13.out).c4)
      | (go_at_call 17; refine (heldEngine_calls 1 (by decide) (by decide) HFE.out (Below.refl w13.heap.size w13) HC13.out).mono ?_; rintro x w14 ⟨rfl, hb14⟩; have HU14 := Aside0.mk hb14; have HB14 := Aside0.mk (bel_then HB5.out (bel_then HT13.out hb14)); clear hb14; clear g0 g1 g2 g3 g4; have i0 := (HI5.out.up (bel_then HT13.out HU14.out)).c0; have i1 := (HI5.out.up (bel_then HT13.out HU14.out)).c1; have i2 := (HI5.out.up (bel_then HT13.out HU14.out)).c2; have i3 := (HI5.out.up (bel_then HT13.out HU14.out)).c3; have i4 := (HI5.out.up (bel_then HT13.out HU14.out)).c4)
      | (go_at_call 11; refine (toEngine_calls HF.out HB14.out HR.out).mono ?_; rintro x w15 ⟨vd, vm, vl, rfl, ho, hb15⟩; obtain ⟨Yd, y1_, Ym, y2_, Yl, y3_, rfl, rfl, rfl, hdl, hc⟩ := ho.reads; have HC15 := Aside0.mk hc; have HDL15 := Aside0.mk hdl; have HU15 := Aside0.mk (bel_then HU14.out hb15); clear HU14 ho hb15 hc hdl; clear i0 i1 i2 i3 i4)
      | (go_at_call 15; refine (RiseFall_calls (cd := y1_) (cm := y2_) left HDL15.out (Below.refl w15.heap.size w15) HC15.out).mono ?_; rw [HE.out]; rintro x w16 ⟨vd, vm, vl, rfl, ho, hb16⟩; obtain ⟨Hd, h1_, Hm, h2_, Hl, h3_, rfl, rfl, rfl, -, hc⟩ := ho.reads; have HC16 := Aside0.mk hc; have HU16 := Aside0.mk (bel_then HU15.out hb16); clear HU15 HC15 ho hb16 hc; )
      | (refine wpl_box_eg (vd := .slice Hd E.disk.length h1_) (vm := .slice Hm E.mem.length h2_) (vl := .slice Hl E.log.length h3_) E ?_; intro w17 hb17 _ hq17; have HC17 := Aside0.mk (HC16.out.up hb17); have HU17 := Aside0.mk (bel_then HU16.out hb17); have HQ17 := Aside0.mk hq17; clear HC16 HU16 hb17 hq17; have h0 := (HQ17.out).c0; have h1 := (HQ17.out).c1; have h2 := (HQ17.out).c2; have h3 := (HQ17.out).c3; have h4 := (HQ17.out).c4; have s0 := (HQ5.out.up (bel_then HT13.out HU17.out)).c0; have s1 := (HQ5.out.up (bel_then HT13.out HU17.out)).c1; have s2 := (HQ5.out.up (bel_then HT13.out HU17.out)).c2; have s3 := (HQ5.out.up (bel_then HT13.out HU17.out)).c3; have s4 := (HQ5.out.up (bel_then HT13.out HU17.out)).c4)
      | (go_at_call 13; refine (eqEngine_calls (Below.refl w17.heap.size w17) HC17.out (bel_then HT13.out HU17.out) HS5.out).mono ?_; rintro x w18 ⟨rfl, hb18⟩; have HU18 := Aside0.mk (bel_then HU17.out hb18); clear HC17 HU17 HQ17 hb18; clear h0 h1 h2 h3 h4 s0 s1 s2 s3 s4; have g0 := (HR13.out.up HU18.out).c0; have g1 := (HR13.out.up HU18.out).c1; have g2 := (HR13.out.up HU18.out).c2; have g3 := (HR13.out.up HU18.out).c3; have g4 := (HR13.out.up HU18.out).c4)
      | (go_at_call 17; refine (heldEngine_calls 1 (by decide) (by decide) HFE.out HU18.out HC13.out).mono ?_; rintro x w19 ⟨rfl, hb19⟩; have HB19 := Aside0.mk (bel_then HB5.out (bel_then HT13.out (bel_then HU18.out hb19))); clear hb19; clear g0 g1 g2 g3 g4))
    go_ret
    exact ⟨rfl, HB19.out⟩
end Go.Proofs.YtlmlcnokiipilaaGreat
