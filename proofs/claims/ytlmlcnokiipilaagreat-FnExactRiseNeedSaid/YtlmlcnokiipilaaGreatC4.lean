/- Proved here: for every engine that is handed in, laws.FnExactRiseNeed returns true (the program's RiseNeed and the reference's return the same number, and the engine that came in reads as it did). Conditions: none beyond those that the given statement itself bears. -/
import Derived.Test.YtlmlcnokiipilaaGreatC3
import Derived.Deep.Slices
import Derived.OpenShut
import Derived.Deep.Strs
import Derived.WalkKit
import Derived.ProofKit
import Derived.ShutString
import Derived.ChangeOld
import Derived.Below
import Derived.SizedLaws
/- The program's copy of an engine. -/
namespace Go.Proofs.YtlmlcnokiipilaaGreat
open Go.RowKit Go.Proofs.YtlmlcnokiipilaaGreatW.PrintWords Go.Proofs.YtlmlcnokiipilaaGreatW.PrintLast Go.Proofs.YtlmlcnokiipilaaGreatW.PrintMore

/-- Two rows of pages of the call's own. -/
def TwoPs (w : World) (base : Nat) (vd vm : Value) (ps qs : List Page) : Prop := ∃ okd okm : Nat → Prop, (∀ k, okd k → okm k → False) ∧ OwnPk w base okd vd ps ∧ OwnPk w base okm vm qs
theorem TwoPs.below {w w1 : World} {base : Nat} {vd vm : Value} {ps qs : List Page} (h : TwoPs w base vd vm ps qs) (hb : Below w.heap.size w w1) : TwoPs w1 base vd vm ps qs := by
  obtain ⟨okd, okm, h1, h2, h3⟩ := h
  exact ⟨okd, okm, h1, Kd.S_below h2 hb, Kd.S_below h3 hb⟩
theorem TwoPs.mk {w0 w1 : World} {base : Nat} {vd vm : Value} {ps qs : List Page} (hd : OwnPk w0 base (fun _ => True) vd ps) (hm : OwnPk w1 w0.heap.size (fun _ => True) vm qs) (hb : Below w0.heap.size w0 w1) (hbase : base ≤ w0.heap.size) : TwoPs w1 base vd vm ps qs :=
  ⟨fun k => True ∧ k < w0.heap.size, fun k => w0.heap.size ≤ k, fun k h1 h2 => by omega, Kd.S_old hd hb, Kd.S_lower (Kd.S_mono (Kd.S_bound hm) (fun k hk => hk.2.1)) hbase⟩
theorem TwoPs.eng {w : World} {base : Nat} {vd vm vl : Value} {e : Eng} (h : TwoPs w base vd vm e.disk e.mem) (hl : OwnRs w base vl e.log) : OwnE w base vd vm vl e := ⟨h, hl⟩
/-- What two slots hold, once both came up. -/
def Sl2 (i s j t : Nat) (p : Value → Value → World → Prop) (l : Array Bool) (a : Act) (w : World) : Prop := l.getD i false = true → l.getD j false = true → p (a.tmps.getD s undef) (a.tmps.getD t undef) w
theorem keeps_sl2 {k i s j t d : Nat} {p : Value → Value → World → Prop} (h1 : (d == s) = false) (h2 : (d == t) = false) (h3 : (k == i) = false) (h4 : (k == j) = false) : Keeps (Sl2 i s j t p) k (some d) := fun l a v w => by
  have h1 : d ≠ s := by simpa using h1
  have h2 : d ≠ t := by simpa using h2
  have h3 : k ≠ i := by simpa using h3
  have h4 : k ≠ j := by simpa using h4
  have e1 : (a.put (some d) v).tmps.getD s undef = a.tmps.getD s undef := by simp [Act.put, h1]
  have e2 : (a.put (some d) v).tmps.getD t undef = a.tmps.getD t undef := by simp [Act.put, h2]
  have e3 : (l.setIfInBounds k true).getD i false = l.getD i false := getD_set_ne false h3
  have e4 : (l.setIfInBounds k true).getD j false = l.getD j false := getD_set_ne false h4
  rw [Sl2, Sl2, e1, e2, e3, e4]
theorem sl2_start {n i s j t : Nat} {p : Value → Value → World → Prop} {a : Act} {w : World} : Sl2 i s j t p (lsd n []) a w := fun h => by
  rw [lsd_nil] at h
  simp [Array.getD] at h
def zE : Eng := ⟨[], [], [], 0, false⟩
/-- All five cells of an engine's variable written anew. -/
abbrev set5 (w : World) (g : Nat) (e : Eng) (vd vm vl : Value) : World := ((((w.setCell ⟨g, 0, none⟩ vd).setCell ⟨g, 1, none⟩ vm).setCell ⟨g, 2, none⟩ vl).setCell ⟨g, 3, none⟩ (.int .i64 e.safe)).setCell ⟨g, 4, none⟩ (.bool e.down)
theorem EgBox.set5 {w : World} {g : Nat} {q : Eng} {ud um ul : Value} (h : EgBox w g q ud um ul) (e : Eng) (vd vm vl : Value) : EgBox (set5 w g e vd vm vl) g e vd vm vl := (((((h.set0 vd).set1 vm).set2 vl).set3 e.safe).set4 e.down)
theorem EgBox.blk {w : World} {g : Nat} {q : Eng} {ud um ul : Value} (h : EgBox w g q ud um ul) : w.heap[g]? = some (.cells #[ud, um, ul, .int .i64 q.safe, .bool q.down] 31 (0, 0)) := h
theorem OwnE.set5 {w : World} {b g : Nat} {vd vm vl xd xm xl ud um ul : Value} {e q f : Eng} (h : OwnE w b vd vm vl e) (hg : EgBox w g q ud um ul) : OwnE (set5 w g f xd xm xl) b vd vm vl e := by
  have n1 : 31 ≠ 49 := by decide
  have n2 : 31 ≠ 3 := by decide
  have n3 : 31 ≠ 56 := by decide
  exact ((((h.set hg.blk n1 n2 n3 0 xd).set (hg.set0 xd).blk n1 n2 n3 1 xm).set ((hg.set0 xd).set1 xm).blk n1 n2 n3 2 xl).set (((hg.set0 xd).set1 xm).set2 xl).blk n1 n2 n3 3 _).set ((((hg.set0 xd).set1 xm).set2 xl).set3 f.safe).blk n1 n2 n3 4 _
theorem bel_set5 {w0 w : World} {g : Nat} (h : Below w0.heap.size w0 w) (hg : w0.heap.size ≤ g) (e : Eng) (vd vm vl : Value) : Below w0.heap.size w0 (Go.Proofs.YtlmlcnokiipilaaGreat.set5 w g e vd vm vl) := ((((h.setCell (p := ⟨g, 0, none⟩) hg _).setCell (p := ⟨g, 1, none⟩) hg _).setCell (p := ⟨g, 2, none⟩) hg _).setCell (p := ⟨g, 3, none⟩) hg _).setCell (p := ⟨g, 4, none⟩) hg _
set_option maxRecDepth 100000 in
set_option maxHeartbeats 8000000 in
theorem ecopied_calls {w0 w : World} {e : Eng} {Ad Am Al : Option Addr} {cd cm cl : Nat} (hd : geo e.disk) (hm : geo e.mem) (hl : e.log.length ≤ 150) (hb : Below w0.heap.size w0 w) (hr : EngC w0 e Ad Am Al) : Calls Tryz.prog 53 #[e.val Ad Am Al cd cm cl] w (RetE w e) := by
  have HR := Aside0.mk (hr.up hb)
  have HD := Aside0.mk hd
  have HM := Aside0.mk hm
  have HL := Aside0.mk hl
  clear hr hb hd hm hl
  obtain ⟨w1, hw1⟩ : ∃ w1, w.alloc (e.obox (.slice Ad e.disk.length cd) (.slice Am e.mem.length cm) (.slice Al e.log.length cl)) = w1 := ⟨_, rfl⟩
  obtain ⟨w2, hw2⟩ : ∃ w2, w1.alloc (zE.obox (.slice none 0 0) (.slice none 0 0) (.slice none 0 0)) = w2 := ⟨_, rfl⟩
  have hz1 : w1.heap.size = w.heap.size + 1 := by rw [← hw1]; exact size1 _ _
  have hz2 : w2.heap.size = w.heap.size + 2 := by rw [← hw2, size1, hz1]
  have hb12 : Below w1.heap.size w1 w2 := by rw [← hw2]; exact bel_alloc (Below.refl _ _) _
  have HB2 : Aside0 (Below w.heap.size w w2) := ⟨by rw [← hw2, ← hw1]; exact bel_alloc (bel_alloc (Below.refl _ _) _) _⟩
  have HQ2 : Aside0 (EgBox w2 w.heap.size e (.slice Ad e.disk.length cd) (.slice Am e.mem.length cm) (.slice Al e.log.length cl)) := ⟨EgBox.up (by rw [← hw1]; exact EgBox.mk1 _ _ _ _ _) hb12⟩
  have HP2 : Aside0 (EgBox w2 (w.heap.size + 1) zE (.slice none 0 0) (.slice none 0 0) (.slice none 0 0)) := ⟨by rw [← hw2, ← hz1]; exact EgBox.mk1 _ _ _ _ _⟩
  have HW2 : Aside0 ((w.alloc (e.obox (.slice Ad e.disk.length cd) (.slice Am e.mem.length cm) (.slice Al e.log.length cl))).alloc (zE.obox (.slice none 0 0) (.slice none 0 0) (.slice none 0 0)) = w2) := ⟨by rw [hw1, hw2]⟩
  have HZ2 := Aside0.mk hz2
  clear hw1 hw2 hz1 hz2 hb12
  go_enter Tryz.func53, Tryz.ntmps53
  go_wp2
  rw [show (w.alloc (Obj.cells #[Value.slice Ad e.disk.length cd, Value.slice Am e.mem.length cm, Value.slice Al e.log.length cl, Value.int IntKind.i64 e.safe, Value.bool e.down] 31)).alloc (Obj.cells #[Value.slice none 0 0, Value.slice none 0 0, Value.slice none 0 0, Value.int IntKind.i64 0, Value.bool false] 31) = w2 from HW2.out]
  refine reg_start (fun lx a wx => (Below w.heap.size w wx ∧ w.heap.size + 2 ≤ wx.heap.size ∧ EgBox wx w.heap.size e (.slice Ad e.disk.length cd) (.slice Am e.mem.length cm) (.slice Al e.log.length cl) ∧ EgBox wx (w.heap.size + 1) zE (.slice none 0 0) (.slice none 0 0) (.slice none 0 0)) ∧ (Sl 2 5 (fun v wx => OwnPs wx (w.heap.size + 2) v e.disk) lx a wx ∧ (Sl2 2 5 5 8 (fun v u wx => TwoPs wx (w.heap.size + 2) v u e.disk e.mem) lx a wx ∧ Sl 8 11 (fun v wx => OwnRs wx (w.heap.size + 2) v e.log) lx a wx))) 14 rfl (by kernel_rfl) (⟨⟨below_drew HB2.out, by have := HZ2.out; show _ ≤ w2.heap.size; omega, HQ2.out.up (below_drew (Below.refl _ _)), HP2.out.up (below_drew (Below.refl _ _))⟩, sl_start, sl2_start, sl_start⟩) (fun HT => ?_)
  refine reg_val (i := 0) (v := ?_) HT rfl (by kernel_rfl) rfl (keeps_and keeps_world (keeps_and (keeps_sl rfl rfl) (keeps_and (keeps_sl2 rfl rfl rfl rfl) (keeps_sl rfl rfl)))) (by rfl) (fun _ _ _ h => h) (fun lx ax wx hS => ?_) ?_; rotate_left; (obtain ⟨⟨-, -, hq, -⟩, -⟩ := hS; have x0 := hq.c0; have x1 := hq.c1; have x2 := hq.c2; have x3 := hq.c3; have x4 := hq.c4; clear hq; go_simp; with_reducible rfl); rotate_left; simp only [List.set_cons_zero, List.set_cons_succ]
  refine reg_val (i := 1) (v := ?_) HT rfl (by kernel_rfl) rfl (keeps_and keeps_world (keeps_and (keeps_sl rfl rfl) (keeps_and (keeps_sl2 rfl rfl rfl rfl) (keeps_sl rfl rfl)))) (by rfl) (fun _ _ _ h => h) (fun lx ax wx hS => ?_) ?_; rotate_left; (obtain ⟨⟨-, -, hq, -⟩, -⟩ := hS; have x0 := hq.c0; have x1 := hq.c1; have x2 := hq.c2; have x3 := hq.c3; have x4 := hq.c4; clear hq; go_simp; with_reducible rfl); rotate_left; simp only [List.set_cons_zero, List.set_cons_succ]
  refine reg_val (i := 3) (v := ?_) HT rfl (by kernel_rfl) rfl (keeps_and keeps_world (keeps_and (keeps_sl rfl rfl) (keeps_and (keeps_sl2 rfl rfl rfl rfl) (keeps_sl rfl rfl)))) (by rfl) (fun _ _ _ h => h) (fun lx ax wx hS => ?_) ?_; rotate_left; (obtain ⟨⟨-, -, hq, -⟩, -⟩ := hS; have x0 := hq.c0; have x1 := hq.c1; have x2 := hq.c2; have x3 := hq.c3; have x4 := hq.c4; clear hq; go_simp; with_reducible rfl); rotate_left; simp only [List.set_cons_zero, List.set_cons_succ]
  refine reg_val (i := 4) (v := ?_) HT rfl (by kernel_rfl) rfl (keeps_and keeps_world (keeps_and (keeps_sl rfl rfl) (keeps_and (keeps_sl2 rfl rfl rfl rfl) (keeps_sl rfl rfl)))) (by rfl) (fun _ _ _ h => h) (fun lx ax wx hS => ?_) ?_; rotate_left; (obtain ⟨⟨-, -, hq, -⟩, -⟩ := hS; have x0 := hq.c0; have x1 := hq.c1; have x2 := hq.c2; have x3 := hq.c3; have x4 := hq.c4; clear hq; go_simp; with_reducible rfl); rotate_left; simp only [List.set_cons_zero, List.set_cons_succ]
  refine reg_val (i := 6) (v := ?_) HT rfl (by kernel_rfl) rfl (keeps_and keeps_world (keeps_and (keeps_sl rfl rfl) (keeps_and (keeps_sl2 rfl rfl rfl rfl) (keeps_sl rfl rfl)))) (by rfl) (fun _ _ _ h => h) (fun lx ax wx hS => ?_) ?_; rotate_left; (obtain ⟨⟨-, -, hq, -⟩, -⟩ := hS; have x0 := hq.c0; have x1 := hq.c1; have x2 := hq.c2; have x3 := hq.c3; have x4 := hq.c4; clear hq; go_simp; with_reducible rfl); rotate_left; simp only [List.set_cons_zero, List.set_cons_succ]
  refine reg_val (i := 7) (v := ?_) HT rfl (by kernel_rfl) rfl (keeps_and keeps_world (keeps_and (keeps_sl rfl rfl) (keeps_and (keeps_sl2 rfl rfl rfl rfl) (keeps_sl rfl rfl)))) (by rfl) (fun _ _ _ h => h) (fun lx ax wx hS => ?_) ?_; rotate_left; (obtain ⟨⟨-, -, hq, -⟩, -⟩ := hS; have x0 := hq.c0; have x1 := hq.c1; have x2 := hq.c2; have x3 := hq.c3; have x4 := hq.c4; clear hq; go_simp; with_reducible rfl); rotate_left; simp only [List.set_cons_zero, List.set_cons_succ]
  refine reg_val (i := 9) (v := ?_) HT rfl (by kernel_rfl) rfl (keeps_and keeps_world (keeps_and (keeps_sl rfl rfl) (keeps_and (keeps_sl2 rfl rfl rfl rfl) (keeps_sl rfl rfl)))) (by rfl) (fun _ _ _ h => h) (fun lx ax wx hS => ?_) ?_; rotate_left; (obtain ⟨⟨-, -, hq, -⟩, -⟩ := hS; have x0 := hq.c0; have x1 := hq.c1; have x2 := hq.c2; have x3 := hq.c3; have x4 := hq.c4; clear hq; go_simp; with_reducible rfl); rotate_left; simp only [List.set_cons_zero, List.set_cons_succ]
  refine reg_val (i := 10) (v := ?_) HT rfl (by kernel_rfl) rfl (keeps_and keeps_world (keeps_and (keeps_sl rfl rfl) (keeps_and (keeps_sl2 rfl rfl rfl rfl) (keeps_sl rfl rfl)))) (by rfl) (fun _ _ _ h => h) (fun lx ax wx hS => ?_) ?_; rotate_left; (obtain ⟨⟨-, -, hq, -⟩, -⟩ := hS; have x0 := hq.c0; have x1 := hq.c1; have x2 := hq.c2; have x3 := hq.c3; have x4 := hq.c4; clear hq; go_simp; with_reducible rfl); rotate_left; simp only [List.set_cons_zero, List.set_cons_succ]
  refine reg_val (i := 11) (v := ?_) HT rfl (by kernel_rfl) rfl (keeps_and keeps_world (keeps_and (keeps_sl rfl rfl) (keeps_and (keeps_sl2 rfl rfl rfl rfl) (keeps_sl rfl rfl)))) (by rfl) (fun _ _ _ h => h) (fun lx ax wx hS => ?_) ?_; rotate_left; (obtain ⟨⟨-, -, hq, -⟩, -⟩ := hS; have x0 := hq.c0; have x1 := hq.c1; have x2 := hq.c2; have x3 := hq.c3; have x4 := hq.c4; clear hq; go_simp; with_reducible rfl); rotate_left; simp only [List.set_cons_zero, List.set_cons_succ]
  refine reg_val (i := 12) (v := ?_) HT rfl (by kernel_rfl) rfl (keeps_and keeps_world (keeps_and (keeps_sl rfl rfl) (keeps_and (keeps_sl2 rfl rfl rfl rfl) (keeps_sl rfl rfl)))) (by rfl) (fun _ _ _ h => h) (fun lx ax wx hS => ?_) ?_; rotate_left; (obtain ⟨⟨-, -, hq, -⟩, -⟩ := hS; have x0 := hq.c0; have x1 := hq.c1; have x2 := hq.c2; have x3 := hq.c3; have x4 := hq.c4; clear hq; go_simp; with_reducible rfl); rotate_left; simp only [List.set_cons_zero, List.set_cons_succ]
  refine reg_only (i := 2) (f := 40) (args := #[.slice Ad e.disk.length cd]) (fun v => ∃ A1 c1, v = .slice A1 e.disk.length c1) rfl (by kernel_rfl) rfl Tryz.func40 (by kernel_rfl) rfl rfl (by rfl) (by simp only [List.map_toArray, List.map_cons, List.map_nil]; rfl) (fun wx hS => (copies_calls (geo_few HD.out) (by have := HD.out.1; omega) hS.1.1 HR.out.d).mono (by rintro x w6 ⟨v, rfl, ho, hb⟩; obtain ⟨A1, c1, rfl, -, -⟩ := Kd.S_reads ho; exact ⟨_, rfl, ⟨A1, c1, rfl⟩, ⟨bel_then hS.1.1 hb, Nat.le_trans hS.1.2.1 hb.size, hS.1.2.2.1.up hb, hS.1.2.2.2.up hb⟩, fun _ => Kd.S_lower ho hS.1.2.1, fun _ h => (no_yes h (by kernel_rfl)).elim, fun h => (no_yes h (by kernel_rfl)).elim⟩)) (fun vx hg => ?_); simp only [List.set_cons_zero, List.set_cons_succ]
  obtain ⟨Bd, dd, rfl⟩ := hg
  refine reg_only (i := 5) (f := 40) (args := #[.slice Am e.mem.length cm]) (fun v => ∃ A1 c1, v = .slice A1 e.mem.length c1) rfl (by kernel_rfl) rfl Tryz.func40 (by kernel_rfl) rfl rfl (by rfl) (by simp only [List.map_toArray, List.map_cons, List.map_nil]; rfl) (fun wx hS => (copies_calls (geo_few HM.out) (by have := HM.out.1; omega) hS.1.1 HR.out.m).mono (by rintro x w6 ⟨v, rfl, ho, hb⟩; obtain ⟨A1, c1, rfl, -, -⟩ := Kd.S_reads ho; exact ⟨_, rfl, ⟨A1, c1, rfl⟩, ⟨bel_then hS.1.1 hb, Nat.le_trans hS.1.2.1 hb.size, hS.1.2.2.1.up hb, hS.1.2.2.2.up hb⟩, fun _ => Kd.S_below (hS.2.1 (by kernel_rfl)) hb, fun _ _ => TwoPs.mk (hS.2.1 (by kernel_rfl)) ho hb hS.1.2.1, fun h => (no_yes h (by kernel_rfl)).elim⟩)) (fun vx hg => ?_); simp only [List.set_cons_zero, List.set_cons_succ]
  obtain ⟨Bm, dm, rfl⟩ := hg
  refine reg_only (i := 8) (f := 41) (args := #[.slice Al e.log.length cl]) (fun v => ∃ A1 c1, v = .slice A1 e.log.length c1) rfl (by kernel_rfl) rfl Tryz.func41 (by kernel_rfl) rfl rfl (by rfl) (by simp only [List.map_toArray, List.map_cons, List.map_nil]; rfl) (fun wx hS => (cloneR_calls HL.out hS.1.1 HR.out.l).mono (by rintro x w6 ⟨v, rfl, ho, hb⟩; obtain ⟨A1, c1, rfl, -, -⟩ := Kd.R_reads ho; exact ⟨_, rfl, ⟨A1, c1, rfl⟩, ⟨bel_then hS.1.1 hb, Nat.le_trans hS.1.2.1 hb.size, hS.1.2.2.1.up hb, hS.1.2.2.2.up hb⟩, fun _ => Kd.S_below (hS.2.1 (by kernel_rfl)) hb, fun _ _ => (hS.2.2.1 (by kernel_rfl) (by kernel_rfl)).below hb, fun _ => Kd.R_lower ho hS.1.2.1⟩)) (fun vx hg => ?_); simp only [List.set_cons_zero, List.set_cons_succ]
  obtain ⟨Bl, dl, rfl⟩ := hg
  refine reg_val (i := 13) (v := ?_) HT rfl (by kernel_rfl) rfl (keeps_and keeps_world (keeps_and (keeps_sl rfl rfl) (keeps_and (keeps_sl2 rfl rfl rfl rfl) (keeps_sl rfl rfl)))) (by rfl) (fun _ _ _ h => h) (fun lx ax wx hS => ?_) ?_; rotate_left; (go_simp; with_reducible rfl); rotate_left; simp only [List.set_cons_zero, List.set_cons_succ]
  refine reg_tail (i := 14) (by kernel_rfl) rfl (fun wx hS => ?_)
  obtain ⟨⟨h1, h2, -, hy⟩, -, hs2, hs3⟩ := hS
  have ho : OwnE wx (w.heap.size + 2) (.slice Bd e.disk.length dd) (.slice Bm e.mem.length dm) (.slice Bl e.log.length dl) e := TwoPs.eng (hs2 (by kernel_rfl) (by kernel_rfl)) (hs3 (by kernel_rfl))
  clear hs2 hs3
  have y0 := hy.c0
  have y1 := hy.c1
  have y2 := hy.c2
  have y3 := hy.c3
  have y4 := hy.c4
  have f0 := hy.frz 0
  have f1 := hy.frz 1
  have f2 := hy.frz 2
  have f3 := hy.frz 3
  have f4 := hy.frz 4
  refine wpOp_skip (w1 := Go.Proofs.YtlmlcnokiipilaaGreat.set5 wx (w.heap.size + 1) e (.slice Bd e.disk.length dd) (.slice Bm e.mem.length dm) (.slice Bl e.log.length dl)) rfl (by rfl) (by go_simp) ?_
  have hy2 := hy.set5 e (.slice Bd e.disk.length dd) (.slice Bm e.mem.length dm) (.slice Bl e.log.length dl)
  have ho2 := ho.set5 (f := e) (xd := .slice Bd e.disk.length dd) (xm := .slice Bm e.mem.length dm) (xl := .slice Bl e.log.length dl) hy
  have h3 := bel_set5 (g := w.heap.size + 1) h1 (by omega) e (.slice Bd e.disk.length dd) (.slice Bm e.mem.length dm) (.slice Bl e.log.length dl)
  have z0 := hy2.c0
  have z1 := hy2.c1
  have z2 := hy2.c2
  have z3 := hy2.c3
  have z4 := hy2.c4
  refine regAt_end (by kernel_rfl) ?_
  go_wp2
  exact bodyPost_ret (v := e.ag (.slice Bd e.disk.length dd) (.slice Bm e.mem.length dm) (.slice Bl e.log.length dl)) (by simp [results, Tryz.results53, go_sem, z0, z1, z2, z3, z4]) rfl ⟨_, _, _, rfl, ho2.lower (by omega), h3⟩
end Go.Proofs.YtlmlcnokiipilaaGreat

/- The program's RiseNeed, RiseFall. -/
namespace Go.Proofs.YtlmlcnokiipilaaGreat
open Go.RowKit Go.Proofs.YtlmlcnokiipilaaGreatW.PrintWords Go.Proofs.YtlmlcnokiipilaaGreatW.PrintLast Go.Proofs.YtlmlcnokiipilaaGreatW.PrintMore

set_option maxRecDepth 100000 in
set_option maxHeartbeats 4000000 in
theorem RiseNeed_calls {w0 w : World} {e : Eng} {Ad Am Al : Option Addr} {cd cm cl : Nat} (hcl : e.log.length ≤ cl) (hb : Below w0.heap.size w0 w) (hr : EngC w0 e Ad Am Al) : Calls Tryz.prog 12 #[e.val Ad Am Al cd cm cl] w fun x w' => x = .returned (.int .i64 (if eOk e = true then (need e.log : Int) else -1)) ∧ Below w.heap.size w w' := by
  have HR := Aside0.mk (hr.up hb)
  clear hr hb
  obtain ⟨w1, hw1⟩ : ∃ w1, w.alloc (e.obox (.slice Ad e.disk.length cd) (.slice Am e.mem.length cm) (.slice Al e.log.length cl)) = w1 := ⟨_, rfl⟩
  have HW1 := Aside0.mk hw1
  have HB1 : Aside0 (Below w.heap.size w w1) := ⟨by rw [← hw1]; exact bel_alloc (Below.refl _ _) _⟩
  have HQ1 : Aside0 (EgBox w1 w.heap.size e (.slice Ad e.disk.length cd) (.slice Am e.mem.length cm) (.slice Al e.log.length cl)) := ⟨by rw [← hw1]; exact EgBox.mk1 _ _ _ _ _⟩
  clear hw1
  have x2 := HQ1.out.c2
  cases hv : eOk e
  all_goals
    have HV := Aside0.mk hv
    clear hv
    go_enter Tryz.func12, Tryz.ntmps12
    go_wp2_with (first | (go_at_call 25; rw [HW1.out]; refine (EngineOk_calls (cd := cd) (cm := cm) HV.out hcl HB1.out HR.out).mono ?_; rintro x w2 ⟨rfl, hb2⟩; have HB2 := Aside0.mk (bel_then HB1.out hb2); replace x2 := bel_cell hb2 x2; clear hb2) | (go_at_call 35; refine (cost_calls (c := cl) HB2.out HR.out.l (okF_iff.1 HV.out).log).mono ?_; rintro x w3 ⟨rfl, hb3⟩; have HB3 := Aside0.mk (bel_then HB2.out hb3); clear hb3))
    go_ret
  · exact ⟨rfl, HB2.out⟩
  · exact ⟨rfl, HB3.out⟩
/-- A call that hands back an engine of its own, and a yes or no. -/
def RetEB (w : World) (e : Eng) (b : Bool) (x : Ending) (w' : World) : Prop := ∃ vd vm vl, x = .returned (.tuple #[e.ag vd vm vl, .bool b]) ∧ OwnE w' w.heap.size vd vm vl e ∧ Below w.heap.size w w'
theorem own_zE (w : World) (b : Nat) : OwnE w b (.slice none 0 0) (.slice none 0 0) (.slice none 0 0) zE := ⟨⟨fun _ => True, fun _ => False, fun _ _ h => h, Kd.S_nil _ _ _ _ _, Kd.S_nil _ _ _ _ _⟩, Kd.R_nil _ _ _ _ _⟩
/-- An engine's variable laid empty. -/
abbrev set5z (w : World) (g : Nat) : World := ((((w.setCell ⟨g, 0, none⟩ (.slice none 0 0)).setCell ⟨g, 1, none⟩ (.slice none 0 0)).setCell ⟨g, 2, none⟩ (.slice none 0 0)).setCell ⟨g, 3, none⟩ (.int .i64 0)).setCell ⟨g, 4, none⟩ (.bool false)
structure EmptyAt (w : World) (g : Nat) : Prop where
  c0 : w.cell? ⟨g, 0, none⟩ = some (.slice none 0 0)
  c1 : w.cell? ⟨g, 1, none⟩ = some (.slice none 0 0)
  c2 : w.cell? ⟨g, 2, none⟩ = some (.slice none 0 0)
  c3 : w.cell? ⟨g, 3, none⟩ = some (.int .i64 0)
  c4 : w.cell? ⟨g, 4, none⟩ = some (.bool false)
theorem EgBox.empty {w : World} {g : Nat} {q : Eng} {ud um ul : Value} (h : EgBox w g q ud um ul) : EmptyAt (set5z w g) g :=
  have hy := h.set5 zE (.slice none 0 0) (.slice none 0 0) (.slice none 0 0)
  ⟨hy.c0, hy.c1, hy.c2, hy.c3, hy.c4⟩
abbrev zEv : Value := .agg #[.slice none 0 0, .slice none 0 0, .slice none 0 0, .int .i64 0, .bool false]
def fallR (e : Eng) (left : Int) : Eng × Bool := if eOk e = true ∧ 0 ≤ left then (fallE e left, true) else (zE, false)
set_option maxRecDepth 100000 in
set_option maxHeartbeats 8000000 in
theorem RiseFall_calls {w0 w : World} {e : Eng} {Ad Am Al : Option Addr} {cd cm cl : Nat} (left : Int) (hcl : e.log.length ≤ cl) (hb : Below w0.heap.size w0 w) (hr : EngC w0 e Ad Am Al) : Calls Tryz.prog 15 #[e.val Ad Am Al cd cm cl, .int .i64 left] w (RetEB w (fallR e left).1 (fallR e left).2) := by
  have HR := Aside0.mk (hr.up hb)
  clear hr hb
  obtain ⟨w1, hw1⟩ : ∃ w1, w.alloc (e.obox (.slice Ad e.disk.length cd) (.slice Am e.mem.length cm) (.slice Al e.log.length cl)) = w1 := ⟨_, rfl⟩
  obtain ⟨w2, hw2⟩ : ∃ w2, w1.alloc (zE.obox (.slice none 0 0) (.slice none 0 0) (.slice none 0 0)) = w2 := ⟨_, rfl⟩
  have hz1 : w1.heap.size = w.heap.size + 1 := by rw [← hw1]; exact size1 _ _
  have hz2 : w2.heap.size = w.heap.size + 2 := by rw [← hw2, size1, hz1]
  have hb12 : Below w1.heap.size w1 w2 := by rw [← hw2]; exact bel_alloc (Below.refl _ _) _
  have HB2 : Aside0 (Below w.heap.size w w2) := ⟨by rw [← hw2, ← hw1]; exact bel_alloc (bel_alloc (Below.refl _ _) _) _⟩
  have HQ2 : Aside0 (EgBox w2 w.heap.size e (.slice Ad e.disk.length cd) (.slice Am e.mem.length cm) (.slice Al e.log.length cl)) := ⟨EgBox.up (by rw [← hw1]; exact EgBox.mk1 _ _ _ _ _) hb12⟩
  have HP2 : Aside0 (EgBox w2 (w.heap.size + 1) zE (.slice none 0 0) (.slice none 0 0) (.slice none 0 0)) := ⟨by rw [← hw2, ← hz1]; exact EgBox.mk1 _ _ _ _ _⟩
  have HW2 : Aside0 ((w.alloc (e.obox (.slice Ad e.disk.length cd) (.slice Am e.mem.length cm) (.slice Al e.log.length cl))).alloc (zE.obox (.slice none 0 0) (.slice none 0 0) (.slice none 0 0)) = w2) := ⟨by rw [hw1, hw2]⟩
  have HZ2 := Aside0.mk hz2
  clear hw1 hw2 hz1 hz2 hb12
  have x2 := HQ2.out.c2
  have x3 := HQ2.out.c3
  cases hv : eOk e
  · have HV := Aside0.mk hv
    have hE : fallR e left = (zE, false) := by rw [fallR, if_neg (by rw [hv]; simp)]
    rw [hE]
    clear hv hE
    go_enter Tryz.func15, Tryz.ntmps15
    go_wp2_with (go_at_call 25; rw [show (w.alloc (Obj.cells #[Value.slice Ad e.disk.length cd, Value.slice Am e.mem.length cm, Value.slice Al e.log.length cl, Value.int IntKind.i64 e.safe, Value.bool e.down] 31)).alloc (Obj.cells #[Value.slice none 0 0, Value.slice none 0 0, Value.slice none 0 0, Value.int IntKind.i64 0, Value.bool false] 31) = w2 from HW2.out]; refine (EngineOk_calls (cd := cd) (cm := cm) HV.out hcl HB2.out HR.out).mono ?_; rintro x w3 ⟨rfl, hb3⟩; have HB3 := Aside0.mk (bel_then HB2.out hb3); have HP3 := Aside0.mk (HP2.out.up hb3); have y0 := HP3.out.c0; have y1 := HP3.out.c1; have y2 := HP3.out.c2; have y3 := HP3.out.c3; have y4 := HP3.out.c4; have f0 := HP3.out.frz 0; have f1 := HP3.out.frz 1; have f2 := HP3.out.frz 2; have f3 := HP3.out.frz 3; have f4 := HP3.out.frz 4; clear hb3)
    obtain ⟨z0, z1, z2, z3, z4⟩ := HP3.out.empty
    exact bodyPost_ret (v := .tuple #[zEv, .bool false]) (by simp [results, Tryz.results15, go_sem, z0, z1, z2, z3, z4]) rfl ⟨_, _, _, rfl, own_zE _ _, bel_set5 (g := w.heap.size + 1) HB3.out (by omega) zE _ _ _⟩
  · have HV := Aside0.mk hv
    have HF := Aside0.mk (okF_iff.1 hv)
    clear hv
    rcases lts left 0 with ⟨e1, b1, c1⟩ | ⟨e1, b1, c1⟩
    · have hE : fallR e left = (zE, false) := by rw [fallR, if_neg (by have := e1.out; omega)]
      rw [hE]
      clear hE
      have hl0 := e1.out
      go_enter Tryz.func15, Tryz.ntmps15
      go_wp2_with (go_at_call 25; rw [show (w.alloc (Obj.cells #[Value.slice Ad e.disk.length cd, Value.slice Am e.mem.length cm, Value.slice Al e.log.length cl, Value.int IntKind.i64 e.safe, Value.bool e.down] 31)).alloc (Obj.cells #[Value.slice none 0 0, Value.slice none 0 0, Value.slice none 0 0, Value.int IntKind.i64 0, Value.bool false] 31) = w2 from HW2.out]; refine (EngineOk_calls (cd := cd) (cm := cm) HV.out hcl HB2.out HR.out).mono ?_; rintro x w3 ⟨rfl, hb3⟩; have HB3 := Aside0.mk (bel_then HB2.out hb3); have HP3 := Aside0.mk (HP2.out.up hb3); have y0 := HP3.out.c0; have y1 := HP3.out.c1; have y2 := HP3.out.c2; have y3 := HP3.out.c3; have y4 := HP3.out.c4; have f0 := HP3.out.frz 0; have f1 := HP3.out.frz 1; have f2 := HP3.out.frz 2; have f3 := HP3.out.frz 3; have f4 := HP3.out.frz 4; clear hb3)
      obtain ⟨z0, z1, z2, z3, z4⟩ := HP3.out.empty
      exact bodyPost_ret (v := .tuple #[zEv, .bool false]) (by simp [results, Tryz.results15, go_sem, z0, z1, z2, z3, z4]) rfl ⟨_, _, _, rfl, own_zE _ _, bel_set5 (g := w.heap.size + 1) HB3.out (by omega) zE _ _ _⟩
    · have hE : fallR e left = (fallE e left, true) := by rw [fallR, if_pos ⟨HV.out, e1.out⟩]
      rw [hE]
      clear hE
      have hl0 := e1.out
      go_enter Tryz.func15, Tryz.ntmps15
      go_wp2_with (go_at_call 25; rw [show (w.alloc (Obj.cells #[Value.slice Ad e.disk.length cd, Value.slice Am e.mem.length cm, Value.slice Al e.log.length cl, Value.int IntKind.i64 e.safe, Value.bool e.down] 31)).alloc (Obj.cells #[Value.slice none 0 0, Value.slice none 0 0, Value.slice none 0 0, Value.int IntKind.i64 0, Value.bool false] 31) = w2 from HW2.out]; refine (EngineOk_calls (cd := cd) (cm := cm) HV.out hcl HB2.out HR.out).mono ?_; rintro x w3 ⟨rfl, hb3⟩; have HB3 := Aside0.mk (bel_then HB2.out hb3); have HP3 := Aside0.mk (HP2.out.up hb3); have y0 := HP3.out.c0; have y1 := HP3.out.c1; have y2 := HP3.out.c2; have y3 := HP3.out.c3; have y4 := HP3.out.c4; have f0 := HP3.out.frz 0; have f1 := HP3.out.frz 1; have f2 := HP3.out.frz 2; have f3 := HP3.out.frz 3; have f4 := HP3.out.frz 4; replace x2 := bel_cell hb3 x2; replace x3 := bel_cell hb3 x3; have HX3 := Aside0.mk hb3; clear hb3)
      obtain ⟨n, hn⟩ : ∃ n : Nat, leftN e left = n := ⟨_, rfl⟩
      have hle := leftN_le (left := left) HF.out.s0 HF.out.s1
      rw [hn] at hle
      have hmax : max (min left (e.log.length : Int)) e.safe = (n : Int) := by rw [← hn]; unfold leftN; have := HF.out.s0; have := HF.out.s1; omega
      rw [hmax]
      have hncl : n ≤ cl := by omega
      have hl : (e.log.take n).length = n := by rw [List.length_take]; omega
      have HLn := Aside0.mk hl
      have HE := Aside0.mk (show fallE e left = ⟨e.disk, e.disk, e.log.take n, e.safe, true⟩ by rw [fallE, hn])
      have hgd := psOk_geo HF.out.disk
      have HGD := Aside0.mk hgd
      have hm150 := logOk_len HF.out.log
      have hclone : ∀ wx, Below w.heap.size w wx → Calls Tryz.prog 41 #[.slice Al n cl] wx (RetRs wx (e.log.take n)) := fun wx hb => by
        have h := cloneR_calls (c := cl) (by rw [hl]; omega) hb (take_C HR.out.l (by omega))
        rw [hl] at h
        exact h
      have x0 := HQ2.out.c0
      clear hgd hle hmax hl hn y0 y1 y2 y3 y4 f0 f1 f2 f3 f4
      refine reg_start (fun lx a wx => (Below w.heap.size w wx ∧ w.heap.size + 2 ≤ wx.heap.size ∧ EgBox wx w.heap.size e (.slice Ad e.disk.length cd) (.slice Am e.mem.length cm) (.slice Al e.log.length cl) ∧ EgBox wx (w.heap.size + 1) zE (.slice none 0 0) (.slice none 0 0) (.slice none 0 0)) ∧ (Sl 2 25 (fun v wx => OwnPs wx (w.heap.size + 2) v e.disk) lx a wx ∧ (Sl2 2 25 5 28 (fun v u wx => TwoPs wx (w.heap.size + 2) v u e.disk e.disk) lx a wx ∧ Sl 10 33 (fun v wx => OwnRs wx (w.heap.size + 2) v (e.log.take n)) lx a wx))) 14 rfl (by kernel_rfl) (⟨⟨below_drew HB3.out, by have := HZ2.out; have := HX3.out.size; show _ ≤ w3.heap.size; omega, HQ2.out.up (below_drew HX3.out), HP2.out.up (below_drew HX3.out)⟩, sl_start, sl2_start, sl_start⟩) (fun HT => ?_)
      refine reg_val (i := 0) (v := ?_) HT rfl (by kernel_rfl) rfl (keeps_and keeps_world (keeps_and (keeps_sl rfl rfl) (keeps_and (keeps_sl2 rfl rfl rfl rfl) (keeps_sl rfl rfl)))) (by rfl) (fun _ _ _ h => h) (fun lx ax wx hS => ?_) ?_; rotate_left; (obtain ⟨⟨-, -, hq, -⟩, -⟩ := hS; have x0 := hq.c0; have x1 := hq.c1; have x2 := hq.c2; have x3 := hq.c3; clear hq; go_simp; with_reducible rfl); rotate_left; simp only [List.set_cons_zero, List.set_cons_succ]
      refine reg_val (i := 1) (v := ?_) HT rfl (by kernel_rfl) rfl (keeps_and keeps_world (keeps_and (keeps_sl rfl rfl) (keeps_and (keeps_sl2 rfl rfl rfl rfl) (keeps_sl rfl rfl)))) (by rfl) (fun _ _ _ h => h) (fun lx ax wx hS => ?_) ?_; rotate_left; (obtain ⟨⟨-, -, hq, -⟩, -⟩ := hS; have x0 := hq.c0; have x1 := hq.c1; have x2 := hq.c2; have x3 := hq.c3; clear hq; go_simp; with_reducible rfl); rotate_left; simp only [List.set_cons_zero, List.set_cons_succ]
      refine reg_val (i := 3) (v := ?_) HT rfl (by kernel_rfl) rfl (keeps_and keeps_world (keeps_and (keeps_sl rfl rfl) (keeps_and (keeps_sl2 rfl rfl rfl rfl) (keeps_sl rfl rfl)))) (by rfl) (fun _ _ _ h => h) (fun lx ax wx hS => ?_) ?_; rotate_left; (obtain ⟨⟨-, -, hq, -⟩, -⟩ := hS; have x0 := hq.c0; have x1 := hq.c1; have x2 := hq.c2; have x3 := hq.c3; clear hq; go_simp; with_reducible rfl); rotate_left; simp only [List.set_cons_zero, List.set_cons_succ]
      refine reg_val (i := 4) (v := ?_) HT rfl (by kernel_rfl) rfl (keeps_and keeps_world (keeps_and (keeps_sl rfl rfl) (keeps_and (keeps_sl2 rfl rfl rfl rfl) (keeps_sl rfl rfl)))) (by rfl) (fun _ _ _ h => h) (fun lx ax wx hS => ?_) ?_; rotate_left; (obtain ⟨⟨-, -, hq, -⟩, -⟩ := hS; have x0 := hq.c0; have x1 := hq.c1; have x2 := hq.c2; have x3 := hq.c3; clear hq; go_simp; with_reducible rfl); rotate_left; simp only [List.set_cons_zero, List.set_cons_succ]
      refine reg_val (i := 6) (v := ?_) HT rfl (by kernel_rfl) rfl (keeps_and keeps_world (keeps_and (keeps_sl rfl rfl) (keeps_and (keeps_sl2 rfl rfl rfl rfl) (keeps_sl rfl rfl)))) (by rfl) (fun _ _ _ h => h) (fun lx ax wx hS => ?_) ?_; rotate_left; (obtain ⟨⟨-, -, hq, -⟩, -⟩ := hS; have x0 := hq.c0; have x1 := hq.c1; have x2 := hq.c2; have x3 := hq.c3; clear hq; go_simp; with_reducible rfl); rotate_left; simp only [List.set_cons_zero, List.set_cons_succ]
      refine reg_val (i := 7) (v := ?_) HT rfl (by kernel_rfl) rfl (keeps_and keeps_world (keeps_and (keeps_sl rfl rfl) (keeps_and (keeps_sl2 rfl rfl rfl rfl) (keeps_sl rfl rfl)))) (by rfl) (fun _ _ _ h => h) (fun lx ax wx hS => ?_) ?_; rotate_left; (obtain ⟨⟨-, -, hq, -⟩, -⟩ := hS; have x0 := hq.c0; have x1 := hq.c1; have x2 := hq.c2; have x3 := hq.c3; clear hq; go_simp; with_reducible rfl); rotate_left; simp only [List.set_cons_zero, List.set_cons_succ]
      refine reg_val (i := 8) (v := ?_) HT rfl (by kernel_rfl) rfl (keeps_and keeps_world (keeps_and (keeps_sl rfl rfl) (keeps_and (keeps_sl2 rfl rfl rfl rfl) (keeps_sl rfl rfl)))) (by rfl) (fun _ _ _ h => h) (fun lx ax wx hS => ?_) ?_; rotate_left; (obtain ⟨⟨-, -, hq, -⟩, -⟩ := hS; have x0 := hq.c0; have x1 := hq.c1; have x2 := hq.c2; have x3 := hq.c3; clear hq; go_simp; with_reducible rfl); rotate_left; simp only [List.set_cons_zero, List.set_cons_succ]
      refine reg_val (i := 9) (v := ?_) HT rfl (by kernel_rfl) rfl (keeps_and keeps_world (keeps_and (keeps_sl rfl rfl) (keeps_and (keeps_sl2 rfl rfl rfl rfl) (keeps_sl rfl rfl)))) (by rfl) (fun _ _ _ h => h) (fun lx ax wx hS => ?_) ?_; rotate_left; (obtain ⟨⟨-, -, hq, -⟩, -⟩ := hS; have x0 := hq.c0; have x1 := hq.c1; have x2 := hq.c2; have x3 := hq.c3; clear hq; go_simp; with_reducible rfl); rotate_left; simp only [List.set_cons_zero, List.set_cons_succ]
      refine reg_val (i := 11) (v := ?_) HT rfl (by kernel_rfl) rfl (keeps_and keeps_world (keeps_and (keeps_sl rfl rfl) (keeps_and (keeps_sl2 rfl rfl rfl rfl) (keeps_sl rfl rfl)))) (by rfl) (fun _ _ _ h => h) (fun lx ax wx hS => ?_) ?_; rotate_left; (obtain ⟨⟨-, -, hq, -⟩, -⟩ := hS; have x0 := hq.c0; have x1 := hq.c1; have x2 := hq.c2; have x3 := hq.c3; clear hq; go_simp; with_reducible rfl); rotate_left; simp only [List.set_cons_zero, List.set_cons_succ]
      refine reg_val (i := 12) (v := ?_) HT rfl (by kernel_rfl) rfl (keeps_and keeps_world (keeps_and (keeps_sl rfl rfl) (keeps_and (keeps_sl2 rfl rfl rfl rfl) (keeps_sl rfl rfl)))) (by rfl) (fun _ _ _ h => h) (fun lx ax wx hS => ?_) ?_; rotate_left; (obtain ⟨⟨-, -, hq, -⟩, -⟩ := hS; have x0 := hq.c0; have x1 := hq.c1; have x2 := hq.c2; have x3 := hq.c3; clear hq; go_simp; with_reducible rfl); rotate_left; simp only [List.set_cons_zero, List.set_cons_succ]
      refine reg_only (i := 2) (f := 40) (args := #[.slice Ad e.disk.length cd]) (fun v => ∃ A1 c1, v = .slice A1 e.disk.length c1) rfl (by kernel_rfl) rfl Tryz.func40 (by kernel_rfl) rfl rfl (by rfl) (by simp only [List.map_toArray, List.map_cons, List.map_nil]; rfl) (fun wx hS => (copies_calls (geo_few HGD.out) (by have := HGD.out.1; omega) hS.1.1 HR.out.d).mono (by rintro x w6 ⟨v, rfl, ho, hb⟩; obtain ⟨A1, c1, rfl, -, -⟩ := Kd.S_reads ho; exact ⟨_, rfl, ⟨A1, c1, rfl⟩, ⟨bel_then hS.1.1 hb, Nat.le_trans hS.1.2.1 hb.size, hS.1.2.2.1.up hb, hS.1.2.2.2.up hb⟩, fun _ => Kd.S_lower ho hS.1.2.1, fun _ h => (no_yes h (by kernel_rfl)).elim, fun h => (no_yes h (by kernel_rfl)).elim⟩)) (fun vx hg => ?_); simp only [List.set_cons_zero, List.set_cons_succ]
      obtain ⟨Bd, dd, rfl⟩ := hg
      refine reg_only (i := 5) (f := 40) (args := #[.slice Ad e.disk.length cd]) (fun v => ∃ A1 c1, v = .slice A1 e.disk.length c1) rfl (by kernel_rfl) rfl Tryz.func40 (by kernel_rfl) rfl rfl (by rfl) (by simp only [List.map_toArray, List.map_cons, List.map_nil]; rfl) (fun wx hS => (copies_calls (geo_few HGD.out) (by have := HGD.out.1; omega) hS.1.1 HR.out.d).mono (by rintro x w6 ⟨v, rfl, ho, hb⟩; obtain ⟨A1, c1, rfl, -, -⟩ := Kd.S_reads ho; exact ⟨_, rfl, ⟨A1, c1, rfl⟩, ⟨bel_then hS.1.1 hb, Nat.le_trans hS.1.2.1 hb.size, hS.1.2.2.1.up hb, hS.1.2.2.2.up hb⟩, fun _ => Kd.S_below (hS.2.1 (by kernel_rfl)) hb, fun _ _ => TwoPs.mk (hS.2.1 (by kernel_rfl)) ho hb hS.1.2.1, fun h => (no_yes h (by kernel_rfl)).elim⟩)) (fun vx hg => ?_); simp only [List.set_cons_zero, List.set_cons_succ]
      obtain ⟨Bm, dm, rfl⟩ := hg
      refine reg_only (i := 10) (f := 41) (args := #[.slice Al n cl]) (fun v => ∃ A1 c1, v = .slice A1 n c1) rfl (by kernel_rfl) rfl Tryz.func41 (by kernel_rfl) rfl rfl (by rfl) (by simp only [List.map_toArray, List.map_cons, List.map_nil]; rfl) (fun wx hS => (hclone wx hS.1.1).mono (by rintro x w6 ⟨v, rfl, ho, hb⟩; obtain ⟨A1, c1, rfl, -, -⟩ := Kd.R_reads ho; rw [HLn.out] at ho ⊢; exact ⟨_, rfl, ⟨A1, c1, rfl⟩, ⟨bel_then hS.1.1 hb, Nat.le_trans hS.1.2.1 hb.size, hS.1.2.2.1.up hb, hS.1.2.2.2.up hb⟩, fun _ => Kd.S_below (hS.2.1 (by kernel_rfl)) hb, fun _ _ => (hS.2.2.1 (by kernel_rfl) (by kernel_rfl)).below hb, fun _ => Kd.R_lower ho hS.1.2.1⟩)) (fun vx hg => ?_); simp only [List.set_cons_zero, List.set_cons_succ]
      obtain ⟨Bl, dl, rfl⟩ := hg
      refine reg_val (i := 13) (v := ?_) HT rfl (by kernel_rfl) rfl (keeps_and keeps_world (keeps_and (keeps_sl rfl rfl) (keeps_and (keeps_sl2 rfl rfl rfl rfl) (keeps_sl rfl rfl)))) (by rfl) (fun _ _ _ h => h) (fun lx ax wx hS => ?_) ?_; rotate_left; (go_simp; with_reducible rfl); rotate_left; simp only [List.set_cons_zero, List.set_cons_succ]
      refine reg_tail (i := 14) (by kernel_rfl) rfl (fun wx hS => ?_)
      obtain ⟨⟨h1, h2, -, hy⟩, -, hs2, hs3⟩ := hS
      obtain ⟨E, hEE⟩ : ∃ E : Eng, (⟨e.disk, e.disk, e.log.take n, e.safe, true⟩ : Eng) = E := ⟨_, rfl⟩
      have ho : OwnE wx (w.heap.size + 2) (.slice Bd e.disk.length dd) (.slice Bm e.disk.length dm) (.slice Bl n dl) E := by
        rw [← hEE]
        exact ⟨hs2 (by kernel_rfl) (by kernel_rfl), hs3 (by kernel_rfl)⟩
      have HEE := Aside0.mk hEE
      clear hs2 hs3 hEE
      have y0 := hy.c0
      have y1 := hy.c1
      have y2 := hy.c2
      have y3 := hy.c3
      have y4 := hy.c4
      have f0 := hy.frz 0
      have f1 := hy.frz 1
      have f2 := hy.frz 2
      have f3 := hy.frz 3
      have f4 := hy.frz 4
      refine wpOp_skip (w1 := Go.Proofs.YtlmlcnokiipilaaGreat.set5 wx (w.heap.size + 1) ⟨e.disk, e.disk, e.log.take n, e.safe, true⟩ (.slice Bd e.disk.length dd) (.slice Bm e.disk.length dm) (.slice Bl n dl)) rfl (by rfl) (by go_simp) ?_
      have hy2 := hy.set5 ⟨e.disk, e.disk, e.log.take n, e.safe, true⟩ (.slice Bd e.disk.length dd) (.slice Bm e.disk.length dm) (.slice Bl n dl)
      have ho2 := ho.set5 (f := ⟨e.disk, e.disk, e.log.take n, e.safe, true⟩) (xd := .slice Bd e.disk.length dd) (xm := .slice Bm e.disk.length dm) (xl := .slice Bl n dl) hy
      have h3 := bel_set5 (g := w.heap.size + 1) h1 (by omega) ⟨e.disk, e.disk, e.log.take n, e.safe, true⟩ (.slice Bd e.disk.length dd) (.slice Bm e.disk.length dm) (.slice Bl n dl)
      obtain ⟨W8, hW8⟩ : ∃ W8, Go.Proofs.YtlmlcnokiipilaaGreat.set5 wx (w.heap.size + 1) ⟨e.disk, e.disk, e.log.take n, e.safe, true⟩ (.slice Bd e.disk.length dd) (.slice Bm e.disk.length dm) (.slice Bl n dl) = W8 := ⟨_, rfl⟩
      rw [hW8] at hy2 ho2 h3 ⊢
      clear hW8
      have z0 := hy2.c0
      have z1 := hy2.c1
      have z2 := hy2.c2
      have z3 := hy2.c3
      have z4 := hy2.c4
      simp only at z0 z1 z2 z3 z4
      refine regAt_only (i := 15) (by kernel_rfl) ?_
      refine wpOp_valL (w1 := W8) (.bool true) rfl rfl (by rfl) (by go_simp) ?_
      refine regAt_end (by kernel_rfl) ?_
      go_wp2
      exact bodyPost_ret (v := .tuple #[.agg #[.slice Bd e.disk.length dd, .slice Bm e.disk.length dm, .slice Bl n dl, .int .i64 e.safe, .bool true], .bool true]) (by simp [results, Tryz.results15, go_sem, z0, z1, z2, z3, z4]) rfl ⟨_, _, _, by rw [HE.out], by rw [HE.out, HEE.out]; exact ho2.lower (by omega), h3⟩
end Go.Proofs.YtlmlcnokiipilaaGreat

/- The statements' measure of an engine that came in: their sz.. functions. -/
namespace Go.Proofs.YtlmlcnokiipilaaGreat
open Go.RowKit Go.Proofs.YtlmlcnokiipilaaGreatW.PrintWords Go.Proofs.YtlmlcnokiipilaaGreatW.PrintLast Go.Proofs.YtlmlcnokiipilaaGreatW.PrintMore

def szI (n : Nat) (left : Int) : Int := if left < n then -1 else left - n
def szPs : List Page → Int → Int
  | [], left => left
  | p :: ps, left => if szI p.vals.length left < 0 then -1 else szPs ps (szI p.vals.length left)
def szP (ps : List Page) (left : Int) : Int := if szI ps.length left < 0 then -1 else szPs ps (szI ps.length left)
def szE (e : Eng) (left : Int) : Int := if szP e.disk left < 0 then -1 else if szP e.mem (szP e.disk left) < 0 then -1 else szI e.log.length (szP e.mem (szP e.disk left))
theorem szI_le {n : Nat} {left : Int} (h : 0 ≤ szI n left) : (n : Int) ≤ left ∧ szI n left ≤ left := by
  unfold szI at *
  split at h <;> omega
theorem szI_up {n : Nat} {left : Int} (h : 0 ≤ left) : -1 ≤ szI n left ∧ szI n left ≤ left := by
  unfold szI
  split <;> omega
theorem szPs_up : ∀ (ps : List Page) (left : Int), 0 ≤ left → -1 ≤ szPs ps left ∧ szPs ps left ≤ left
  | [], left, h => ⟨by simp only [szPs]; omega, Int.le_refl _⟩
  | p :: ps, left, h => by
    have h1 := szI_up (n := p.vals.length) h
    unfold szPs
    split
    · omega
    · have := szPs_up ps (szI p.vals.length left) (by omega)
      omega
theorem szP_up (ps : List Page) (left : Int) (h : 0 ≤ left) : -1 ≤ szP ps left ∧ szP ps left ≤ left := by
  have h1 := szI_up (n := ps.length) h
  unfold szP
  split
  · omega
  · have := szPs_up ps (szI ps.length left) (by omega)
    omega
theorem szPs_few : ∀ (ps : List Page) (left : Int), 0 ≤ szPs ps left → ∀ p ∈ ps, (p.vals.length : Int) ≤ left
  | [], left, h => by simp
  | p :: ps, left, h => by
    unfold szPs at h
    split at h
    · omega
    · rename_i h0
      have h1 := szI_le (n := p.vals.length) (left := left) (by omega)
      intro q hq
      rcases List.mem_cons.1 hq with rfl | hq
      · exact h1.1
      · have := szPs_few ps _ h q hq
        omega
theorem szP_few (ps : List Page) (left : Int) (h : 0 ≤ szP ps left) : (ps.length : Int) ≤ left ∧ ∀ p ∈ ps, (p.vals.length : Int) ≤ left := by
  unfold szP at h
  split at h
  · omega
  · rename_i h0
    have h1 := szI_le (n := ps.length) (left := left) (by omega)
    exact ⟨h1.1, fun p hp => by have := szPs_few ps _ h p hp; omega⟩
theorem szE_few (e : Eng) (left : Int) (h0 : 0 ≤ left) (h : 0 ≤ szE e left) : ((e.disk.length : Int) ≤ left ∧ ∀ p ∈ e.disk, (p.vals.length : Int) ≤ left) ∧ ((e.mem.length : Int) ≤ left ∧ ∀ p ∈ e.mem, (p.vals.length : Int) ≤ left) ∧ (e.log.length : Int) ≤ left := by
  unfold szE at h
  split at h
  · omega
  · split at h
    · omega
    · have h1 := szP_up e.disk left h0
      have h2 := szP_up e.mem (szP e.disk left) (by omega)
      have h3 := szP_few e.disk left (by omega)
      have h4 := szP_few e.mem (szP e.disk left) (by omega)
      have h5 := szI_le h
      exact ⟨h3, ⟨by omega, fun p hp => by have := h4.2 p hp; omega⟩, by omega⟩
theorem szPs_step {xs : List Page} {k : Nat} (hk : k < xs.length) (x : Int) : szPs (xs.drop k) x = if szI (pg xs k).vals.length x < 0 then -1 else szPs (xs.drop (k + 1)) (szI (pg xs k).vals.length x) := by
  rw [pg_drop hk, szPs]
theorem szIntS_calls (A : Option Addr) (c n : Nat) (left : Int) (w : World) (h0 : 0 ≤ left) (h1 : left ≤ 1048576) (hn : n ≤ 9223372036854775807) : Calls Tryz.prog 124 #[.slice A n c, .int .i64 left] w fun e w' => e = .returned (.int .i64 (szI n left)) ∧ w' = w := by
  have hwr : IntKind.i64.wrap (left - (n : Int)) = left - (n : Int) := by simp (disch := omega) only [IntWalk.i64_in]
  have HV : Aside0 (left < n ∨ ¬ left < n) := ⟨by omega⟩
  obtain ⟨v, hv⟩ : ∃ v, szI n left = v := ⟨_, rfl⟩
  rcases lts (left - (n : Int)) 0 with ⟨e1, b1, c1⟩ | ⟨e1, b1, c1⟩
  · have hz := Aside0.mk (show szI n left = -1 by have := e1.out; rw [szI, if_pos (by omega)])
    clear hv
    go_enter Tryz.func124, Tryz.ntmps124
    go_wp2
    go_ret
    exact ⟨ret_int hz.out.symm, rfl⟩
  · have hz := Aside0.mk (show szI n left = left - n by have := e1.out; rw [szI, if_neg (by omega)])
    clear hv
    go_enter Tryz.func124, Tryz.ntmps124
    go_wp2
    go_ret
    exact ⟨ret_int hz.out.symm, rfl⟩
theorem szRecS_calls (A : Option Addr) (c n : Nat) (left : Int) (w : World) (h0 : 0 ≤ left) (h1 : left ≤ 1048576) (hn : n ≤ 9223372036854775807) : Calls Tryz.prog 30 #[.slice A n c, .int .i64 left] w fun e w' => e = .returned (.int .i64 (szI n left)) ∧ w' = w := by
  have hwr : IntKind.i64.wrap (left - (n : Int)) = left - (n : Int) := by simp (disch := omega) only [IntWalk.i64_in]
  rcases lts (left - (n : Int)) 0 with ⟨e1, b1, c1⟩ | ⟨e1, b1, c1⟩
  · have hz := Aside0.mk (show szI n left = -1 by have := e1.out; rw [szI, if_pos (by omega)])
    go_enter Tryz.func30, Tryz.ntmps30
    go_wp2
    go_ret
    exact ⟨ret_int hz.out.symm, rfl⟩
  · have hz := Aside0.mk (show szI n left = left - n by have := e1.out; rw [szI, if_neg (by omega)])
    go_enter Tryz.func30, Tryz.ntmps30
    go_wp2
    go_ret
    exact ⟨ret_int hz.out.symm, rfl⟩
theorem szPage_calls (A : Option Addr) (c : Nat) (p : Page) (left : Int) (w : World) (h0 : 0 ≤ left) (h1 : left ≤ 1048576) (hn : p.vals.length ≤ 9223372036854775807) : Calls Tryz.prog 67 #[p.val A c, .int .i64 left] w fun e w' => e = .returned (.int .i64 (szI p.vals.length left)) ∧ Below w.heap.size w w' := by
  obtain ⟨v, hv⟩ : ∃ v, szI p.vals.length left = v := ⟨_, rfl⟩
  have hu := szI_up (n := p.vals.length) h0
  rw [hv] at hu ⊢
  have HV := Aside0.mk hv
  have HN := Aside0.mk hn
  have H0 := Aside0.mk h0
  have H1 := Aside0.mk h1
  clear hv hn h0 h1
  rcases lts v 0 with ⟨e1, b1, c1⟩ | ⟨e1, b1, c1⟩
  · have hz := Aside0.mk (show v = -1 by have := e1.out; omega)
    clear hu
    go_enter Tryz.func67, Tryz.ntmps67
    go_wp2_with (go_at_call 124; refine (szIntS_calls _ _ _ _ _ H0.out H1.out HN.out).mono ?_; rw [HV.out]; rintro x w1 ⟨rfl, rfl⟩)
    go_ret
    exact ⟨ret_int hz.out.symm, bel_alloc (Below.refl _ _) _⟩
  · clear hu
    go_enter Tryz.func67, Tryz.ntmps67
    go_wp2_with (go_at_call 124; refine (szIntS_calls _ _ _ _ _ H0.out H1.out HN.out).mono ?_; rw [HV.out]; rintro x w1 ⟨rfl, rfl⟩)
    go_ret
    exact ⟨rfl, bel_alloc (Below.refl _ _) _⟩
set_option maxHeartbeats 4000000 in
theorem szPageS_calls {w0 w : World} {A : Option Addr} {c : Nat} {l : List Page} (left : Int) (h0 : 0 ≤ left) (h1 : left ≤ 1048576) (hb : Below w0.heap.size w0 w) (hr : Kd.C kPage w0 A l.length l) : Calls Tryz.prog 29 #[.slice A l.length c, .int .i64 left] w fun e w' => e = .returned (.int .i64 (szP l left)) ∧ Below w.heap.size w w' := by
  have HR := Aside0.mk (C_up hr hb)
  have hm := (C_len hr).2
  clear hr hb
  have hwr : IntKind.i64.wrap (left - (l.length : Int)) = left - (l.length : Int) := by simp (disch := omega) only [IntWalk.i64_in]
  rcases lts (left - (l.length : Int)) 0 with ⟨e1, b1, c1⟩ | ⟨e1, b1, c1⟩
  · have hz := Aside0.mk (show szP l left = -1 by have := e1.out; rw [szP, szI, if_pos (by omega)])
    go_enter Tryz.func29, Tryz.ntmps29
    go_wp2
    go_ret
    exact ⟨ret_int hz.out.symm, Below.refl _ _⟩
  · obtain ⟨v, hv⟩ : ∃ v, szP l left = v := ⟨_, rfl⟩
    rw [hv]
    have HV := Aside0.mk (show szPs l (left - l.length) = v by have := e1.out; rw [← hv, szP, szI, if_neg (by omega), if_neg (by omega)])
    have HL := Aside0.mk (show 0 ≤ left - (l.length : Int) ∧ left - (l.length : Int) ≤ 1048576 by have := e1.out; omega)
    clear hv
    go_enter Tryz.func29, Tryz.ntmps29
    go_wp2
    go_loopw [1, 5] (fun x i wr => ∃ (k : Nat) (y : Int), k ≤ l.length ∧ x = .int .i64 y ∧ i = .int .i64 (k : Int) ∧ Aside0 (0 ≤ y ∧ y ≤ 1048576) ∧ Aside0 (szPs (l.drop k) y = v) ∧ Aside0 (Below w.heap.size w wr)) (fun _ i _ => (l.length - intOf i).toNat)
    case atStart => exact ⟨0, _, Nat.zero_le _, rfl, rfl, HL, HV, ⟨Below.refl _ _⟩⟩
    case round =>
      obtain ⟨k, y, hk, rfl, rfl, HY, HK, HW⟩ := hrel
      by_cases hlt : k < l.length
      · obtain ⟨ad, A2, c2, rfl, QP, -, g2⟩ := at_page (C_up HR.out HW.out) k hlt
        obtain ⟨x0, x1, x2⟩ := QP
        have HG := Aside0.mk (C_len g2).2
        clear g2
        have HS := Aside0.mk (szPs_step hlt y)
        obtain ⟨z, hz⟩ : ∃ z, szI (pg l k).vals.length y = z := ⟨_, rfl⟩
        have hu := szI_up (n := (pg l k).vals.length) HY.out.1
        rw [hz] at hu
        have HU := Aside0.mk hu
        have HZ := Aside0.mk hz
        clear hu hz
        rcases lts z 0 with ⟨e2, b2, c2'⟩ | ⟨e2, b2, c2'⟩
        · have HE := Aside0.mk (show v = -1 by rw [← HK.out, HS.out, HZ.out, if_pos e2.out])
          go_wp2_with (go_at_call 67; refine (szPage_calls A2 c2 (pg l k) y wr HY.out.1 HY.out.2 HG.out).mono ?_; rw [HZ.out]; rintro x w1 ⟨rfl, hb1⟩; have HX := Aside0.mk (bel_then HW.out hb1); clear hb1)
          go_ret
          exact ⟨ret_int HE.out.symm, HX.out⟩
        · have HE := Aside0.mk (show szPs (l.drop (k + 1)) z = v by rw [← HK.out, HS.out, HZ.out, if_neg (by have := e2.out; omega)])
          go_wp2_with (go_at_call 67; refine (szPage_calls A2 c2 (pg l k) y wr HY.out.1 HY.out.2 HG.out).mono ?_; rw [HZ.out]; rintro x w1 ⟨rfl, hb1⟩; have HX := Aside0.mk (bel_then HW.out hb1); clear hb1)
          go_roundw
          case rel => exact ⟨k + 1, z, by omega, rfl, by go_num, ⟨by have := e2.out; have := HU.out; have := HY.out; omega⟩, HE, HX⟩
          case measure => simp [intOf]; omega
      · have hke := Aside0.mk (show y = v by rw [← HK.out, show k = l.length by omega, List.drop_length]; rfl)
        go_wp2
        go_ret
        exact ⟨ret_int hke.out, HW.out⟩
def LgBox (w : World) (g : Nat) (e : Eng) (vd vm vl : Value) : Prop := w.heap[g]? = some (.cells #[vd, vm, vl, .int .i64 e.safe, .bool e.down] 25 (0, 0))
section
variable {w w1 : World} {g : Nat} {e : Eng} {vd vm vl : Value}
theorem LgBox.c0 (h : LgBox w g e vd vm vl) : w.cell? ⟨g, 0, none⟩ = some vd := by unfold LgBox at h; simp [World.cell?, h]
theorem LgBox.c1 (h : LgBox w g e vd vm vl) : w.cell? ⟨g, 1, none⟩ = some vm := by unfold LgBox at h; simp [World.cell?, h]
theorem LgBox.c2 (h : LgBox w g e vd vm vl) : w.cell? ⟨g, 2, none⟩ = some vl := by unfold LgBox at h; simp [World.cell?, h]
theorem LgBox.c3 (h : LgBox w g e vd vm vl) : w.cell? ⟨g, 3, none⟩ = some (.int .i64 e.safe) := by unfold LgBox at h; simp [World.cell?, h]
theorem LgBox.c4 (h : LgBox w g e vd vm vl) : w.cell? ⟨g, 4, none⟩ = some (.bool e.down) := by unfold LgBox at h; simp [World.cell?, h]
theorem LgBox.lt (h : LgBox w g e vd vm vl) : g < w.heap.size := (Array.getElem?_eq_some_iff.1 h).1
theorem LgBox.up (h : LgBox w g e vd vm vl) (hb : Below w.heap.size w w1) : LgBox w1 g e vd vm vl := (hb.block g h.lt).trans h
theorem LgBox.mk1 (w : World) (e : Eng) (vd vm vl : Value) : LgBox (w.alloc (.cells #[vd, vm, vl, .int .i64 e.safe, .bool e.down] 25)) w.heap.size e vd vm vl := by
  show (w.heap.push _)[w.heap.size]? = _
  simp
end
set_option maxHeartbeats 4000000 in
theorem szEngine_calls {w0 w : World} {e : Eng} {Ad Am Al : Option Addr} {cd cm cl : Nat} (left : Int) (h0 : 0 ≤ left) (h1 : left ≤ 1048576) (hb : Below w0.heap.size w0 w) (hr : EngC w0 e Ad Am Al) : Calls Tryz.prog 9 #[e.val Ad Am Al cd cm cl, .int .i64 left] w fun x w' => x = .returned (.int .i64 (szE e left)) ∧ Below w.heap.size w w' := by
  have HR := Aside0.mk (hr.up hb)
  have HL := Aside0.mk (C_len HR.out.l).2
  clear hr hb
  obtain ⟨w1, hw1⟩ : ∃ w1, w.alloc (.cells #[.slice Ad e.disk.length cd, .slice Am e.mem.length cm, .slice Al e.log.length cl, .int .i64 e.safe, .bool e.down] 25) = w1 := ⟨_, rfl⟩
  have HW1 := Aside0.mk hw1
  have HX : Aside0 (Below w.heap.size w w1) := ⟨by rw [← hw1]; exact bel_alloc (Below.refl _ _) _⟩
  have HQ1 : Aside0 (LgBox w1 w.heap.size e (.slice Ad e.disk.length cd) (.slice Am e.mem.length cm) (.slice Al e.log.length cl)) := ⟨by rw [← hw1]; exact LgBox.mk1 _ _ _ _ _⟩
  clear hw1
  have x0 := HQ1.out.c0
  have x1 := HQ1.out.c1
  have x2 := HQ1.out.c2
  obtain ⟨a, ha⟩ : ∃ a, szP e.disk left = a := ⟨_, rfl⟩
  obtain ⟨b, hb⟩ : ∃ b, szP e.mem a = b := ⟨_, rfl⟩
  obtain ⟨c, hc⟩ : ∃ c, szI e.log.length b = c := ⟨_, rfl⟩
  have ua := szP_up e.disk left h0
  rw [ha] at ua
  have HU := Aside0.mk ua
  have HA := Aside0.mk ha
  have HBb := Aside0.mk hb
  have HC := Aside0.mk hc
  have H0 := Aside0.mk h0
  have H1 := Aside0.mk h1
  clear ua ha hb hc h0 h1
  rcases lts a 0 with ⟨e1, b1, c1⟩ | ⟨e1, b1, c1⟩
  · have HE := Aside0.mk (show szE e left = -1 by rw [szE, HA.out, if_pos e1.out])
    go_enter Tryz.func9, Tryz.ntmps9
    go_wp2_with (first | (go_at_call 29; rw [HW1.out]; refine (szPageS_calls (c := cd) left H0.out H1.out HX.out HR.out.d).mono ?_; rw [HA.out]; rintro x w9 ⟨rfl, hb9⟩; have HX := Aside0.mk (bel_then HX.out hb9); replace x0 := bel_cell hb9 x0; replace x1 := bel_cell hb9 x1; replace x2 := bel_cell hb9 x2; clear hb9))
    go_ret
    exact ⟨ret_int HE.out.symm, HX.out⟩
  · have ub := szP_up e.mem a e1.out
    rw [HBb.out] at ub
    have HUB := Aside0.mk ub
    clear ub
    have HA2 := Aside0.mk (show a ≤ 1048576 by have := HU.out; have := H1.out; omega)
    rcases lts b 0 with ⟨e2, b2, c2⟩ | ⟨e2, b2, c2⟩
    · have HE := Aside0.mk (show szE e left = -1 by rw [szE, HA.out, if_neg (by have := e1.out; omega), HBb.out, if_pos e2.out])
      go_enter Tryz.func9, Tryz.ntmps9
      go_wp2_with (first | (go_at_call 29; rw [HW1.out]; refine (szPageS_calls (c := cd) left H0.out H1.out HX.out HR.out.d).mono ?_; rw [HA.out]; rintro x w9 ⟨rfl, hb9⟩; have HX := Aside0.mk (bel_then HX.out hb9); replace x0 := bel_cell hb9 x0; replace x1 := bel_cell hb9 x1; replace x2 := bel_cell hb9 x2; clear hb9) | (go_at_call 29; refine (szPageS_calls (c := cm) a e1.out HA2.out HX.out HR.out.m).mono ?_; rw [HBb.out]; rintro x w9 ⟨rfl, hb9⟩; have HX := Aside0.mk (bel_then HX.out hb9); replace x0 := bel_cell hb9 x0; replace x1 := bel_cell hb9 x1; replace x2 := bel_cell hb9 x2; clear hb9))
      go_ret
      exact ⟨ret_int HE.out.symm, HX.out⟩
    · have HB2 := Aside0.mk (show b ≤ 1048576 by have := HUB.out; have := HA2.out; omega)
      have HE := Aside0.mk (show szE e left = c by rw [szE, HA.out, if_neg (by have := e1.out; omega), HBb.out, if_neg (by have := e2.out; omega), HC.out])
      have uc := szI_up (n := e.log.length) e2.out
      rw [HC.out] at uc
      have HUC := Aside0.mk uc
      clear uc
      rcases lts c 0 with ⟨e3, b3, c3⟩ | ⟨e3, b3, c3⟩
      all_goals
        go_enter Tryz.func9, Tryz.ntmps9
        go_wp2_with (first | (go_at_call 29; rw [HW1.out]; refine (szPageS_calls (c := cd) left H0.out H1.out HX.out HR.out.d).mono ?_; rw [HA.out]; rintro x w9 ⟨rfl, hb9⟩; have HX := Aside0.mk (bel_then HX.out hb9); replace x0 := bel_cell hb9 x0; replace x1 := bel_cell hb9 x1; replace x2 := bel_cell hb9 x2; clear hb9) | (go_at_call 29; refine (szPageS_calls (c := cm) a e1.out HA2.out HX.out HR.out.m).mono ?_; rw [HBb.out]; rintro x w9 ⟨rfl, hb9⟩; have HX := Aside0.mk (bel_then HX.out hb9); replace x0 := bel_cell hb9 x0; replace x1 := bel_cell hb9 x1; replace x2 := bel_cell hb9 x2; clear hb9) | (go_at_call 30; refine (szRecS_calls _ _ _ b _ e2.out HB2.out HL.out).mono ?_; rw [HC.out]; rintro x w9 ⟨rfl, rfl⟩))
        go_ret
      · exact ⟨ret_int (by rw [HE.out]; have := e3.out; have := HUC.out; omega), HX.out⟩
      · exact ⟨ret_int HE.out.symm, HX.out⟩
end Go.Proofs.YtlmlcnokiipilaaGreat

/- The statements' copies of an engine that came in: their to.. functions. -/
namespace Go.Proofs.YtlmlcnokiipilaaGreat
open Go.RowKit Go.Proofs.YtlmlcnokiipilaaGreatW.PrintWords Go.Proofs.YtlmlcnokiipilaaGreatW.PrintLast Go.Proofs.YtlmlcnokiipilaaGreatW.PrintMore

theorem take_set {α : Type} {xs ys : List α} {k : Nat} {x : α} (h : ys.take k = xs.take k) (hl : ys.length = xs.length) (hk : xs[k]? = some x) : (ys.set k x).take (k + 1) = xs.take (k + 1) := by
  have hlt : k < xs.length := (List.getElem?_eq_some_iff.1 hk).1
  rw [List.take_add_one, List.take_add_one, hk, List.getElem?_set_self (by omega), List.take_set_of_le (Nat.le_refl _), h]
theorem iv_get {l : List Int} {k : Nat} (h : k < l.length) : l[k]? = some (iv l k) := by
  simp [iv, List.getD_eq_getElem?_getD, h]
theorem OwnI.form2 {w : World} {b : Nat} {v : Value} {xs : List Int} (h : OwnI w b v xs) (hp : 0 < xs.length) : ∃ g cap, v = .slice (some ⟨g, 0, none⟩) xs.length cap ∧ b ≤ g ∧ g < w.heap.size := by
  rcases OwnI.form h with ⟨-, h2⟩ | ⟨g, cap, cur, h1, h2, h3, -⟩
  · rw [h2] at hp
    simp at hp
  · exact ⟨g, cap, h1, h2, (Array.getElem?_eq_some_iff.1 h3).1⟩
theorem own_repl {w : World} {b n : Nat} {ok : Nat → Prop} {v : Value} (h : (Kd.int .i64).R 3 w b ok v (List.replicate (n : Int).toNat 0)) : OwnI w b v (List.replicate n 0) := Kd.own_of_R h
set_option maxRecDepth 100000 in
set_option maxHeartbeats 4000000 in
theorem toIntS_calls {w0 w : World} {A : Option Addr} {c : Nat} {xs : List Int} (hl : xs.length ≤ 1048576) (hb : Below w0.heap.size w0 w) (hr : Kd.C (Kd.int .i64) w0 A xs.length xs) : Calls Tryz.prog 132 #[.slice A xs.length c] w (RetI w xs) := by
  have HR := Aside0.mk (C_up hr hb)
  have HL := Aside0.mk hl
  clear hr hb
  go_enter Tryz.func132, Tryz.ntmps132
  go_wp2_with (at_make; refine Kd.R_make (Kd.int .i64) w.heap.size 3 rfl (N := 7) rfl 44 (.tmp 6) (.tmp 6) rfl (xs.length : Int) rfl rfl under_ints (.int .i64 0) 8 info_int rfl (by decide) (by decide) 0 (ok := fun _ => True) (okp := fun _ => False) ?hz (fun _ _ => trivial) trivial (by omega) (by have := HL.out; simp; omega) (Below.refl _ _) (Nat.le_refl _) ?hn; exact rfl; intro v w1 hv hb1 _ _; have HO := Aside0.mk (own_repl hv); have HB := Aside0.mk hb1; clear hv hb1)
  go_loopw [4] (fun i wr => ∃ (k : Nat) (ys : List Int), k ≤ xs.length ∧ i = .int .i64 (k : Int) ∧ Aside0 (OwnI wr w.heap.size v ys ∧ ys.length = xs.length ∧ ys.take k = xs.take k) ∧ Aside0 (Below w.heap.size w wr)) (fun i _ => (xs.length - intOf i).toNat)
  case atStart => exact ⟨0, _, Nat.zero_le _, rfl, ⟨HO.out, by simp, by simp⟩, HB⟩
  case round =>
    obtain ⟨k, ys, hk, rfl, HY, HW⟩ := hrel
    by_cases hlt : k < xs.length
    · obtain ⟨ad, rfl, g0⟩ := at_int (C_up HR.out HW.out) k hlt
      obtain ⟨g, cap, hv, hgb, hgl⟩ := HY.out.1.form2 (by rw [HY.out.2.1]; omega)
      rw [HY.out.2.1] at hv
      subst hv
      have HOg := Aside0.mk (show OwnI wr w.heap.size (.slice (some ⟨g, 0, none⟩) ys.length cap) ys by rw [HY.out.2.1]; exact HY.out.1)
      obtain ⟨p1, p2⟩ := HOg.out.at (k : Int) (by omega) (by rw [HY.out.2.1]; omega)
      rw [Int.toNat_natCast] at p1 p2
      have HGB := Aside0.mk hgb
      clear hgb hgl
      have HP := Aside0.mk (show OwnI (wr.setCell ⟨g, k, none⟩ (.int .i64 (iv xs k))) w.heap.size (.slice (some ⟨g, 0, none⟩) xs.length cap) (ys.set k (iv xs k)) by have := HOg.out.put (k : Int) (iv xs k); rw [Int.toNat_natCast, HY.out.2.1] at this; exact this)
      have HW2 := Aside0.mk (HW.out.setCell (p := ⟨g, k, none⟩) HGB.out (.int .i64 (iv xs k)))
      have HT := Aside0.mk (take_set HY.out.2.2 HY.out.2.1 (iv_get hlt))
      have HYL := Aside0.mk HY.out.2.1
      clear HOg HY
      go_wp2
      go_roundw
      case rel => exact ⟨k + 1, _, by omega, by go_num, ⟨HP.out, by rw [List.length_set, HYL.out], HT.out⟩, HW2⟩
      case measure => simp [intOf]; omega
    · have HE := Aside0.mk (show k = xs.length by omega)
      go_wp2
      go_ret
      have hy := HY.out
      rw [HE.out, List.take_length, List.take_of_length_le (by omega)] at hy
      exact ⟨_, rfl, by rw [← hy.2.2]; exact hy.1, HW.out⟩
set_option maxRecDepth 100000 in
set_option maxHeartbeats 4000000 in
theorem toPage_calls {w0 w : World} {A : Option Addr} {c : Nat} {p : Page} (hl : p.vals.length ≤ 1048576) (hb : Below w0.heap.size w0 w) (hr : Kd.C (Kd.int .i64) w0 A p.vals.length p.vals) : Calls Tryz.prog 79 #[p.val A c] w (RetP w p) := by
  have HR := Aside0.mk (C_up hr hb)
  have HL := Aside0.mk hl
  clear hr hb hl
  obtain ⟨W1, hW1⟩ : ∃ W1, w.alloc (.cells #[.int .i64 p.lsn, .int .i64 p.owner, .slice A p.vals.length c] 89) = W1 := ⟨_, rfl⟩
  obtain ⟨W2, hW2⟩ : ∃ W2, W1.alloc pageCell = W2 := ⟨_, rfl⟩
  obtain ⟨W3, hW3⟩ : ∃ W3, W2.alloc (.cells #[.int .i64 p.lsn, .int .i64 p.owner, .slice none 0 0] 49) = W3 := ⟨_, rfl⟩
  have Z1 : W1.heap.size = w.heap.size + 1 := by rw [← hW1, size1]
  have Z2 : W2.heap.size = w.heap.size + 1 + 1 := by rw [← hW2, size1, Z1]
  have Z3 : W3.heap.size = w.heap.size + 3 := by rw [← hW3, size1, Z2]
  have hP3 : PgBox W3 (w.heap.size + 1) zp (.slice none 0 0) := by
    have := PgBox.mk1 W1 zp (.slice none 0 0)
    rw [Z1] at this
    have h2 : PgBox W2 (w.heap.size + 1) zp (.slice none 0 0) := by rw [← hW2]; exact this
    rw [← hW3]
    exact h2.up (bel_alloc (Below.refl _ _) _)
  have hO3 : PgBox W3 (w.heap.size + 1 + 1) p (.slice none 0 0) := by
    have := PgBox.mk1 W2 p (.slice none 0 0)
    rw [Z2] at this
    rw [← hW3]
    exact this
  have hB3 : Below w.heap.size w W3 := by
    rw [← hW3, ← hW2, ← hW1]
    exact bel_alloc (bel_alloc (bel_alloc (Below.refl _ _) _) _) _
  have HW3 : Aside0 (((w.alloc (.cells #[.int .i64 p.lsn, .int .i64 p.owner, .slice A p.vals.length c] 89)).alloc pageCell).alloc (.cells #[.int .i64 p.lsn, .int .i64 p.owner, .slice none 0 0] 49) = W3) := ⟨by rw [hW1, hW2, hW3]⟩
  have HP3 := Aside0.mk hP3
  have HO3 := Aside0.mk hO3
  have HB3 := Aside0.mk hB3
  have HZ3 := Aside0.mk Z3
  clear hW1 hW2 hW3 Z1 Z2 Z3 hP3 hO3 hB3
  go_enter Tryz.func79, Tryz.ntmps79
  go_wp2_with (go_at_call 132; rw [HW3.out]; refine (toIntS_calls HL.out HB3.out HR.out).mono ?_; rintro e w4 ⟨v, rfl, ho, hb4⟩; obtain ⟨A1, c1, rfl, -, -⟩ := ho.reads; have HO := Aside0.mk ho; have HP4 := Aside0.mk (HP3.out.up hb4); have HO4 := Aside0.mk (HO3.out.up hb4); have HB4 := Aside0.mk (bel_then HB3.out hb4); have y0 := HP4.out.c0; have y1 := HP4.out.c1; have y2 := HP4.out.c2; have f0 := HP4.out.frz 0; have f1 := HP4.out.frz 1; have f2 := HP4.out.frz 2; have q0 := HO4.out.c0; have q1 := HO4.out.c1; have q2 := HO4.out.c2; have g2 := HO4.out.frz 2; clear ho hb4)
  have h1 := (HO.out.set (g := w.heap.size + 1 + 1) (by have := HZ3.out; omega) (.slice A1 p.vals.length c1) 2).set3 (g := w.heap.size + 1) (by have := HZ3.out; omega) p (.slice A1 p.vals.length c1)
  have h2 := bel_set3 (g := w.heap.size + 1) (HB4.out.setCell (p := ⟨w.heap.size + 1 + 1, 2, none⟩) (by simp; omega) (.slice A1 p.vals.length c1)) (by omega) p (.slice A1 p.vals.length c1)
  have hy := (HP4.out.far (h := w.heap.size + 1 + 1) (by omega) 2 (.slice A1 p.vals.length c1)).set3 p (.slice A1 p.vals.length c1)
  have z0 := hy.c0
  have z1 := hy.c1
  have z2 := hy.c2
  exact bodyPost_ret (v := p.own (.slice A1 p.vals.length c1)) (by simp [results, Tryz.results79, go_sem, z0, z1, z2]) rfl ⟨_, rfl, h1.lower (by have := HZ3.out; omega), h2⟩
theorem pg_get {l : List Page} {k : Nat} (h : k < l.length) : l[k]? = some (pg l k) := by
  simp [pg, List.getD_eq_getElem?_getD, h]
set_option maxRecDepth 100000 in
set_option maxHeartbeats 4000000 in
theorem toPageS_calls {w0 w : World} {A : Option Addr} {c : Nat} {xs : List Page} (hl : xs.length ≤ 1048576 ∧ ∀ p ∈ xs, p.vals.length ≤ 1048576) (hb : Below w0.heap.size w0 w) (hr : Kd.C kPage w0 A xs.length xs) : Calls Tryz.prog 33 #[.slice A xs.length c] w (RetPs w xs) := by
  have HR := Aside0.mk (C_up hr hb)
  have HL := Aside0.mk hl
  have hm := (C_len hr).2
  clear hr hb hl
  go_enter Tryz.func33, Tryz.ntmps33
  go_wp2_with (at_make; refine Kd.S_make kPage w.heap.size 49 rfl (N := 7) rfl 28 (.tmp 6) (.tmp 6) rfl (xs.length : Int) rfl rfl under_pages (.agg #[.int .i64 0, .int .i64 0, .slice none 0 0]) 40 info_page rfl (by decide) (by decide) zp (ok := fun _ => True) (okp := fun _ => False) ?hz (fun _ _ => trivial) trivial (by omega) (by have := HL.out.1; simp; omega) (Below.refl _ _) (Nat.le_refl _) ?hn; exact kPage_mkM _ _ _ zp (Kd.R_nil _ _ _ _ _); intro v w1 hv hb1 _ _; have HO := Aside0.mk hv; have HB := Aside0.mk hb1; clear hv hb1)
  go_loopw [4] (fun i wr => ∃ (k : Nat) (ys : List Page), k ≤ xs.length ∧ i = .int .i64 (k : Int) ∧ Aside0 (OwnPs wr w.heap.size v ys) ∧ Aside0 (ys.length = xs.length ∧ ys.take k = xs.take k) ∧ Aside0 (Below w.heap.size w wr)) (fun i _ => (xs.length - intOf i).toNat)
  case atStart => exact ⟨0, _, Nat.zero_le _, rfl, HO, ⟨by simp, by simp⟩, HB⟩
  case round =>
    obtain ⟨k, ys, hk, rfl, HO2, HY, HW⟩ := hrel
    by_cases hlt : k < xs.length
    · obtain ⟨ad, A2, c2, rfl, QP, -, g2⟩ := at_page (C_up HR.out HW.out) k hlt
      obtain ⟨x0, x1, x2⟩ := QP
      have HG := Aside0.mk g2
      have HF := Aside0.mk (HL.out.2 _ (List.mem_of_getElem? (pg_get hlt)))
      clear g2
      have ho := HO2.out
      obtain ⟨g, cap, hv, hgb, hgl⟩ := psS_form ho (by rw [HY.out.1]; omega)
      rw [HY.out.1] at hv
      subst hv
      have HT := Aside0.mk (take_set HY.out.2 HY.out.1 (pg_get hlt))
      have HYL := Aside0.mk HY.out.1
      clear hgb hgl ho HY
      go_wp2_with (first | (go_at_call 79; refine (toPage_calls HF.out (Below.refl _ wr) HG.out).mono ?_; rintro e w4 ⟨u, rfl, hu, hb4⟩; have HU := Aside0.mk hu; have HW4 := Aside0.mk hb4; clear hu hb4) | (with_reducible refine gate_ (.store 49 (.tmp 21) (.tmp 20)) rfl ?_; refine pages_storeS (ok := fun _ => True) (w0 := w) (N := wr.heap.size) (q := pg xs k) k HYL.out rfl rfl (.tmp 21) (.tmp 20) rfl rfl rfl HU.out HW.out.size (Kd.S_old HO2.out HW4.out) hlt (bel_then HW.out HW4.out) ?_; intro w9 hO9 hB9 hg9; have HO9 := Aside0.mk (Kd.S_mono (ok' := fun _ => True) hO9 (fun _ _ => trivial)); have HB9 := Aside0.mk hB9; clear hO9 hB9 hg9))
      go_roundw
      case rel => exact ⟨k + 1, _, by omega, by go_num, HO9, ⟨by rw [List.length_set, HYL.out], HT.out⟩, HB9⟩
      case measure => simp [intOf]; omega
    · have HE := Aside0.mk (show k = xs.length by omega)
      go_wp2
      go_ret
      have hy := HY.out
      rw [HE.out, List.take_length, List.take_of_length_le (by omega)] at hy
      exact ⟨_, rfl, by rw [← hy.2]; exact HO2.out, HW.out⟩
end Go.Proofs.YtlmlcnokiipilaaGreat

/- The statements' copies of an engine that came in: records, and the whole. -/
namespace Go.Proofs.YtlmlcnokiipilaaGreat
open Go.RowKit Go.Proofs.YtlmlcnokiipilaaGreatW.PrintWords Go.Proofs.YtlmlcnokiipilaaGreatW.PrintLast Go.Proofs.YtlmlcnokiipilaaGreatW.PrintMore

section
variable {ops : Array Oper} {rest : List Oper} {o : Oper} {a : Act} {Q : Exit → Act → World → Prop}
/-- out[i] = r, in a row of the call's own. -/
theorem recs_store {w0 W : World} {g n cap : Nat} {l : List Rec} {r : Rec} (i : Nat) (hn : l.length = n) (hN : o.dst = none) (hgd : o.guard = none) (s x : Operand) (ho : o.op = .store 56 s x)
    (haddr : a.eval s = .pointer (some ⟨g, i * 8, none⟩)) (hx : a.eval x = r.val) (HO : OwnRs W w0.heap.size (.slice (some ⟨g, 0, none⟩) n cap) l) (hi : i < n) (HB : Below w0.heap.size w0 W)
    (h : ∀ w1, OwnRs w1 w0.heap.size (.slice (some ⟨g, 0, none⟩) n cap) (l.set i r) → Below w0.heap.size w0 w1 → W.grownBy w1 (some g) → wpList Tryz.prog ops Q rest a w1) : wpList Tryz.prog ops Q (o :: rest) a W := by
  subst hn
  obtain ⟨c, hl, hM, hc, hf⟩ := Kd.R_elem HO r0 (i : Int) (by omega) (by omega)
  refine Kd.R_store kRec w0.heap.size hN hgd 56 s x ho _ (i : Int) 0 l r _ r.cells c (fun _ => True) (fun _ => False) haddr (by rw [Nat.add_zero]; rfl) hx rfl (by kernel_rfl) (by simp [Value.oneCell', Rec.cells]) HO (by omega) (by omega) hl hc (Nat.le_refl 8) ?_ (fun k hk => hk.elim) HB (fun w1 h1 h2 h3 => h w1 h1 h2 h3)
  have hl3 : c.length = 8 := hl
  rw [List.take_zero, List.nil_append, List.drop_of_length_le (by simp [hl3, Rec.cells]), List.append_nil]
  exact kRec_mk _ _ _ r
end
theorem rs_form {w : World} {b : Nat} {v : Value} {l : List Rec} (h : OwnRs w b v l) (hn : 0 < l.length) : ∃ g cap, v = .slice (some ⟨g, 0, none⟩) l.length cap ∧ b ≤ g ∧ g < w.heap.size := by
  obtain ⟨g, cap, h1, h2, h3, -⟩ := Kd.R_form h hn
  exact ⟨g, cap, h1, h2, h3⟩
set_option maxRecDepth 100000 in
set_option maxHeartbeats 4000000 in
theorem toRec_calls (r : Rec) (w : World) : Calls Tryz.prog 80 #[r.val] w fun e w' => e = .returned r.val ∧ Below w.heap.size w w' := by
  go_enter Tryz.func80, Tryz.ntmps80
  go_wp2
  exact bodyPost_ret (v := r.val) (by simp [results, Tryz.results80, go_sem, Rec.val]) rfl ⟨rfl, bel_alloc (bel_alloc (bel_alloc (Below.refl _ _) _) _) _⟩
theorem rc_get {l : List Rec} {k : Nat} (h : k < l.length) : l[k]? = some (rc l k) := by
  simp [rc, List.getD_eq_getElem?_getD, h]
set_option maxRecDepth 100000 in
set_option maxHeartbeats 4000000 in
theorem toRecS_calls {w0 w : World} {A : Option Addr} {c : Nat} {xs : List Rec} (hl : xs.length ≤ 1048576) (hb : Below w0.heap.size w0 w) (hr : Kd.C kRec w0 A xs.length xs) : Calls Tryz.prog 34 #[.slice A xs.length c] w (RetRs w xs) := by
  have HR := Aside0.mk (C_up hr hb)
  have HL := Aside0.mk hl
  have hm := (C_len hr).2
  clear hr hb hl
  go_enter Tryz.func34, Tryz.ntmps34
  go_wp2_with (at_make; refine Kd.R_make kRec w.heap.size 56 rfl (N := 7) rfl 29 (.tmp 6) (.tmp 6) rfl (xs.length : Int) rfl rfl under_recs (.agg #[.int .i64 0, .int .i64 0, .int .i64 0, .int .i64 0, .int .i64 0, .int .i64 0, .int .i64 0, .int .i64 0]) 64 info_rec rfl (by decide) (by decide) r0 (ok := fun _ => True) (okp := fun _ => False) ?hz (fun _ _ => trivial) trivial (by omega) (by have := HL.out; simp; omega) (Below.refl _ _) (Nat.le_refl _) ?hn; exact kRec_mk _ _ _ r0; intro v w1 hv hb1 _ _; have HO := Aside0.mk hv; have HB := Aside0.mk hb1; clear hv hb1)
  go_loopw [4] (fun i wr => ∃ (k : Nat) (ys : List Rec), k ≤ xs.length ∧ i = .int .i64 (k : Int) ∧ Aside0 (OwnRs wr w.heap.size v ys) ∧ Aside0 (ys.length = xs.length ∧ ys.take k = xs.take k) ∧ Aside0 (Below w.heap.size w wr)) (fun i _ => (xs.length - intOf i).toNat)
  case atStart => exact ⟨0, _, Nat.zero_le _, rfl, HO, ⟨by simp, by simp⟩, HB⟩
  case round =>
    obtain ⟨k, ys, hk, rfl, HO2, HY, HW⟩ := hrel
    by_cases hlt : k < xs.length
    · obtain ⟨ad, rfl, QR⟩ := at_rec (C_up HR.out HW.out) k hlt
      obtain ⟨x0, x1, x2, x3, x4, x5, x6, x7⟩ := QR
      have ho := HO2.out
      obtain ⟨g, cap, hv, hgb, hgl⟩ := rs_form ho (by rw [HY.out.1]; omega)
      rw [HY.out.1] at hv
      subst hv
      have HT := Aside0.mk (take_set HY.out.2 HY.out.1 (rc_get hlt))
      have HYL := Aside0.mk HY.out.1
      clear hgb hgl ho HY
      go_wp2_with (first | (go_at_call 80; refine (toRec_calls (rc xs k) wr).mono ?_; rintro e w4 ⟨rfl, hb4⟩; have HW4 := Aside0.mk hb4; clear hb4) | (with_reducible refine gate_ (.store 56 (.tmp 21) (.tmp 20)) rfl ?_; refine recs_store (w0 := w) (r := rc xs k) k HYL.out rfl rfl (.tmp 21) (.tmp 20) rfl rfl rfl (Kd.R_below HO2.out HW4.out) hlt (bel_then HW.out HW4.out) ?_; intro w9 hO9 hB9 hg9; have HO9 := Aside0.mk hO9; have HB9 := Aside0.mk hB9; clear hO9 hB9 hg9))
      go_roundw
      case rel => exact ⟨k + 1, _, by omega, by go_num, HO9, ⟨by rw [List.length_set, HYL.out], HT.out⟩, HB9⟩
      case measure => simp [intOf]; omega
    · have HE := Aside0.mk (show k = xs.length by omega)
      go_wp2
      go_ret
      have hy := HY.out
      rw [HE.out, List.take_length, List.take_of_length_le (by omega)] at hy
      exact ⟨_, rfl, by rw [← hy.2]; exact HO2.out, HW.out⟩
/-- Both tables' pages, of a call's own, apart. -/
def OwnDM (w : World) (b : Nat) (vd vm : Value) (ps qs : List Page) : Prop := ∃ okd okm : Nat → Prop, (∀ k, okd k → okm k → False) ∧ OwnPk w b okd vd ps ∧ OwnPk w b okm vm qs
theorem pk_egset {w : World} {b g : Nat} {ok : Nat → Prop} {v ud um ul : Value} {ps : List Page} {q : Eng} (h : OwnPk w b ok v ps) (hq : EgBox w g q ud um ul) (j : Nat) (u : Value) : OwnPk (w.setCell ⟨g, j, none⟩ u) b ok v ps :=
  Kd.S_set h hq (fun q hq => by rcases pk_kinds q hq with rfl | rfl <;> decide) j u
theorem OwnDM.set {w : World} {b g : Nat} {vd vm ud um ul : Value} {ps qs : List Page} {q : Eng} (h : OwnDM w b vd vm ps qs) (hq : EgBox w g q ud um ul) (j : Nat) (u : Value) : OwnDM (w.setCell ⟨g, j, none⟩ u) b vd vm ps qs := by
  obtain ⟨okd, okm, h1, h2, h3⟩ := h
  exact ⟨okd, okm, h1, pk_egset h2 hq j u, pk_egset h3 hq j u⟩
theorem OwnDM.below {w w1 : World} {b : Nat} {vd vm : Value} {ps qs : List Page} (h : OwnDM w b vd vm ps qs) (hb : Below w.heap.size w w1) : OwnDM w1 b vd vm ps qs := by
  obtain ⟨okd, okm, h1, h2, h3⟩ := h
  exact ⟨okd, okm, h1, Kd.S_below h2 hb, Kd.S_below h3 hb⟩
theorem OwnDM.mk2 {w5 w6 : World} {b : Nat} {vd vm : Value} {ps qs : List Page} (hd : OwnPs w5 b vd ps) (hm : OwnPs w6 w5.heap.size vm qs) (hb : Below w5.heap.size w5 w6) (hle : b ≤ w5.heap.size) : OwnDM w6 b vd vm ps qs :=
  ⟨fun k => True ∧ k < w5.heap.size, fun k => w5.heap.size ≤ k, fun k h1 h2 => by omega, Kd.S_old hd hb, Kd.S_lower (Kd.S_mono (Kd.S_bound hm) (fun k hk => hk.2.1)) hle⟩
theorem OwnE.setEg {w : World} {b g : Nat} {vd vm vl ud um ul : Value} {e q : Eng} (h : OwnE w b vd vm vl e) (hq : EgBox w g q ud um ul) (j : Nat) (u : Value) : OwnE (w.setCell ⟨g, j, none⟩ u) b vd vm vl e := h.set hq (by decide) (by decide) (by decide) j u
/-- No field of the whole is too great. -/
def fewE (e : Eng) : Prop := (e.disk.length ≤ 1048576 ∧ ∀ p ∈ e.disk, p.vals.length ≤ 1048576) ∧ (e.mem.length ≤ 1048576 ∧ ∀ p ∈ e.mem, p.vals.length ≤ 1048576) ∧ e.log.length ≤ 1048576
theorem few_of_sz {e : Eng} (h : 0 ≤ szE e 1048576) : fewE e := by
  obtain ⟨⟨h1, h2⟩, ⟨h3, h4⟩, h5⟩ := szE_few e 1048576 (by decide) h
  exact ⟨⟨by omega, fun p hp => by have := h2 p hp; omega⟩, ⟨by omega, fun p hp => by have := h4 p hp; omega⟩, by omega⟩
theorem LgBox.far {w : World} {g : Nat} {e : Eng} {vd vm vl : Value} (h : LgBox w g e vd vm vl) {b : Nat} (hne : b ≠ g) (j : Nat) (u : Value) : LgBox (w.setCell ⟨b, j, none⟩ u) g e vd vm vl := (Below.heap_setCell w ⟨b, j, none⟩ u g (Ne.symm hne)).trans h
set_option maxRecDepth 100000 in
set_option maxHeartbeats 8000000 in
theorem toEngine_calls {w0 w : World} {e : Eng} {Ad Am Al : Option Addr} {cd cm cl : Nat} (hl : fewE e) (hb : Below w0.heap.size w0 w) (hr : EngC w0 e Ad Am Al) : Calls Tryz.prog 11 #[e.val Ad Am Al cd cm cl] w (RetE w e) := by
  have HR := Aside0.mk (hr.up hb)
  have HL := Aside0.mk hl
  clear hr hb hl
  obtain ⟨W1, hW1⟩ : ∃ W1, w.alloc (.cells #[.slice Ad e.disk.length cd, .slice Am e.mem.length cm, .slice Al e.log.length cl, .int .i64 e.safe, .bool e.down] 25) = W1 := ⟨_, rfl⟩
  obtain ⟨W2, hW2⟩ : ∃ W2, W1.alloc (zE.obox (.slice none 0 0) (.slice none 0 0) (.slice none 0 0)) = W2 := ⟨_, rfl⟩
  obtain ⟨W3, hW3⟩ : ∃ W3, W2.alloc (zE.obox (.slice none 0 0) (.slice none 0 0) (.slice none 0 0)) = W3 := ⟨_, rfl⟩
  have Z1 : W1.heap.size = w.heap.size + 1 := by rw [← hW1, size1]
  have Z2 : W2.heap.size = w.heap.size + 1 + 1 := by rw [← hW2, size1, Z1]
  have Z3 : W3.heap.size = w.heap.size + 3 := by rw [← hW3, size1, Z2]
  have hI3 : LgBox W3 w.heap.size e (.slice Ad e.disk.length cd) (.slice Am e.mem.length cm) (.slice Al e.log.length cl) := by
    have h1 : LgBox W1 w.heap.size e (.slice Ad e.disk.length cd) (.slice Am e.mem.length cm) (.slice Al e.log.length cl) := by rw [← hW1]; exact LgBox.mk1 _ _ _ _ _
    rw [← hW3, ← hW2]
    exact h1.up (bel_alloc (bel_alloc (Below.refl _ _) _) _)
  have hP3 : EgBox W3 (w.heap.size + 1) zE (.slice none 0 0) (.slice none 0 0) (.slice none 0 0) := by
    have := EgBox.mk1 W1 zE (.slice none 0 0) (.slice none 0 0) (.slice none 0 0)
    rw [Z1] at this
    have h2 : EgBox W2 (w.heap.size + 1) zE (.slice none 0 0) (.slice none 0 0) (.slice none 0 0) := by rw [← hW2]; exact this
    rw [← hW3]
    exact h2.up (bel_alloc (Below.refl _ _) _)
  have hO3 : EgBox W3 (w.heap.size + 1 + 1) zE (.slice none 0 0) (.slice none 0 0) (.slice none 0 0) := by
    have := EgBox.mk1 W2 zE (.slice none 0 0) (.slice none 0 0) (.slice none 0 0)
    rw [Z2] at this
    rw [← hW3]
    exact this
  have hB3 : Below w.heap.size w W3 := by
    rw [← hW3, ← hW2, ← hW1]
    exact bel_alloc (bel_alloc (bel_alloc (Below.refl _ _) _) _) _
  have HW3 : Aside0 (((w.alloc (.cells #[.slice Ad e.disk.length cd, .slice Am e.mem.length cm, .slice Al e.log.length cl, .int .i64 e.safe, .bool e.down] 25)).alloc (zE.obox (.slice none 0 0) (.slice none 0 0) (.slice none 0 0))).alloc (zE.obox (.slice none 0 0) (.slice none 0 0) (.slice none 0 0)) = W3) := ⟨by rw [hW1, hW2, hW3]⟩
  have HI3 := Aside0.mk hI3
  have HP3 := Aside0.mk hP3
  have HO3 := Aside0.mk hO3
  have HB3 := Aside0.mk hB3
  have HZ3 := Aside0.mk Z3
  have i0 := hI3.c0
  clear hW1 hW2 hW3 Z1 Z2 Z3 hP3 hO3 hB3 hI3
  go_enter Tryz.func11, Tryz.ntmps11
  go_wp2_with (first
    | (go_at_call 33; rw [show (((w.alloc (.cells #[.slice Ad e.disk.length cd, .slice Am e.mem.length cm, .slice Al e.log.length cl, .int .i64 e.safe, .bool e.down] 25)).alloc (.cells #[.slice none 0 0, .slice none 0 0, .slice none 0 0, .int .i64 0, .bool false] 31)).alloc (.cells #[.slice none 0 0, .slice none 0 0, .slice none 0 0, .int .i64 0, .bool false] 31)) = W3 from HW3.out]; refine (toPageS_calls (c := cd) HL.out.1 HB3.out HR.out.d).mono ?_; rintro x w4 ⟨vd, rfl, hd, hb4⟩; obtain ⟨Bd, dd, hvd, -⟩ := Kd.S_reads hd; subst hvd; have HD := Aside0.mk hd; have HB4 := Aside0.mk (bel_then HB3.out hb4); have HP4 := Aside0.mk (HP3.out.up hb4); have HO4 := Aside0.mk (HO3.out.up hb4); have HI4 := Aside0.mk (HI3.out.up hb4); have i1 := HI4.out.c1; have o0 := HO4.out.c0; have g0 := HO4.out.frz 0; have HN4 := Aside0.mk hb4.size; clear hd hb4)
    | (go_at_call 33; obtain ⟨w5, hw5⟩ : ∃ w5, w4.setCell ⟨w.heap.size + 1 + 1, 0, none⟩ (.slice Bd e.disk.length dd) = w5 := ⟨_, rfl⟩; have hs4 : w.heap.size + 3 ≤ w4.heap.size := (by have := HN4.out; have := HZ3.out; omega); have hb5 : Below w.heap.size w w5 := (by rw [← hw5]; exact HB4.out.setCell (p := ⟨w.heap.size + 1 + 1, 0, none⟩) (by simp; omega) _); have ho5 : EgBox w5 (w.heap.size + 1 + 1) zE (.slice Bd e.disk.length dd) (.slice none 0 0) (.slice none 0 0) := (by rw [← hw5]; exact HO4.out.set0 _); have hp5 : EgBox w5 (w.heap.size + 1) zE (.slice none 0 0) (.slice none 0 0) (.slice none 0 0) := (by rw [← hw5]; exact HP4.out.far (by omega) _ _); have hi5 : LgBox w5 w.heap.size e (.slice Ad e.disk.length cd) (.slice Am e.mem.length cm) (.slice Al e.log.length cl) := (by rw [← hw5]; exact HI4.out.far (by omega) _ _); have hd5 : OwnPs w5 W3.heap.size (.slice Bd e.disk.length dd) e.disk := (by rw [← hw5]; exact pk_egset HD.out HO4.out 0 _); rw [hw5]; refine (toPageS_calls (c := cm) HL.out.2.1 hb5 HR.out.m).mono ?_; rintro x w6 ⟨vm, rfl, hm, hb6⟩; obtain ⟨Bm, dm, hvm, -⟩ := Kd.S_reads hm; subst hvm; have HDM := Aside0.mk (OwnDM.mk2 (b := w.heap.size) (Kd.S_lower hd5 (by have := HZ3.out; omega)) hm hb6 hb5.size); have HB6 := Aside0.mk (bel_then hb5 hb6); have HP6 := Aside0.mk (hp5.up hb6); have HO6 := Aside0.mk (ho5.up hb6); have HI6 := Aside0.mk (hi5.up hb6); have i2 := HI6.out.c2; have o1 := HO6.out.c1; have g1 := HO6.out.frz 1; have HN6 := Aside0.mk (show w.heap.size + 3 ≤ w6.heap.size by have := hb6.size; have : w5.heap.size = w4.heap.size := (by rw [← hw5]; simp); omega); clear hm hb6 hb5 ho5 hp5 hi5 hd5 hw5 hs4)
    | (go_at_call 34; obtain ⟨w7, hw7⟩ : ∃ w7, w6.setCell ⟨w.heap.size + 1 + 1, 1, none⟩ (.slice Bm e.mem.length dm) = w7 := ⟨_, rfl⟩; have hb7 : Below w.heap.size w w7 := (by rw [← hw7]; exact HB6.out.setCell (p := ⟨w.heap.size + 1 + 1, 1, none⟩) (by simp; omega) _); have ho7 : EgBox w7 (w.heap.size + 1 + 1) zE (.slice Bd e.disk.length dd) (.slice Bm e.mem.length dm) (.slice none 0 0) := (by rw [← hw7]; exact HO6.out.set1 _); have hp7 : EgBox w7 (w.heap.size + 1) zE (.slice none 0 0) (.slice none 0 0) (.slice none 0 0) := (by rw [← hw7]; exact HP6.out.far (by omega) _ _); have hi7 : LgBox w7 w.heap.size e (.slice Ad e.disk.length cd) (.slice Am e.mem.length cm) (.slice Al e.log.length cl) := (by rw [← hw7]; exact HI6.out.far (by omega) _ _); have hd7 : OwnDM w7 w.heap.size (.slice Bd e.disk.length dd) (.slice Bm e.mem.length dm) e.disk e.mem := (by rw [← hw7]; exact HDM.out.set HO6.out 1 _); rw [hw7]; refine (toRecS_calls (c := cl) HL.out.2.2 hb7 HR.out.l).mono ?_; rintro x w8 ⟨vl, rfl, hl8, hb8⟩; obtain ⟨Bl, dl, hvl, -⟩ := Kd.R_reads hl8; subst hvl; have HE8 : Aside0 (OwnE w8 w.heap.size (.slice Bd e.disk.length dd) (.slice Bm e.mem.length dm) (.slice Bl e.log.length dl) e) := ⟨⟨hd7.below hb8, Kd.R_lower hl8 hb7.size⟩⟩; have HB8 := Aside0.mk (bel_then hb7 hb8); have HP8 := Aside0.mk (hp7.up hb8); have HO8 := Aside0.mk (ho7.up hb8); have HI8 := Aside0.mk (hi7.up hb8); have i3 := HI8.out.c3; have i4 := HI8.out.c4; have o0 := HO8.out.c0; have o1 := HO8.out.c1; have o2 := HO8.out.c2; have o3 := HO8.out.c3; have o4 := HO8.out.c4; have g2 := HO8.out.frz 2; have g3 := HO8.out.frz 3; have g4 := HO8.out.frz 4; have y0 := HP8.out.c0; have y1 := HP8.out.c1; have y2 := HP8.out.c2; have y3 := HP8.out.c3; have y4 := HP8.out.c4; have f0 := HP8.out.frz 0; have f1 := HP8.out.frz 1; have f2 := HP8.out.frz 2; have f3 := HP8.out.frz 3; have f4 := HP8.out.frz 4; clear hl8 hb8 hb7 ho7 hp7 hi7 hd7 hw7))
  have q8 := (HO8.out.set2 (.slice Bl e.log.length dl))
  have q9 := q8.set3 e.safe
  have r1 := ((HE8.out.setEg HO8.out 2 (.slice Bl e.log.length dl)).setEg q8 3 (.int .i64 e.safe)).setEg q9 4 (.bool e.down)
  have r2 := ((HP8.out.far (b := w.heap.size + 1 + 1) (by omega) 2 (.slice Bl e.log.length dl)).far (b := w.heap.size + 1 + 1) (by omega) 3 (.int .i64 e.safe)).far (b := w.heap.size + 1 + 1) (by omega) 4 (.bool e.down)
  have r3 := ((HB8.out.setCell (p := ⟨w.heap.size + 1 + 1, 2, none⟩) (by simp; omega) (.slice Bl e.log.length dl)).setCell (p := ⟨w.heap.size + 1 + 1, 3, none⟩) (by simp; omega) (.int .i64 e.safe)).setCell (p := ⟨w.heap.size + 1 + 1, 4, none⟩) (by simp; omega) (.bool e.down)
  have h1 := r1.set5 (f := e) (xd := .slice Bd e.disk.length dd) (xm := .slice Bm e.mem.length dm) (xl := .slice Bl e.log.length dl) r2
  have h2 := bel_set5 (g := w.heap.size + 1) r3 (by omega) e (.slice Bd e.disk.length dd) (.slice Bm e.mem.length dm) (.slice Bl e.log.length dl)
  have hy := r2.set5 e (.slice Bd e.disk.length dd) (.slice Bm e.mem.length dm) (.slice Bl e.log.length dl)
  have z0 := hy.c0
  have z1 := hy.c1
  have z2 := hy.c2
  have z3 := hy.c3
  have z4 := hy.c4
  exact bodyPost_ret (v := e.ag (.slice Bd e.disk.length dd) (.slice Bm e.mem.length dm) (.slice Bl e.log.length dl)) (by simp [results, Tryz.results11, go_sem, z0, z1, z2, z3, z4]) rfl ⟨_, _, _, rfl, h1, h2⟩
end Go.Proofs.YtlmlcnokiipilaaGreat

/- The statements' comparisons, of what is the same: their eq.. functions. -/
namespace Go.Proofs.YtlmlcnokiipilaaGreat
open Go.RowKit Go.Proofs.YtlmlcnokiipilaaGreatW.PrintWords Go.Proofs.YtlmlcnokiipilaaGreatW.PrintLast Go.Proofs.YtlmlcnokiipilaaGreatW.PrintMore

def RetYes (w : World) (e : Ending) (w' : World) : Prop := e = .returned (.bool true) ∧ Below w.heap.size w w'
theorem ne_same (x : Int) : (x != x) = false := by simp
set_option maxHeartbeats 4000000 in
theorem eqIntS_calls {w0 w1 w : World} {A B : Option Addr} {c d : Nat} {xs : List Int} (hb : Below w0.heap.size w0 w) (hr : Kd.C (Kd.int .i64) w0 A xs.length xs) (hb1 : Below w1.heap.size w1 w) (hr2 : Kd.C (Kd.int .i64) w1 B xs.length xs) : Calls Tryz.prog 135 #[.slice A xs.length c, .slice B xs.length d] w (RetYes w) := by
  have HR := Aside0.mk (C_up hr hb)
  have HR2 := Aside0.mk (C_up hr2 hb1)
  have hm := (C_len hr).2
  have hne := ne_same xs.length
  clear hr hb hr2 hb1
  go_enter Tryz.func135, Tryz.ntmps135
  go_wp2
  go_loopw [5] (fun i wr => ∃ k : Nat, k ≤ xs.length ∧ i = .int .i64 (k : Int) ∧ Aside0 (Below w.heap.size w wr)) (fun i _ => (xs.length - intOf i).toNat)
  case atStart => exact ⟨0, Nat.zero_le _, rfl, ⟨Below.refl _ _⟩⟩
  case round =>
    obtain ⟨k, hk, rfl, HW⟩ := hrel
    by_cases hlt : k < xs.length
    · obtain ⟨ad, rfl, g0⟩ := at_int (C_up HR.out HW.out) k hlt
      obtain ⟨bd, rfl, h0⟩ := at_int (C_up HR2.out HW.out) k hlt
      have G0 := Aside0.mk g0
      have H0 := Aside0.mk h0
      have hni := ne_same (iv xs k)
      clear g0 h0
      go_wp2
      refine text_start (fun w' => Below wr.heap.size wr w') rfl rfl (by kernel_rfl) (below_drew (Below.refl _ _)) (fun HT => ?_)
      repeat (first
        | (refine text_end (fun wx hS => ?_))
        | (refine text_skip HT rfl (by rfl) (fun _ _ _ h => h) ?_; simp only [List.set_cons_zero, List.set_cons_succ])
        | (refine text_val (v := ?_) HT rfl (by rfl) (fun _ _ _ h => h) (fun wx hS => ?_) ?_; rotate_left; (have g0 := bel_cell hS G0.out; have h0 := bel_cell hS H0.out; go_simp; with_reducible rfl); rotate_left; simp only [List.set_cons_zero, List.set_cons_succ]))
      have HX := Aside0.mk (bel_then HW.out hS)
      clear hS
      go_wp2
      go_roundw
      case rel => exact ⟨k + 1, by omega, by go_num, HX⟩
      case measure => simp [intOf]; omega
    · have HE := Aside0.mk (show k = xs.length by omega)
      go_wp2
      go_ret
      exact ⟨rfl, HW.out⟩
set_option maxRecDepth 100000 in
set_option maxHeartbeats 4000000 in
theorem eqPage_calls {w0 w1 w : World} {A B : Option Addr} {c d : Nat} {p : Page} (hb : Below w0.heap.size w0 w) (hr : Kd.C (Kd.int .i64) w0 A p.vals.length p.vals) (hb1 : Below w1.heap.size w1 w) (hr2 : Kd.C (Kd.int .i64) w1 B p.vals.length p.vals) : Calls Tryz.prog 83 #[p.val A c, p.val B d] w (RetYes w) := by
  have HR := Aside0.mk (C_up hr hb)
  have HR2 := Aside0.mk (C_up hr2 hb1)
  have HW := Aside0.mk (bel_then (box_bel w p A c) ((Below.refl _ _).alloc (Nat.le_refl _) (p.box B d)))
  have h1 := ne_same p.lsn
  have h2 := ne_same p.owner
  clear hr hb hr2 hb1
  go_enter Tryz.func83, Tryz.ntmps83
  go_wp2_with (first | (go_at_call 135; refine (eqIntS_calls HW.out HR.out HW.out HR2.out).mono ?_; rintro x w9 ⟨rfl, hb9⟩; have HX := Aside0.mk (bel_then HW.out hb9); clear hb9))
  go_ret
  exact ⟨rfl, HX.out⟩
set_option maxRecDepth 100000 in
set_option maxHeartbeats 4000000 in
theorem eqRec_calls (r : Rec) (w : World) : Calls Tryz.prog 84 #[r.val, r.val] w (RetYes w) := by
  have h0 := ne_same r.kind
  have h1 := ne_same r.tx
  have h2 := ne_same r.page
  have h3 := ne_same r.slot
  have h4 := ne_same r.old
  have h5 := ne_same r.new
  have h6 := ne_same r.prev
  have h7 := ne_same r.next
  go_enter Tryz.func84, Tryz.ntmps84
  go_wp2
  go_ret
  exact ⟨rfl, bel_alloc (bel_alloc (Below.refl _ _) _) _⟩
set_option maxRecDepth 100000 in
set_option maxHeartbeats 4000000 in
theorem eqPageS_calls {w0 w1 w : World} {A B : Option Addr} {c d : Nat} {xs : List Page} (hb : Below w0.heap.size w0 w) (hr : Kd.C kPage w0 A xs.length xs) (hb1 : Below w1.heap.size w1 w) (hr2 : Kd.C kPage w1 B xs.length xs) : Calls Tryz.prog 36 #[.slice A xs.length c, .slice B xs.length d] w (RetYes w) := by
  have HR := Aside0.mk (C_up hr hb)
  have HR2 := Aside0.mk (C_up hr2 hb1)
  have hm := (C_len hr).2
  have hne := ne_same xs.length
  clear hr hb hr2 hb1
  go_enter Tryz.func36, Tryz.ntmps36
  go_wp2
  go_loopw [5] (fun i wr => ∃ k : Nat, k ≤ xs.length ∧ i = .int .i64 (k : Int) ∧ Aside0 (Below w.heap.size w wr)) (fun i _ => (xs.length - intOf i).toNat)
  case atStart => exact ⟨0, Nat.zero_le _, rfl, ⟨Below.refl _ _⟩⟩
  case round =>
    obtain ⟨k, hk, rfl, HW⟩ := hrel
    by_cases hlt : k < xs.length
    · obtain ⟨ad, A2, c2, rfl, QP, -, g2⟩ := at_page (C_up HR.out HW.out) k hlt
      obtain ⟨bd, B2, d2, rfl, QP2, -, h2⟩ := at_page (C_up HR2.out HW.out) k hlt
      have G2 := Aside0.mk g2
      have H2 := Aside0.mk h2
      have HQ := Aside0.mk QP
      have HQ2 := Aside0.mk QP2
      clear g2 h2 QP QP2
      go_wp2
      refine text_start (fun w' => Below wr.heap.size wr w') rfl rfl (by kernel_rfl) (below_drew (Below.refl _ _)) (fun HT => ?_)
      repeat (first
        | (refine text_end (fun wx hS => ?_))
        | ((with_reducible refine text_gate (f := 83) rfl ?_); refine text_call (v := .bool true) (args := #[(pg xs k).val A2 c2, (pg xs k).val B2 d2]) HT rfl Tryz.func83 (by kernel_rfl) rfl rfl (by rfl) (fun _ _ _ h => h) (by simp only [List.map_toArray, List.map_cons, List.map_nil]; rfl) (fun wx hS => (eqPage_calls hS G2.out hS H2.out).mono fun _ _ h => ⟨h.1, bel_then hS h.2⟩) ?_; simp only [List.set_cons_zero, List.set_cons_succ])
        | (refine text_skip HT rfl (by rfl) (fun _ _ _ h => h) ?_; simp only [List.set_cons_zero, List.set_cons_succ])
        | (refine text_val (v := ?_) HT rfl (by rfl) (fun _ _ _ h => h) (fun wx hS => ?_) ?_; rotate_left; (obtain ⟨x0, x1, x2⟩ := HQ.out.up hS; obtain ⟨y0, y1, y2⟩ := HQ2.out.up hS; go_simp; with_reducible rfl); rotate_left; simp only [List.set_cons_zero, List.set_cons_succ]))
      have HX := Aside0.mk (bel_then HW.out hS)
      clear hS
      go_wp2
      go_roundw
      case rel => exact ⟨k + 1, by omega, by go_num, HX⟩
      case measure => simp [intOf]; omega
    · have HE := Aside0.mk (show k = xs.length by omega)
      go_wp2
      go_ret
      exact ⟨rfl, HW.out⟩
set_option maxRecDepth 100000 in
set_option maxHeartbeats 4000000 in
theorem eqRecS_calls {w0 w1 w : World} {A B : Option Addr} {c d : Nat} {xs : List Rec} (hb : Below w0.heap.size w0 w) (hr : Kd.C kRec w0 A xs.length xs) (hb1 : Below w1.heap.size w1 w) (hr2 : Kd.C kRec w1 B xs.length xs) : Calls Tryz.prog 37 #[.slice A xs.length c, .slice B xs.length d] w (RetYes w) := by
  have HR := Aside0.mk (C_up hr hb)
  have HR2 := Aside0.mk (C_up hr2 hb1)
  have hm := (C_len hr).2
  have hne := ne_same xs.length
  clear hr hb hr2 hb1
  go_enter Tryz.func37, Tryz.ntmps37
  go_wp2
  go_loopw [5] (fun i wr => ∃ k : Nat, k ≤ xs.length ∧ i = .int .i64 (k : Int) ∧ Aside0 (Below w.heap.size w wr)) (fun i _ => (xs.length - intOf i).toNat)
  case atStart => exact ⟨0, Nat.zero_le _, rfl, ⟨Below.refl _ _⟩⟩
  case round =>
    obtain ⟨k, hk, rfl, HW⟩ := hrel
    by_cases hlt : k < xs.length
    · obtain ⟨ad, rfl, QP⟩ := at_rec (C_up HR.out HW.out) k hlt
      obtain ⟨bd, rfl, QP2⟩ := at_rec (C_up HR2.out HW.out) k hlt
      have HQ := Aside0.mk QP
      have HQ2 := Aside0.mk QP2
      clear QP QP2
      go_wp2
      refine text_start (fun w' => Below wr.heap.size wr w') rfl rfl (by kernel_rfl) (below_drew (Below.refl _ _)) (fun HT => ?_)
      repeat (first
        | (refine text_end (fun wx hS => ?_))
        | ((with_reducible refine text_gate (f := 84) rfl ?_); refine text_call (v := .bool true) (args := #[(rc xs k).val, (rc xs k).val]) HT rfl Tryz.func84 (by kernel_rfl) rfl rfl (by rfl) (fun _ _ _ h => h) (by simp only [List.map_toArray, List.map_cons, List.map_nil]; rfl) (fun wx hS => (eqRec_calls (rc xs k) _).mono fun _ _ h => ⟨h.1, bel_then hS h.2⟩) ?_; simp only [List.set_cons_zero, List.set_cons_succ])
        | (refine text_skip HT rfl (by rfl) (fun _ _ _ h => h) ?_; simp only [List.set_cons_zero, List.set_cons_succ])
        | (refine text_val (v := ?_) HT rfl (by rfl) (fun _ _ _ h => h) (fun wx hS => ?_) ?_; rotate_left; (obtain ⟨x0, x1, x2, x3, x4, x5, x6, x7⟩ := HQ.out.up hS; obtain ⟨y0, y1, y2, y3, y4, y5, y6, y7⟩ := HQ2.out.up hS; go_simp; with_reducible rfl); rotate_left; simp only [List.set_cons_zero, List.set_cons_succ]))
      have HX := Aside0.mk (bel_then HW.out hS)
      clear hS
      go_wp2
      go_roundw
      case rel => exact ⟨k + 1, by omega, by go_num, HX⟩
      case measure => simp [intOf]; omega
    · have HE := Aside0.mk (show k = xs.length by omega)
      go_wp2
      go_ret
      exact ⟨rfl, HW.out⟩
theorem EngC.d' {w : World} {e : Eng} {Ad Am Al : Option Addr} (h : EngC w e Ad Am Al) : Kd.C kPage w Ad e.disk.length e.disk := h.d
theorem ne_sameB (x : Bool) : (x != x) = false := by simp
set_option maxRecDepth 100000 in
set_option maxHeartbeats 8000000 in
theorem eqEngine_calls {w0 w1 w : World} {e : Eng} {Ad Am Al Bd Bm Bl : Option Addr} {cd cm cl dd dm dl : Nat} (hb : Below w0.heap.size w0 w) (hr : EngC w0 e Ad Am Al) (hb1 : Below w1.heap.size w1 w) (hr2 : EngC w1 e Bd Bm Bl) : Calls Tryz.prog 13 #[e.val Ad Am Al cd cm cl, e.val Bd Bm Bl dd dm dl] w (RetYes w) := by
  have HR := Aside0.mk (hr.up hb)
  have HR2 := Aside0.mk (hr2.up hb1)
  have h1 := ne_same e.safe
  have h2 := ne_sameB e.down
  clear hr hb hr2 hb1
  obtain ⟨w2, hw2⟩ : ∃ w2, w.alloc (e.obox (.slice Ad e.disk.length cd) (.slice Am e.mem.length cm) (.slice Al e.log.length cl)) = w2 := ⟨_, rfl⟩
  obtain ⟨w3, hw3⟩ : ∃ w3, w2.alloc (e.obox (.slice Bd e.disk.length dd) (.slice Bm e.mem.length dm) (.slice Bl e.log.length dl)) = w3 := ⟨_, rfl⟩
  have HW3 : Aside0 ((w.alloc (e.obox (.slice Ad e.disk.length cd) (.slice Am e.mem.length cm) (.slice Al e.log.length cl))).alloc (e.obox (.slice Bd e.disk.length dd) (.slice Bm e.mem.length dm) (.slice Bl e.log.length dl)) = w3) := ⟨by rw [hw2, hw3]⟩
  have HX : Aside0 (Below w.heap.size w w3) := ⟨by rw [← hw3, ← hw2]; exact bel_alloc (bel_alloc (Below.refl _ _) _) _⟩
  have hz : w2.heap.size = w.heap.size + 1 := by rw [← hw2, size1]
  have hq1 : EgBox w3 w.heap.size e (.slice Ad e.disk.length cd) (.slice Am e.mem.length cm) (.slice Al e.log.length cl) := by
    have : EgBox w2 w.heap.size e (.slice Ad e.disk.length cd) (.slice Am e.mem.length cm) (.slice Al e.log.length cl) := by rw [← hw2]; exact EgBox.mk1 _ _ _ _ _
    rw [← hw3]
    exact this.up (bel_alloc (Below.refl _ _) _)
  have hq2 : EgBox w3 (w.heap.size + 1) e (.slice Bd e.disk.length dd) (.slice Bm e.mem.length dm) (.slice Bl e.log.length dl) := by
    rw [← hw3, ← hz]
    exact EgBox.mk1 _ _ _ _ _
  have x0 := hq1.c0
  have x1 := hq1.c1
  have x2 := hq1.c2
  have x3 := hq1.c3
  have x4 := hq1.c4
  have y0 := hq2.c0
  have y1 := hq2.c1
  have y2 := hq2.c2
  have y3 := hq2.c3
  have y4 := hq2.c4
  clear hw2 hw3 hz hq1 hq2
  go_enter Tryz.func13, Tryz.ntmps13
  go_wp2_with (first | (go_at_call 36; rw [HW3.out]; refine (eqPageS_calls (c := cd) (d := dd) HX.out HR.out.d HX.out HR2.out.d).mono ?_; rintro x w9 ⟨rfl, hb9⟩; have HX := Aside0.mk (bel_then HX.out hb9); replace x0 := bel_cell hb9 x0; replace x1 := bel_cell hb9 x1; replace x2 := bel_cell hb9 x2; replace x3 := bel_cell hb9 x3; replace x4 := bel_cell hb9 x4; replace y0 := bel_cell hb9 y0; replace y1 := bel_cell hb9 y1; replace y2 := bel_cell hb9 y2; replace y3 := bel_cell hb9 y3; replace y4 := bel_cell hb9 y4; clear hb9) | (go_at_call 36; refine (eqPageS_calls (c := cm) (d := dm) HX.out HR.out.m HX.out HR2.out.m).mono ?_; rintro x w9 ⟨rfl, hb9⟩; have HX := Aside0.mk (bel_then HX.out hb9); replace x0 := bel_cell hb9 x0; replace x1 := bel_cell hb9 x1; replace x2 := bel_cell hb9 x2; replace x3 := bel_cell hb9 x3; replace x4 := bel_cell hb9 x4; replace y0 := bel_cell hb9 y0; replace y1 := bel_cell hb9 y1; replace y2 := bel_cell hb9 y2; replace y3 := bel_cell hb9 y3; replace y4 := bel_cell hb9 y4; clear hb9) | (go_at_call 37; refine (eqRecS_calls (c := cl) (d := dl) HX.out HR.out.l HX.out HR2.out.l).mono ?_; rintro x w9 ⟨rfl, hb9⟩; have HX := Aside0.mk (bel_then HX.out hb9); replace x0 := bel_cell hb9 x0; replace x1 := bel_cell hb9 x1; replace x2 := bel_cell hb9 x2; replace x3 := bel_cell hb9 x3; replace x4 := bel_cell hb9 x4; replace y0 := bel_cell hb9 y0; replace y1 := bel_cell hb9 y1; replace y2 := bel_cell hb9 y2; replace y3 := bel_cell hb9 y3; replace y4 := bel_cell hb9 y4; clear hb9))
  go_ret
  exact ⟨rfl, HX.out⟩
end Go.Proofs.YtlmlcnokiipilaaGreat

/- The reference's RiseNeed. -/
namespace Go.Proofs.YtlmlcnokiipilaaGreat
open Go.RowKit Go.Proofs.YtlmlcnokiipilaaGreatW.PrintWords Go.Proofs.YtlmlcnokiipilaaGreatW.PrintLast Go.Proofs.YtlmlcnokiipilaaGreatW.PrintMore

set_option maxRecDepth 100000 in
set_option maxHeartbeats 4000000 in
theorem specRiseNeed_calls {w0 w : World} {e : Eng} {Ad Am Al : Option Addr} {cd cm cl : Nat} (hcl : e.log.length ≤ cl) (hb : Below w0.heap.size w0 w) (hr : EngC w0 e Ad Am Al) : Calls Tryz.prog 10 #[e.val Ad Am Al cd cm cl] w fun x w' => x = .returned (.int .i64 (if eOk e = true then (need e.log : Int) else -1)) ∧ Below w.heap.size w w' := by
  have HR := Aside0.mk (hr.up hb)
  clear hr hb
  obtain ⟨w1, hw1⟩ : ∃ w1, w.alloc (e.obox (.slice Ad e.disk.length cd) (.slice Am e.mem.length cm) (.slice Al e.log.length cl)) = w1 := ⟨_, rfl⟩
  have HW1 := Aside0.mk hw1
  have HB1 : Aside0 (Below w.heap.size w w1) := ⟨by rw [← hw1]; exact bel_alloc (Below.refl _ _) _⟩
  have HQ1 : Aside0 (EgBox w1 w.heap.size e (.slice Ad e.disk.length cd) (.slice Am e.mem.length cm) (.slice Al e.log.length cl)) := ⟨by rw [← hw1]; exact EgBox.mk1 _ _ _ _ _⟩
  clear hw1
  have x2 := HQ1.out.c2
  cases hv : eOk e
  all_goals
    have HV := Aside0.mk hv
    clear hv
    go_enter Tryz.func10, Tryz.ntmps10
    go_wp2_with (first | (go_at_call 31; rw [HW1.out]; refine (specEngineOk_calls (cd := cd) (cm := cm) HV.out hcl HB1.out HR.out).mono ?_; rintro x w2 ⟨rfl, hb2⟩; have HB2 := Aside0.mk (bel_then HB1.out hb2); replace x2 := bel_cell hb2 x2; clear hb2) | (go_at_call 32; refine (l11Need_calls (c := cl) (Below.refl w2.heap.size w2) (C_up HR.out.l HB2.out) (okF_iff.1 HV.out).log).mono ?_; rintro x w3 ⟨rfl, hb3⟩; have HB3 := Aside0.mk (bel_then HB2.out hb3); clear hb3))
    go_ret
  · exact ⟨rfl, HB2.out⟩
  · exact ⟨rfl, HB3.out⟩
theorem Eng.val_inj {e : Eng} {A B C A' B' C' : Option Addr} {a b c a' b' c' : Nat} (h : e.val A B C a b c = e.val A' B' C' a' b' c') : A = A' ∧ B = B' ∧ C = C' ∧ a = a' ∧ b = b' ∧ c = c' := by
  simp only [Eng.val, Eng.ag, Value.agg.injEq, Array.mk.injEq, List.cons.injEq, Value.slice.injEq, and_true, true_and] at h
  exact ⟨h.1.1, h.2.1.1, h.2.2.1, h.1.2, h.2.1.2, h.2.2.2⟩
set_option maxRecDepth 100000 in
set_option maxHeartbeats 8000000 in
theorem FnExactRiseNeed_calls {w0 w : World} {e : Eng} {Ad Am Al : Option Addr} {cd cm cl : Nat} (hcl : e.log.length ≤ cl) (hb : Below w0.heap.size w0 w) (hr : EngC w0 e Ad Am Al) : Calls Tryz.prog 3 #[e.val Ad Am Al cd cm cl] w (RetYes w) := by
  have HR := Aside0.mk (hr.up hb)
  have HCL := Aside0.mk hcl
  clear hr hb hcl
  obtain ⟨W1, hW1⟩ : ∃ W1, w.alloc (.cells #[.slice Ad e.disk.length cd, .slice Am e.mem.length cm, .slice Al e.log.length cl, .int .i64 e.safe, .bool e.down] 25) = W1 := ⟨_, rfl⟩
  have HW1 := Aside0.mk hW1
  have HI1 : Aside0 (LgBox W1 w.heap.size e (.slice Ad e.disk.length cd) (.slice Am e.mem.length cm) (.slice Al e.log.length cl)) := ⟨by rw [← hW1]; exact LgBox.mk1 _ _ _ _ _⟩
  have HB1 : Aside0 (Below w.heap.size w W1) := ⟨by rw [← hW1]; exact bel_alloc (Below.refl _ _) _⟩
  clear hW1
  have i0 := HI1.out.c0
  have i1 := HI1.out.c1
  have i2 := HI1.out.c2
  have i3 := HI1.out.c3
  have i4 := HI1.out.c4
  obtain ⟨z, hz⟩ : ∃ z, szE e 1048576 = z := ⟨_, rfl⟩
  have HZ := Aside0.mk hz
  clear hz
  rcases lts z 0 with ⟨e1, b1, c1⟩ | ⟨e1, b1, c1⟩
  · go_enter Tryz.func3, Tryz.ntmps3
    go_wp2_with (first | (go_at_call 9; rw [HW1.out]; refine (szEngine_calls (cd := cd) (cm := cm) (cl := cl) 1048576 (by decide) (by decide) HB1.out HR.out).mono ?_; rw [HZ.out]; rintro x w2 ⟨rfl, hb2⟩; have HB2 := Aside0.mk (bel_then HB1.out hb2); clear hb2))
    go_ret
    exact ⟨rfl, HB2.out⟩
  · have HF := Aside0.mk (few_of_sz (e := e) (by rw [HZ.out]; exact e1.out))
    obtain ⟨n, hn⟩ : ∃ n, (if eOk e = true then (need e.log : Int) else -1) = n := ⟨_, rfl⟩
    have HN := Aside0.mk hn
    have hnn := ne_same n
    clear hn
    go_enter Tryz.func3, Tryz.ntmps3
    go_wp2_with (first
      | (go_at_call 9; rw [HW1.out]; refine (szEngine_calls (cd := cd) (cm := cm) (cl := cl) 1048576 (by decide) (by decide) HB1.out HR.out).mono ?_; rw [HZ.out]; rintro x w2 ⟨rfl, hb2⟩; have HB2 := Aside0.mk (bel_then HB1.out hb2); have HI2 := Aside0.mk (HI1.out.up hb2); have i0 := HI2.out.c0; have i1 := HI2.out.c1; have i2 := HI2.out.c2; have i3 := HI2.out.c3; have i4 := HI2.out.c4; clear hb2)
      | (go_at_call 11; refine (toEngine_calls HF.out HB2.out HR.out).mono ?_; rintro x w3 ⟨vd, vm, vl, rfl, ho, hb3⟩; obtain ⟨Bd, dd, Bm, dm, Bl, dl, rfl, rfl, rfl, hdl, hc⟩ := ho.reads; have HC3 := Aside0.mk hc; have HDL3 := Aside0.mk hdl; have HB3 := Aside0.mk (bel_then HB2.out hb3); have HI3 := Aside0.mk (HI2.out.up hb3); clear HB2 HI2; have i0 := HI3.out.c0; have i1 := HI3.out.c1; have i2 := HI3.out.c2; have i3 := HI3.out.c3; have i4 := HI3.out.c4; clear ho hb3 hc hdl)
      | (go_at_call 10; refine (specRiseNeed_calls (cd := dd) (cm := dm) HDL3.out (Below.refl w3.heap.size w3) HC3.out).mono ?_; rw [HN.out]; rintro x w4 ⟨rfl, hb4⟩; have HB4 := Aside0.mk (bel_then HB3.out hb4); have HI4 := Aside0.mk (HI3.out.up hb4); clear HB3 HI3; have i0 := HI4.out.c0; have i1 := HI4.out.c1; have i2 := HI4.out.c2; have i3 := HI4.out.c3; have i4 := HI4.out.c4; clear hb4)
      | (go_at_call 11; refine (toEngine_calls HF.out HB4.out HR.out).mono ?_; rintro x w5 ⟨vd5, vm5, vl5, rfl, ho, hb5⟩; obtain ⟨Cd, gd, Cm, gm, Cl, gl, rfl, rfl, rfl, hgl, hc⟩ := ho.reads; have HC5 := Aside0.mk hc; have HGL5 := Aside0.mk hgl; have HB5 := Aside0.mk (bel_then HB4.out hb5); have HI5 := Aside0.mk (HI4.out.up hb5); clear HB4 HI4; clear ho hb5 hc hgl)
      | (go_at_call 12; obtain ⟨w6, hw6⟩ : ∃ w6, w5.alloc (e.obox (.slice Cd e.disk.length gd) (.slice Cm e.mem.length gm) (.slice Cl e.log.length gl)) = w6 := ⟨_, rfl⟩; have hb6 : Below w5.heap.size w5 w6 := (by rw [← hw6]; exact bel_alloc (Below.refl _ _) _); have hq6 : EgBox w6 w5.heap.size e (.slice Cd e.disk.length gd) (.slice Cm e.mem.length gm) (.slice Cl e.log.length gl) := (by rw [← hw6]; exact EgBox.mk1 _ _ _ _ _); rw [show w5.alloc (.cells #[.slice Cd e.disk.length gd, .slice Cm e.mem.length gm, .slice Cl e.log.length gl, .int .i64 e.safe, .bool e.down] 31) = w6 from hw6]; refine (RiseNeed_calls (cd := gd) (cm := gm) HGL5.out (Below.refl w6.heap.size w6) (HC5.out.up hb6)).mono ?_; rw [HN.out]; rintro x w7 ⟨rfl, hb7⟩; have HB7 := Aside0.mk (bel_then (bel_then HB5.out hb6) hb7); have HI7 := Aside0.mk (HI5.out.up (bel_then hb6 hb7)); have HQ7 := Aside0.mk (hq6.up hb7); have HC7 := Aside0.mk (HC5.out.up (bel_then hb6 hb7)); clear hw6 hb6 hq6 hb7))
    refine reg_start (fun lx a wx => Below w7.heap.size w7 wx ∧ Sl 2 24 (fun v wx => ∃ D1 D2 D3 k1 k2 k3, v = e.val D1 D2 D3 k1 k2 k3 ∧ EngC wx e D1 D2 D3) lx a wx) 5 rfl (by kernel_rfl) (⟨below_drew (Below.refl _ _), sl_start⟩) (fun HT => ?_)
    refine reg_val (i := 0) (v := ?_) HT rfl (by kernel_rfl) rfl (keeps_and keeps_world (keeps_sl rfl rfl)) (by rfl) (fun _ _ _ h => h) (fun lx ax wx hS => ?_) ?_; rotate_left; (have hq := HQ7.out.up hS.1; have hi := HI7.out.up hS.1; have x0 := hq.c0; have x1 := hq.c1; have x2 := hq.c2; have x3 := hq.c3; have x4 := hq.c4; have i0 := hi.c0; have i1 := hi.c1; have i2 := hi.c2; have i3 := hi.c3; have i4 := hi.c4; clear hq hi; go_simp; with_reducible rfl); rotate_left; simp only [List.set_cons_zero, List.set_cons_succ]
    refine reg_val (i := 1) (v := ?_) HT rfl (by kernel_rfl) rfl (keeps_and keeps_world (keeps_sl rfl rfl)) (by rfl) (fun _ _ _ h => h) (fun lx ax wx hS => ?_) ?_; rotate_left; (have hq := HQ7.out.up hS.1; have hi := HI7.out.up hS.1; have x0 := hq.c0; have x1 := hq.c1; have x2 := hq.c2; have x3 := hq.c3; have x4 := hq.c4; have i0 := hi.c0; have i1 := hi.c1; have i2 := hi.c2; have i3 := hi.c3; have i4 := hi.c4; clear hq hi; go_simp; with_reducible rfl); rotate_left; simp only [List.set_cons_zero, List.set_cons_succ]
    refine reg_only (i := 2) (f := 11) (args := #[e.val Ad Am Al cd cm cl]) (fun v => ∃ D1 D2 D3 k1 k2 k3, v = e.val D1 D2 D3 k1 k2 k3) rfl (by kernel_rfl) rfl Tryz.func11 (by kernel_rfl) rfl rfl (by rfl) (by simp only [List.map_toArray, List.map_cons, List.map_nil]; rfl) (fun wx hS => (toEngine_calls HF.out (bel_then HB7.out hS.1) HR.out).mono (by rintro x w8 ⟨vd, vm, vl, rfl, ho, hb8⟩; obtain ⟨D1, k1, D2, k2, D3, k3, rfl, rfl, rfl, -, hc⟩ := ho.reads; exact ⟨_, rfl, ⟨D1, D2, D3, k1, k2, k3, rfl⟩, bel_then hS.1 hb8, fun _ => ⟨D1, D2, D3, k1, k2, k3, rfl, hc⟩⟩)) (fun vx hg => ?_); simp only [List.set_cons_zero, List.set_cons_succ]
    obtain ⟨D1, D2, D3, k1, k2, k3, rfl⟩ := hg
    refine reg_only (i := 3) (f := 13) (args := #[e.val Cd Cm Cl gd gm gl, e.val D1 D2 D3 k1 k2 k3]) (fun v => v = .bool true) rfl (by kernel_rfl) rfl Tryz.func13 (by kernel_rfl) rfl rfl (by rfl) (by simp only [List.map_toArray, List.map_cons, List.map_nil]; rfl) (fun wx hS => (by obtain ⟨E1, E2, E3, j1, j2, j3, e3, hC⟩ := hS.2 (by kernel_rfl); obtain ⟨rfl, rfl, rfl, rfl, rfl, rfl⟩ := Eng.val_inj e3; exact (eqEngine_calls hS.1 HC7.out (Below.refl _ _) hC).mono (by rintro x w8 ⟨rfl, hb8⟩; exact ⟨_, rfl, rfl, bel_then hS.1 hb8, fun _ => ⟨D1, D2, D3, k1, k2, k3, rfl, hC.up hb8⟩⟩))) (fun vx hg => ?_); simp only [List.set_cons_zero, List.set_cons_succ]
    subst hg
    refine reg_val (i := 4) (v := ?_) HT rfl (by kernel_rfl) rfl (keeps_and keeps_world (keeps_sl rfl rfl)) (by rfl) (fun _ _ _ h => h) (fun lx ax wx hS => ?_) ?_; rotate_left; (go_simp; with_reducible rfl); rotate_left; simp only [List.set_cons_zero, List.set_cons_succ]
    refine reg_end (by kernel_rfl) (fun wx hS => ?_)
    have HX := Aside0.mk (bel_then HB7.out hS.1)
    clear hS
    go_wp2
    go_ret
    exact ⟨rfl, HX.out⟩
end Go.Proofs.YtlmlcnokiipilaaGreat

/- What an engine that came in reads as. -/
namespace Go.Proofs.YtlmlcnokiipilaaGreat
open Go.RowKit Go.Proofs.YtlmlcnokiipilaaGreatW.PrintWords Go.Proofs.YtlmlcnokiipilaaGreatW.PrintLast Go.Proofs.YtlmlcnokiipilaaGreatW.PrintMore Go.ChangeShapes Go.WideShapes Go.Deep

section
variable {H : Type} {enc : TypeId × Value → H} {P : Program} {w : World} {spare : Nat → Bool} {held : Bool}
/-- Whatever is read at this type has cells of this kind. -/
def Opens (P : Program) (enc : TypeId × Value → H) (w : World) (spare : Nat → Bool) (held : Bool) {α : Type} (d : Kd α) (t : TypeId) : Prop :=
  ∀ fuel cs x, DataW.trod enc P w 0 spare held fuel t cs = some x → ∃ a, d.K w a cs
theorem opens_int {t : TypeId} {k : IntKind} (ht : P.underlying t = some (.int k)) : Opens P enc w spare held (Kd.int k) t := by
  intro fuel cs x h
  obtain ⟨n, rfl, -⟩ := DataW.trod_int ht h
  exact ⟨n, rfl⟩
theorem opens_bool {t : TypeId} (ht : P.underlying t = some .bool) : Opens P enc w spare held Kd.bool t := by
  intro fuel cs x h
  obtain ⟨n, rfl, -⟩ := DataW.trod_bool ht h
  exact ⟨n, rfl⟩
theorem cells_at {a : Addr} {n : Nat} {cs : List Value} (h : w.cells? 0 a n = some cs) (i : Nat) (u : Value) (hi : cs[i]? = some u) : w.cell? (a.add i) = some u := by
  unfold World.cells? at h
  rw [if_pos (Nat.zero_le _)] at h
  have hl := mapM_some_length h
  have hlt : i < n := by have := (List.getElem?_eq_some_iff.1 hi).1; simp at hl; omega
  rw [mapM_some_get h i i (by simp [hlt]), hi]
theorem opens_slice {α : Type} {d : Kd α} {t e : TypeId} (ht : P.underlying t = some (.slice e)) (hsz : P.cellsOf e = d.sz) (hd : Opens P enc w (fun _ => true) held d e) : Opens P enc w (fun _ => true) held (Kd.slice e d) t := by
  intro fuel cs x h
  rcases open_slice ht h with ⟨rfl, -⟩ | ⟨a, len, cap, m, n, D, Pl, rfl, -, hl, hc, hm, -, hel⟩
  · exact ⟨[], none, 0, rfl, Nat.le_refl _, rfl, by simp, fun h0 => by simp at h0⟩
  · rw [if_pos rfl] at hm
    subst hm
    have key : ∀ j, j ≤ len → ∃ xs : List α, xs.length = j ∧ ∀ i p, xs[i]? = some p → ∃ c, c.length = d.sz ∧ d.K w p c ∧ ∀ k u, c[k]? = some u → w.cell? (a.add (i * d.sz + k)) = some u := by
      intro j
      induction j with
      | zero => exact fun _ => ⟨[], rfl, fun i p hp => by simp at hp⟩
      | succ j ih =>
        intro hj
        obtain ⟨xs, h1, h2⟩ := ih (by omega)
        obtain ⟨cs', h3, h4⟩ := hel j (by omega)
        obtain ⟨p, hp⟩ := hd _ _ _ h4
        refine ⟨xs ++ [p], by simp [h1], fun i q hq => ?_⟩
        by_cases hi : i < j
        · exact h2 i q (by rwa [List.getElem?_append_left (by omega)] at hq)
        · have hlt := (List.getElem?_eq_some_iff.1 hq).1
          have hij : i = j := by simp [h1] at hlt; omega
          subst hij
          rw [List.getElem?_append_right (by omega), h1, Nat.sub_self] at hq
          cases hq
          refine ⟨cs', d.K_len hp, hp, fun k u hk => ?_⟩
          rw [hsz] at h3
          rw [← Go.Deep.add_add]
          exact cells_at h3 k u hk
    obtain ⟨xs, h1, h2⟩ := key len (Nat.le_refl _)
    exact ⟨xs, some a, m, by rw [h1], by rw [h1]; exact hl, rfl, by rw [h1]; have : maxLen = 9223372036854775807 := rfl; omega, fun _ => ⟨a, rfl, h2⟩⟩
theorem struct_fields {t : TypeId} {fs : Array Field} {fuel : Nat} {cs : List Value} {x : DataW H × List MemPlace} (ht : P.underlying t = some (.struct fs)) (h : DataW.trod enc P w 0 spare held fuel t cs = some x) :
    cs.length = P.cellsOf t ∧ ∃ n, ∀ (i : Nat) (f : Field), fs[i]? = some f → ∃ y, DataW.trod enc P w 0 spare held n f.type ((cs.drop f.offset).take (P.cellsOf f.type)) = some y := by
  obtain ⟨xs, n, -, -, hl, hx, hf⟩ := DataW.trod_struct ht h
  refine ⟨hl, n, fun i f hi => ?_⟩
  have hlt : i < xs.length := by rw [hx]; exact (Array.getElem?_eq_some_iff.1 hi).1
  exact ⟨_, (hf i f hi).trans (List.getElem?_eq_getElem hlt)⟩
end
section
variable {H : Type} {enc : TypeId × Value → H} {w : World} {held : Bool}
theorem int_at {n : Nat} {u : Value} {y : DataW H × List MemPlace} {spare : Nat → Bool} (h : DataW.trod enc Tryz.prog w 0 spare held n 3 [u] = some y) : ∃ a : Int, u = .int .i64 a := by
  obtain ⟨a, ha⟩ := opens_int Tryz.underlying3 _ _ _ h
  exact ⟨a, by injection ha⟩
theorem ints_at {n : Nat} {u : Value} {y : DataW H × List MemPlace} (h : DataW.trod enc Tryz.prog w 0 (fun _ => true) held n 44 [u] = some y) : ∃ A xs c, u = .slice A (List.length xs) c ∧ xs.length ≤ c ∧ (Kd.int .i64).C w A xs.length xs := by
  obtain ⟨xs, A, c, he, h1, h2⟩ := opens_slice (d := Kd.int .i64) Tryz.underlying44 (by kernel_rfl) (opens_int Tryz.underlying3) _ _ _ h
  exact ⟨A, xs, c, by injection he, h1, h2⟩
set_option maxRecDepth 100000 in
theorem opens_page : Opens Tryz.prog enc w (fun _ => true) held kPage 89 := by
  intro fuel cs x h
  obtain ⟨hl, n, hf⟩ := struct_fields Tryz.underlying89 h
  have hl3 : cs.length = 3 := hl.trans (by kernel_rfl)
  match cs, hl3 with
  | [u0, u1, u2], _ =>
    obtain ⟨y0, h0⟩ := hf 0 _ rfl
    obtain ⟨y1, h1⟩ := hf 1 _ rfl
    obtain ⟨y2, h2⟩ := hf 2 _ rfl
    obtain ⟨a, rfl⟩ := int_at (u := u0) h0
    obtain ⟨b, rfl⟩ := int_at (u := u1) h1
    obtain ⟨A, xs, c, rfl, h3, h4⟩ := ints_at (u := u2) h2
    exact ⟨⟨a, b, xs⟩, kPage_mk w ⟨a, b, xs⟩ h3 h4⟩
set_option maxRecDepth 100000 in
theorem opens_rec : Opens Tryz.prog enc w (fun _ => true) held kRec 97 := by
  intro fuel cs x h
  obtain ⟨hl, n, hf⟩ := struct_fields Tryz.underlying97 h
  have hl3 : cs.length = 8 := hl.trans (by kernel_rfl)
  match cs, hl3 with
  | [u0, u1, u2, u3, u4, u5, u6, u7], _ =>
    obtain ⟨y0, h0⟩ := hf 0 _ rfl
    obtain ⟨y1, h1⟩ := hf 1 _ rfl
    obtain ⟨y2, h2⟩ := hf 2 _ rfl
    obtain ⟨y3, h3⟩ := hf 3 _ rfl
    obtain ⟨y4, h4⟩ := hf 4 _ rfl
    obtain ⟨y5, h5⟩ := hf 5 _ rfl
    obtain ⟨y6, h6⟩ := hf 6 _ rfl
    obtain ⟨y7, h7⟩ := hf 7 _ rfl
    obtain ⟨a0, rfl⟩ := int_at (u := u0) h0
    obtain ⟨a1, rfl⟩ := int_at (u := u1) h1
    obtain ⟨a2, rfl⟩ := int_at (u := u2) h2
    obtain ⟨a3, rfl⟩ := int_at (u := u3) h3
    obtain ⟨a4, rfl⟩ := int_at (u := u4) h4
    obtain ⟨a5, rfl⟩ := int_at (u := u5) h5
    obtain ⟨a6, rfl⟩ := int_at (u := u6) h6
    obtain ⟨a7, rfl⟩ := int_at (u := u7) h7
    exact ⟨⟨a0, a1, a2, a3, a4, a5, a6, a7⟩, Kd.K_of_M _ (kRec_mk w 0 (fun _ => True) ⟨a0, a1, a2, a3, a4, a5, a6, a7⟩)⟩
set_option maxRecDepth 100000 in
theorem opens_engine {fuel : Nat} {cs : List Value} {x : DataW H × List MemPlace} (h : DataW.trod enc Tryz.prog w 0 (fun _ => true) held fuel 25 cs = some x) :
    ∃ (e : Eng) (Ad Am Al : Option Addr) (cd cm cl : Nat), cs = [.slice Ad e.disk.length cd, .slice Am e.mem.length cm, .slice Al e.log.length cl, .int .i64 e.safe, .bool e.down] ∧ e.log.length ≤ cl ∧ EngC w e Ad Am Al := by
  obtain ⟨hl, n, hf⟩ := struct_fields Tryz.underlying25 h
  have hl3 : cs.length = 5 := hl.trans (by kernel_rfl)
  match cs, hl3 with
  | [u0, u1, u2, u3, u4], _ =>
    obtain ⟨y0, h0⟩ := hf 0 _ rfl
    obtain ⟨y1, h1⟩ := hf 1 _ rfl
    obtain ⟨y2, h2⟩ := hf 2 _ rfl
    obtain ⟨y3, h3⟩ := hf 3 _ rfl
    obtain ⟨y4, h4⟩ := hf 4 _ rfl
    obtain ⟨ps, Ad, cd, e0, -, k0⟩ := opens_slice (d := kPage) Tryz.underlying22 (by kernel_rfl) opens_page _ [u0] _ h0
    obtain ⟨qs, Am, cm, e1, -, k1⟩ := opens_slice (d := kPage) Tryz.underlying22 (by kernel_rfl) opens_page _ [u1] _ h1
    obtain ⟨l, Al, cl, e2, k3, k2⟩ := opens_slice (d := kRec) Tryz.underlying23 (by kernel_rfl) opens_rec _ [u2] _ h2
    obtain ⟨s, rfl⟩ := int_at (u := u3) h3
    obtain ⟨b, e4⟩ := opens_bool Tryz.underlying4 _ [u4] _ h4
    injection e0 with e0
    injection e1 with e1
    injection e2 with e2
    injection e4 with e4
    subst e0 e1 e2 e4
    exact ⟨⟨ps, qs, l, s, b⟩, Ad, Am, Al, cd, cm, cl, rfl, k3, ⟨k0, k1, k2⟩⟩
end
end Go.Proofs.YtlmlcnokiipilaaGreat

/- laws.FnExactRiseNeed: whatever the engine, it returns true, and the engine reads as it did. -/
namespace Go.Proofs.YtlmlcnokiipilaaGreat.fnExactRiseNeed
open Go.ChangeShapes Go.WideShapes Go.ChangeAt Go.RowKit Go.Proofs.YtlmlcnokiipilaaGreat
theorem own : ownKnob Tryz.prog.godebug = none := by kernel_rfl
theorem laidOut : laidOutB Tryz.prog = true := by kernel_rfl
set_option maxRecDepth 100000 in
theorem lifted (os : Os) (started : os.Started) (H : Type) (enc : TypeId × Value → H) :
    ReturnsInHanded {} Tryz.checked os 3 .any (Rows.fnExactRiseNeedSpec.pre6 enc Tryz.prog Tryz.f3 Rows.fnExactRiseNeedRow.domain false) (Rows.fnExactRiseNeedSpec.post enc Tryz.prog Tryz.f3 false true false false) := by
  refine returnsInHanded_of_change_sized (C := Tryz.checked) own started (by kernel_rfl) Tryz.func3
    (ChangeSpec.witness6 (enc := enc) (C := Tryz.checked) false ⟨#[], #[.agg #[.slice none 0 0, .slice none 0 0, .slice none 0 0, .int .i64 0, .bool false]], []⟩ 8 (by kernel_rfl) (by kernel_rfl) (by kernel_rfl) (by kernel_rfl)) ?_
  intro W base args ds gs before hval0 hW hcnd hsz0 _
  have hval : ∀ (j : Nat) t v, Tryz.f3.params[j]? = some t → args[j]? = some v → Value.okWide Tryz.prog W .any base t v := hval0
  have hW' := hW
  obtain ⟨p, q, hA0, hV, rfl, hfz, hnd⟩ := hW
  have hA : DataW.TrodAll enc Tryz.prog W 0 (fun _ => true) true Tryz.f3.params.toList args.toList ds p := hA0
  rw [Tryz.params3] at hA hval
  obtain ⟨v0, vs0, d0, ds0, p0, q0, hargs, rfl, rfl, h0, r0⟩ := trodAll_cons hA
  obtain ⟨rfl, rfl, rfl⟩ := trodAll_nil r0
  obtain rfl : args = #[v0] := by cases args; simp_all
  obtain ⟨rfl, rfl⟩ := trodVars_none hV
  have k0 := h0
  have lt0 : ∀ x ∈ p0, x.block < W.heap.size := by obtain ⟨m, hm⟩ := k0; exact DataW.trod_lt m _ _ _ hm
  obtain ⟨cs, rfl, hcs⟩ := okWide_struct Tryz.underlying25 (hval 0 25 v0 rfl rfl)
  obtain ⟨fuel, hf⟩ := h0
  obtain ⟨e, Ad, Am, Al, cd, cm, cl, he, hcl, hr⟩ := opens_engine hf
  obtain rfl : cs = #[.slice Ad e.disk.length cd, .slice Am e.mem.length cm, .slice Al e.log.length cl, .int .i64 e.safe, .bool e.down] := by
    apply Array.ext'
    simpa [Value.cells] using he
  clear hA0 hval0 hsz0 hval hA
  refine (FnExactRiseNeed_calls (w0 := W) hcl (Below.refl _ _) hr).mono fun e1 W' ⟨he1, bel⟩ => ?_
  subst he1
  exact ⟨_, rfl, _, _, _, [], _, [], hW', trodAll_mk1 (shut_bool Tryz.underlying4 _), (trodAll_cons_mk (Below.trod laidOut (by kernel_rfl) (of_decide_eq_true (by kernel_rfl)) k0 bel lt0) trodAll_mk0), rfl, bel.frame _, fun h => by cases h⟩
theorem k24b : (Rows.fnExactRiseNeedRow.lifted == Tryz.pinned.checked.prog.liftsFinal) = true := by
  rw [show Tryz.pinned.checked.prog.liftsFinal = false from lifts_final]
  rfl
theorem k24c : (Tryz.pinned.checked.prog.make == some Rows.fnExactRiseNeedRow.make) = true := by
  rw [show Tryz.pinned.checked.prog.make = some Make.cut from made_cut]
  rfl
set_option maxRecDepth 100000 in
set_option maxHeartbeats 8000000 in
theorem closed : joinedFacts Tryz.pinned.checked.prog 3 Tryz.f3 Rows.fnExactRiseNeedSpec Rows.fnExactRiseNeedRow = true := by
  simp only [joinedFacts, Bool.and_eq_true]
  exact ⟨⟨⟨⟨⟨⟨⟨⟨⟨⟨⟨⟨⟨⟨⟨⟨⟨⟨⟨⟨⟨⟨⟨⟨⟨⟨⟨⟨⟨⟨⟨(by as_aux_lemma => kernel_rfl), (by as_aux_lemma => kernel_rfl)⟩, (by as_aux_lemma => kernel_rfl)⟩, (by as_aux_lemma => kernel_rfl)⟩, (by as_aux_lemma => kernel_rfl)⟩, (by as_aux_lemma => kernel_rfl)⟩, (by as_aux_lemma => kernel_rfl)⟩, (by as_aux_lemma => kernel_rfl)⟩, (by as_aux_lemma => kernel_rfl)⟩, (by as_aux_lemma => kernel_rfl)⟩, (by as_aux_lemma => kernel_rfl)⟩, (by as_aux_lemma => kernel_rfl)⟩, (by as_aux_lemma => kernel_rfl)⟩, (by as_aux_lemma => kernel_rfl)⟩, (by as_aux_lemma => kernel_rfl)⟩, (by as_aux_lemma => kernel_rfl)⟩, (by as_aux_lemma => kernel_rfl)⟩, (by as_aux_lemma => kernel_rfl)⟩, (by as_aux_lemma => kernel_rfl)⟩, (by as_aux_lemma => kernel_rfl)⟩, (by as_aux_lemma => kernel_rfl)⟩, (by as_aux_lemma => kernel_rfl)⟩, (by as_aux_lemma => kernel_rfl)⟩, (by as_aux_lemma => kernel_rfl)⟩, (by as_aux_lemma => kernel_rfl)⟩, may_enter⟩, k24b⟩, k24c⟩, (by as_aux_lemma => kernel_rfl)⟩, (by as_aux_lemma => kernel_rfl)⟩, (by as_aux_lemma => kernel_rfl)⟩, (by as_aux_lemma => kernel_rfl)⟩
theorem over : Rows.fnExactRiseNeedRow.holds Tryz.pinned (OpenSpec.ofChange Rows.fnExactRiseNeedSpec) :=
  OpenClaim.holds_of_wide 3 Tryz.f3 rfl rfl rfl rfl rfl rfl rfl ⟨rfl, rfl, rfl, rfl, rfl⟩ rfl rfl rfl rfl rfl (by kernel_rfl) Tryz.func3 closed
    (of_decide_eq_true (by kernel_rfl)) (by unfold Func.isWrapper; first | (rw [if_pos (by decide +kernel)]; kernel_rfl) | (rw [if_neg (by decide +kernel)]; exact ⟨rfl, rfl⟩))
    (fun os started H enc _ => lifted os started H enc)
theorem proved : Rows.FnExactRiseNeedSaid := over
end Go.Proofs.YtlmlcnokiipilaaGreat.fnExactRiseNeed
namespace Go.Proofs.YtlmlcnokiipilaaGreat
/-- The row, under a short name, for the claim. -/
theorem fnExactRiseNeed_holds : Rows.FnExactRiseNeedSaid := fnExactRiseNeed.proved
end Go.Proofs.YtlmlcnokiipilaaGreat
