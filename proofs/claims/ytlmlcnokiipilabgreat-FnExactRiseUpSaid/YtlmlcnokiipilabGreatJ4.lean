/- A part of the proof: what the last text of the claim says leans on this one. -/
import Derived.Test.YtlmlcnokiipilabGreatJ3
/- The statements' marks written, and held: engines. -/
namespace Go.Proofs.YtlmlcnokiipilabGreat
open Go.RowKit Go.Proofs.YtlmlcnokiipilabGreatW.PrintWords Go.Proofs.YtlmlcnokiipilabGreatW.PrintLast Go.Proofs.YtlmlcnokiipilabGreatW.PrintMore
theorem cntE_few {e : Eng} (h : fewE e) : cntE e ≤ 5000000000000 ∧ cntP e.disk ≤ 2000000000000 ∧ cntP e.mem ≤ 2000000000000 ∧ e.log.length ≤ 1048576:=by
  have h1:=cntP_few h.1
  have h2:=cntP_few h.2.1
  have h3:=h.2.2
  unfold cntE
  omega
/-- An engine of the call's own, and which blocks are its. -/
structure OwnEk (w : World) (b : Nat) (ok : Nat → Prop) (vd vm vl : Value) (e : Eng) : Prop where
  ex : ∃ okd okm : Nat → Prop,(∀ k,okd k → okm k → False) ∧ (∀ k,okd k → ok k) ∧ (∀ k,okm k → ok k) ∧ OwnPk w b okd vd e.disk ∧ OwnPk w b okm vm e.mem
  l : OwnRs w b vl e.log
  lk : ∀ k,vl.ownBlock = some k → ok k
section
variable {w w1 : World} {b : Nat} {ok : Nat → Prop} {vd vm vl : Value} {e : Eng}
theorem OwnEk.E (h : OwnEk w b ok vd vm vl e) : OwnE w b vd vm vl e:=by
  obtain ⟨okd,okm,h1, -, -,h4,h5⟩:=h.ex
  exact ⟨⟨okd,okm,h1,h4,h5⟩,h.l⟩
theorem OwnE.toK (h : OwnE w b vd vm vl e) : OwnEk w b (fun k => b ≤ k ∧ k < w.heap.size) vd vm vl e:=by
  obtain ⟨⟨okd,okm,h1,h2,h3⟩,h4⟩:=h
  exact ⟨⟨fun k => okd k ∧ (b ≤ k ∧ k < w.heap.size),fun k => okm k ∧ (b ≤ k ∧ k < w.heap.size),fun k ha hb => h1 k ha.1 hb.1,fun k hk => hk.2,fun k hk => hk.2,Kd.S_mono (Kd.S_bound h2) (fun k hk => ⟨hk.1,hk.2.1,hk.2.2.1⟩),Kd.S_mono (Kd.S_bound h3) (fun k hk => ⟨hk.1,hk.2.1,hk.2.2.1⟩)⟩,h4,fun k hk => ⟨Kd.R_base h4 k hk,Kd.R_lt h4 k hk⟩⟩
theorem OwnEk.kept {S : Nat → Prop} (h : OwnEk w b ok vd vm vl e) (hk : Kept w w1 S) (hne : ∀ k,ok k → ¬ S k) : OwnEk w1 b ok vd vm vl e:=by
  obtain ⟨⟨okd,okm,h1,h2,h3,h4,h5⟩,hl,hlk⟩:=h
  exact ⟨⟨okd,okm,h1,h2,h3,Kd.S_kept h4 hk (fun k hx => hne k (h2 k hx)),Kd.S_kept h5 hk (fun k hx => hne k (h3 k hx))⟩,Kd.R_mono (Kd.R_kept (Kd.R_tight rfl hl) hk (fun k hx => hne k (hlk k hx.symm))) (fun _ _ => trivial),hlk⟩
theorem OwnEk.below (h : OwnEk w b ok vd vm vl e) (hb : Below w.heap.size w w1) : OwnEk w1 b ok vd vm vl e:=h.kept (S:=fun _ => False) (Kept.of_below hb _) (fun _ _ h => h)
theorem OwnEk.lower {b' : Nat} (h : OwnEk w b ok vd vm vl e) (hb : b' ≤ b) : OwnEk w b' ok vd vm vl e:=by
  obtain ⟨⟨okd,okm,h1,h2,h3,h4,h5⟩,hl,hlk⟩:=h
  exact ⟨⟨okd,okm,h1,h2,h3,Kd.S_lower h4 hb,Kd.S_lower h5 hb⟩,Kd.R_lower hl hb,hlk⟩
theorem OwnEk.mono {ok' : Nat → Prop} (h : OwnEk w b ok vd vm vl e) (hok : ∀ k,ok k → ok' k) : OwnEk w b ok' vd vm vl e:=by
  obtain ⟨⟨okd,okm,h1,h2,h3,h4,h5⟩,hl,hlk⟩:=h
  exact ⟨⟨okd,okm,h1,fun k hk => hok k (h2 k hk),fun k hk => hok k (h3 k hk),h4,h5⟩,hl,fun k hk => hok k (hlk k hk)⟩
/-- Its reading facts. -/
theorem OwnEk.C {A B C : Option Addr} {n m l a b' c : Nat} (h : OwnEk w b ok (.slice A n a) (.slice B m b') (.slice C l c) e) : EngC w e A B C:=by
  obtain ⟨A',a',B',b2,C',c',h1,h2,h3, -,hc⟩:=h.E.reads
  injection h1 with h1
  injection h2 with h2
  injection h3 with h3
  subst h1 h2 h3
  exact hc
/-- Its reading facts, at a world in which its blocks are as they were. -/
theorem EngC.kept {Ad Am Al : Option Addr} {cd cm cl : Nat} {S : Nat → Prop} (h : OwnEk w b ok (.slice Ad e.disk.length cd) (.slice Am e.mem.length cm) (.slice Al e.log.length cl) e) (hk : Kept w w1 S) (hne : ∀ k,ok k → ¬ S k) : EngC w1 e Ad Am Al:=by
  obtain ⟨A,a,B,b',C,c,h1,h2,h3, -,hc⟩:=(h.kept hk hne).E.reads
  injection h1 with h1
  injection h2 with h2
  injection h3 with h3
  subst h1 h2 h3
  exact hc
end
def RetMkE (w : World) (b : Nat) (ok : Nat → Prop) (vd vm vl : Value) (e : Eng) (k : Int) (x : Ending) (w' : World) : Prop:=x = .returned (.int .i64 (k + (cntE e : Int))) ∧ OwnEk w' b ok vd vm vl (mkE e k) ∧ Wrote w w' ok
set_option maxRecDepth 100000 in
set_option maxHeartbeats 8000000 in
theorem markEngine_calls {w : World} {b : Nat} {ok : Nat → Prop} {vd vm vl : Value} {e : Eng} (k : Int) (hk0 : 0 ≤ k) (hk1 : k ≤ 1000000) (hf : fewE e) (h : OwnEk w b ok vd vm vl e) : Calls Tryz.prog 17 #[e.ag vd vm vl, .int .i64 k] w (RetMkE w b ok vd vm vl e k):=by
  obtain ⟨c1,c2,c3,c4⟩:=cntE_few hf
  have hlk:=h.lk
  obtain ⟨okd,okm,h1,h2,h3,h4,h5⟩:=h.ex
  have hl:=h.l
  have hd : OwnPk w b (fun k => okd k ∧ some k ≠ vl.ownBlock) vd e.disk:=Kd.S_apart' h4 (rs_typed hl) pages_ne_recs
  have hm : OwnPk w b (fun k => okm k ∧ some k ≠ vl.ownBlock) vm e.mem:=Kd.S_apart' h5 (rs_typed hl) pages_ne_recs
  have hr : RR w b (fun k => some k = vl.ownBlock) vl e.log:=Kd.R_tight rfl hl
  obtain ⟨W1,hW1⟩ : ∃ W1,w.alloc (e.obox vd vm vl) = W1:=⟨_,rfl⟩
  have HW1:=As hW1
  have hb1 : Below w.heap.size w W1:=by rw [← hW1];exact bel_alloc (Below.refl _ _) _
  have hq1 : EgBox W1 w.heap.size e vd vm vl:=by rw [← hW1];exact EgBox.mk1 _ _ _ _ _
  have HD:=As (Kd.S_below hd hb1)
  have HM:=As (Kd.S_below hm hb1)
  have HR:=As (Kd.R_below hr hb1)
  have HB1:=As hb1
  have HQ1:=As hq1
  have HLK:=As hlk
  have H1:=As h1
  have H2:=As h2
  have H3:=As h3
  have hlt : ∀ k,(okd k ∧ some k ≠ vl.ownBlock) ∨ (okm k ∧ some k ≠ vl.ownBlock) ∨ some k = vl.ownBlock → True:=fun _ _ => trivial
  obtain ⟨a,ha⟩ : ∃ a : Int,(cntP e.disk : Int) = a:=⟨_,rfl⟩
  obtain ⟨a',ha'⟩ : ∃ a' : Int,(cntP e.mem : Int) = a':=⟨_,rfl⟩
  have HA:=As ha
  have HA':=As ha'
  have HN:=As (show 0 ≤ k + a ∧ k + a + a' ≤ 8000000000000000000 ∧ 0 ≤ k + a + a' ∧ k + a + a' + 8 * (e.log.length : Int) ≤ 8000000000000000000 ∧ k + a ≤ 8000000000000000000 by omega)
  have HK0:=As hk0
  -- the variable's block is none of the engine's
  have hsz : ∀ (W : World) (ps : List Page) (v : Value) (ok1 : Nat → Prop),OwnPk w b ok1 v ps → OwnPk W1 b (fun k => ok1 k ∧ k < w.heap.size) v ps:=fun W ps v ok1 hp => Kd.S_old hp hb1
  have hd1:=hsz W1 _ _ _ hd
  have hm1:=hsz W1 _ _ _ hm
  have hr1 : RR W1 b (fun k => some k = vl.ownBlock ∧ k < w.heap.size) vl e.log:=Kd.R_old hr hb1
  have HD1:=As hd1
  have HM1:=As hm1
  have HR1:=As hr1
  have x0:=hq1.c0
  clear hd hm hr hW1 hb1 hq1 HD HM HR hlk h1 h2 h3 h4 h5 hl h hlt ha ha' hk0 hk1 hsz hd1 hm1 hr1 c1 c2 c3 c4
  go_enter Tryz.func17,Tryz.ntmps17
  go_wp2_with (first
    | (go_at_call 26;go_loud (rw [HW1.out]);go_loud (refine (markPageS_calls k HK0.out (by rw [HA.out];exact HN.out.2.2.2.2) HD1.out).mono ?_);go_loud (unfold RetMkP;rw [HA.out]);rintro x w2 ⟨rfl,hs2,hk2⟩;have HS2:=As hs2;have HK2:=As hk2;have hq2 : EgBox w2 w.heap.size e vd vm vl:=(hk2.kept.2 _ HQ1.out.lt (fun hx => by have:=hx.2;omega)).trans HQ1.out;have HQ2:=As hq2;have x1:=hq2.c1;have HM2:=As (Kd.S_kept HM1.out hk2.kept (fun m hm hd => H1.out m hd.1.1 hm.1.1));have HR2:=As (Kd.R_kept HR1.out hk2.kept (fun m hm hd => hd.1.2 hm.1));clear hs2 hk2 hq2 x0)
    | (go_at_call 26;refine (markPageS_calls (k + a) HN.out.1 (by rw [HA'.out];exact HN.out.2.1) HM2.out).mono ?_;unfold RetMkP;rw [HA'.out];rintro x w3 ⟨rfl,hs3,hk3⟩;have HS3:=As hs3;have HK3:=As hk3;have hq3 : EgBox w3 w.heap.size e vd vm vl:=(hk3.kept.2 _ HQ2.out.lt (fun hx => by have:=hx.2;omega)).trans HQ2.out;have HQ3:=As hq3;have x2:=hq3.c2;have HD3:=As (Kd.S_kept HS2.out hk3.kept (fun m hd hm => H1.out m hd.1.1 hm.1.1));have HR3:=As (Kd.R_kept HR2.out hk3.kept (fun m hm hd => hd.1.2 hm.1));clear hs3 hk3 hq3 x1)
    | (go_at_call 51;refine (markRecS_calls (k + a + a') HN.out.2.2.1 HN.out.2.2.2.1 HR3.out).mono ?_;rintro x w4 ⟨rfl,hs4,hk4⟩;have HS4:=As hs4;have HK4:=As hk4;have HD4:=As (Kd.S_kept HD3.out hk4.kept (fun m hd hm => hd.1.2 hm.1));have HM4:=As (Kd.S_kept HS3.out hk4.kept (fun m hd hm => hd.1.2 hm.1));clear hs4 hk4))
  go_ret
  refine ⟨ret_int (by have:=HA.out;have:=HA'.out;unfold cntE;omega),⟨⟨fun m => (okd m ∧ some m ≠ vl.ownBlock) ∧ m < w.heap.size,fun m => (okm m ∧ some m ≠ vl.ownBlock) ∧ m < w.heap.size,fun m hm hn => H1.out m hm.1.1 hn.1.1,fun m hm => H2.out m hm.1.1,fun m hm => H3.out m hm.1.1,HD4.out,by unfold mkE;rw [HA.out];exact HM4.out⟩,?_,HLK.out⟩,?_⟩
  · unfold mkE
    rw [HA.out,HA'.out]
    exact Kd.R_mono HS4.out (fun _ _ => trivial)
  · exact (((Wrote.of_below HB1.out ok).then_ HK2.out (fun m hm => .inl (H2.out m hm.1.1))).then_ HK3.out (fun m hm => .inl (H3.out m hm.1.1))).then_ HK4.out (fun m hm => .inl (HLK.out m hm.1.symm))
set_option maxRecDepth 100000 in
set_option maxHeartbeats 8000000 in
theorem heldEngine_calls {w0 w : World} {e : Eng} {Ad Am Al : Option Addr} {cd cm cl : Nat} (k : Int) (hk0 : 0 ≤ k) (hk1 : k ≤ 1000000) (hf : fewE e) (hb : Below w0.heap.size w0 w) (hr : EngC w0 (mkE e k) Ad Am Al) : Calls Tryz.prog 18 #[e.val Ad Am Al cd cm cl, .int .i64 k] w fun x w' => x = .returned (.int .i64 (k + (cntE e : Int))) ∧ Below w.heap.size w w':=by
  obtain ⟨c1,c2,c3,c4⟩:=cntE_few hf
  have hr':=hr.up hb
  obtain ⟨a,ha⟩ : ∃ a : Int,(cntP e.disk : Int) = a:=⟨_,rfl⟩
  obtain ⟨a',ha'⟩ : ∃ a' : Int,(cntP e.mem : Int) = a':=⟨_,rfl⟩
  obtain ⟨h1,h2,h3⟩:=hr'
  have g1 : Kd.C kPage w Ad e.disk.length (mkPs e.disk k):=by have:=h1;rwa [show (mkE e k).disk.length = e.disk.length from mkPs_len _ _] at this
  have g2 : Kd.C kPage w Am e.mem.length (mkPs e.mem (k + a)):=by have:=h2;rw [show (mkE e k).mem.length = e.mem.length from mkPs_len _ _] at this;rw [← ha];exact this
  have g3 : Kd.C kRec w Al e.log.length (mkRs e.log.length (k + a + a')):=by have:=h3;rw [show (mkE e k).log.length = e.log.length from mkRs_len _ _] at this;rw [← ha, ← ha'];exact this
  have G1:=As g1
  have G2:=As g2
  have G3:=As g3
  have HA:=As ha
  have HA':=As ha'
  have HN:=As (show 0 ≤ k + a ∧ k + a + a' ≤ 8000000000000000000 ∧ 0 ≤ k + a + a' ∧ k + a + a' + 8 * (e.log.length : Int) ≤ 8000000000000000000 ∧ k + a ≤ 8000000000000000000 by omega)
  have HK0:=As hk0
  have z1 : decide (k + a < 0) = false:=by simp;omega
  have z2 : decide (k + a + a' < 0) = false:=by simp;omega
  have z3 : decide (k + a + a' + 8 * (e.log.length : Int) < 0) = false:=by simp;omega
  obtain ⟨W1,hW1⟩ : ∃ W1,w.alloc (e.obox (.slice Ad e.disk.length cd) (.slice Am e.mem.length cm) (.slice Al e.log.length cl)) = W1:=⟨_,rfl⟩
  have HW1:=As hW1
  have HB1 : Aside0 (Below w.heap.size w W1):=⟨by rw [← hW1];exact bel_alloc (Below.refl _ _) _⟩
  have hq1 : EgBox W1 w.heap.size e (.slice Ad e.disk.length cd) (.slice Am e.mem.length cm) (.slice Al e.log.length cl):=by rw [← hW1];exact EgBox.mk1 _ _ _ _ _
  have x0:=hq1.c0
  have x1:=hq1.c1
  have x2:=hq1.c2
  clear c1 c2 c3 c4 h1 h2 h3 g1 g2 g3 ha ha' hr hb hk0 hk1 hW1 hq1
  go_enter Tryz.func18,Tryz.ntmps18
  go_wp2_with (first
    | (go_at_call 27;rw [HW1.out];refine (heldPageS_calls (w0:=w) (c:=cd) k HK0.out (by rw [HA.out];exact HN.out.2.2.2.2) HB1.out G1.out).mono ?_;rw [HA.out];rintro x w2 ⟨rfl,rfl⟩)
    | (go_at_call 27;refine (heldPageS_calls (w0:=w) (c:=cm) (k + a) HN.out.1 (by rw [HA'.out];exact HN.out.2.1) HB1.out G2.out).mono ?_;rw [HA'.out];rintro x w3 ⟨rfl,rfl⟩)
    | (go_at_call 52;refine (heldRecS_calls (w0:=w) (c:=cl) (k + a + a') HN.out.2.2.1 HN.out.2.2.2.1 HB1.out G3.out).mono ?_;rintro x w4 ⟨rfl,rfl⟩))
  go_ret
  exact ⟨ret_int (by have:=HA.out;have:=HA'.out;unfold cntE;omega),HB1.out⟩
end Go.Proofs.YtlmlcnokiipilabGreat
/- When a step of an undoing can be made: of any engine that is ok, and rises; of one that plays made; in plain Lean. -/
namespace Go.Proofs.YtlmlcnokiipilabGreat
/-- May a record be applied to a page? -/
def recDoB (P : Page) (r : Rec) (n : Int) : Bool:=pageOk P && (recOk r && (chgB r.kind && (decide (P.lsn < n) && (decide (n ≤ 150) && pageOk (doR P r n)))))
structure StepOk (e : Eng) (tx : Int) : Prop where
  log : logOk e.log = true
  geo : geo e.mem
  t1 : 1 ≤ tx
  t3 : tx ≤ 3
  l150 : e.log.length + 1 ≤ 150
  may : chgB (stepR e tx).kind = true → recDoB (pg e.mem (stepR e tx).page.toNat) (stepR e tx) (e.log.length + 1 : Nat) = true
  log' : logOk (e.log ++ [stepR e tx]) = true
  room : e.log.length + 1 + needAt (e.log ++ [stepR e tx]) (e.log.length + 1) ≤ 150
/-- Pages that part in their records' numbers alone. -/
structure Sim (ps qs : List Page) : Prop where
  l : ps.length = 5
  l' : qs.length = 5
  lsn : ∀ p,p < 5 → 0 ≤ (pg qs p).lsn ∧ (pg qs p).lsn ≤ 150
  owner : ∀ p,p < 5 → (pg qs p).owner = (pg ps p).owner
  vals : ∀ p,p < 5 → (pg qs p).vals = (pg ps p).vals
theorem withR_sim {P Q : Page} (r : Rec) (ho : Q.owner = P.owner) (hv : Q.vals = P.vals) : (withR Q r).owner = (withR P r).owner ∧ (withR Q r).vals = (withR P r).vals:=by
  unfold withR
  split
  · exact ⟨ho,by simp only;rw [hv]⟩
  · split
    · exact ⟨rfl,rfl⟩
    · exact ⟨rfl,hv⟩
theorem undoB_sim {l : List Rec} : ∀ {ms : List Nat} {ps qs : List Page},(∀ m ∈ ms,0 ≤ (rc l (m - 1)).page ∧ (rc l (m - 1)).page < 5) → Sim ps qs → undoB l ps ms = true → undoB l qs ms = true
  | [],_,_,_,_,_ => rfl
  | m :: ms,ps,qs,hm,hs,h => by
    have h5:=hm m (by simp)
    rw [undoB,Bool.and_eq_true] at h ⊢
    have hp : (rc l (m - 1)).page.toNat < 5:=by omega
    have hw:=withR_sim (backR (rc l (m - 1)) 0) (hs.owner _ hp) (hs.vals _ hp)
    have hl:=hs.lsn _ hp
    refine ⟨?_,undoB_sim (fun x hx => hm x (by simp [hx])) ⟨by simpa using hs.l,by simpa using hs.l',fun p hp5 => ?_,fun p hp5 => ?_,fun p hp5 => ?_⟩ h.2⟩
    · have h1:=pageOk_lsn (k:=(pg qs (rc l (m - 1)).page.toNat).lsn) h.1 hl.1 hl.2
      rw [← hw.1, ← hw.2] at h1
      rw [← withR_lsn (pg qs (rc l (m - 1)).page.toNat) (backR (rc l (m - 1)) 0)] at h1
      exact h1
    · rw [pg_set (by rw [hs.l'];exact hp)]
      split
      · rw [withR_lsn];exact hl
      · exact hs.lsn p hp5
    · rw [pg_set (by rw [hs.l'];exact hp),pg_set (by rw [hs.l];exact hp)]
      split
      · exact hw.1
      · exact hs.owner p hp5
    · rw [pg_set (by rw [hs.l'];exact hp),pg_set (by rw [hs.l];exact hp)]
      split
      · exact hw.2
      · exact hs.vals p hp5
theorem undoB_congr {l l' : List Rec} {n : Nat} (h : Agree l l' n) : ∀ {ms : List Nat} {ps : List Page},(∀ m ∈ ms,0 < m ∧ m ≤ n) → undoB l ps ms = undoB l' ps ms
  | [],_,_ => rfl
  | m :: ms,ps,hm => by
    have:=hm m (by simp)
    rw [undoB,undoB,h (m - 1) (by omega),undoB_congr h (fun x hx => hm x (by simp [hx]))]
/-- What holds while an engine is undone, these being still to be undone. -/
structure UndL (e : Eng) (ms : List Nat) : Prop where
  log : logOk e.log = true
  mem : psOk e.mem = true
  lsn : ∀ p,p < 5 → (pg e.mem p).lsn ≤ e.log.length
  und : undoB e.log e.mem ms = true
  room : e.log.length + needAt e.log e.log.length ≤ 150
theorem UndL.one {e : Eng} {ms : List Nat} (h : UndL e ms) {tx : Int} (ht : tx = 1 ∨ tx = 2 ∨ tx = 3) (hlast : lastT e tx ≠ 0) : e.log.length + 1 ≤ 150:=by
  have h1:=h.room
  have h3 : cst e.log tx e.log.length ≥ 1:=by rw [cst,if_neg hlast];omega
  have h4 : cst e.log tx e.log.length ≤ needAt e.log e.log.length:=by
    rw [needAt]
    rcases ht with rfl | rfl | rfl <;> omega
  omega
theorem UndL.stepOk {e : Eng} {tx : Int} {rest : List Nat} (h : UndL e (U e.log tx e.log.length ++ rest)) (ht : tx = 1 ∨ tx = 2 ∨ tx = 3) (hlast : lastT e tx ≠ 0) : StepOk e tx:=by
  have h1:=h.one ht hlast
  have hk:=step_kind (e:=e) h.log tx
  have hl':=hk.log h.log (by omega) h1
  have hn:=hk.need h.log ht h1 hlast
  have hr:=h.room
  refine ⟨h.log,psOk_geo h.mem,by omega,by omega,h1,fun hc => ?_,hl',by omega⟩
  have hok:=hk.ok h.log (by omega)
  have hund:=h.und
  have hmem:=psOk_iff.1 h.mem
  have hls:=h.lsn
  generalize stepR e tx = r at hk hok hc ⊢
  cases hk with
  | fin hU => simp [chgB] at hc
  | undo m ms hU h0 hm hkk htx =>
    have hrec:=und_rec h.log h0 hm hkk
    rw [hU,List.cons_append,undoB,Bool.and_eq_true] at hund
    have hp : (rc e.log (m - 1)).page.toNat < 5:=by omega
    have hl5:=hls _ hp
    simp only [recDoB,Bool.and_eq_true,decide_eq_true_eq]
    refine ⟨hmem.2 _ hp,hok,hc,?_,by omega,?_⟩
    · show (pg e.mem (rc e.log (m - 1)).page.toNat).lsn < ((e.log.length + 1 : Nat) : Int)
      omega
    · rw [doR_withR]
      exact pageOk_lsn hund.1 (by omega) (by omega)
theorem UndL.step {e : Eng} {tx : Int} {rest : List Nat} (h : UndL e (U e.log tx e.log.length ++ rest)) (ht : tx = 1 ∨ tx = 2 ∨ tx = 3) (hlast : lastT e tx ≠ 0) (hrest : ∀ m ∈ rest,0 < m ∧ m ≤ e.log.length ∧ 0 ≤ (rc e.log (m - 1)).page ∧ (rc e.log (m - 1)).page < 5) : UndL (stepE e tx) ((U e.log tx e.log.length).tail ++ rest):=by
  have h1:=h.one ht hlast
  have hk:=step_kind (e:=e) h.log tx
  have hl':=hk.log h.log (by omega) h1
  have hn:=hk.need h.log ht h1 hlast
  have hr:=h.room
  have hmem:=psOk_iff.1 h.mem
  have hso:=h.stepOk ht hlast
  have hM:=fun p => app_mem hmem.1 (step_page h.log tx) p
  have hA:=agree_app e.log [stepR e tx]
  have hLl : (stepE e tx).log = e.log ++ [stepR e tx]:=rfl
  have hM : ∀ p : Nat,pg (stepE e tx).mem p = if chgB (stepR e tx).kind = true ∧ (stepR e tx).page = (p : Int) then doR (pg e.mem p) (stepR e tx) (e.log.length + 1 : Nat) else pg e.mem p:=hM
  have hml : (stepE e tx).mem.length = 5:=by unfold stepE;rw [app_mlen];exact hmem.1
  have hUr : ∀ m ∈ U e.log tx e.log.length,0 < m ∧ m ≤ e.log.length ∧ 0 ≤ (rc e.log (m - 1)).page ∧ (rc e.log (m - 1)).page < 5:=fun m hm => by
    have h2:=U_mem hm
    have h3:=und_rec h.log h2.1 h2.2 (U_kind h.log (Nat.le_refl _) hm)
    exact ⟨h2.1,h2.2,h3.2.1,h3.2.2.1⟩
  have hpage : ∀ p : Nat,p < 5 → pageOk (pg (stepE e tx).mem p) = true:=fun p hp => by
    rw [hM p]
    split
    · rename_i hc
      have:=hso.may hc.1
      simp only [recDoB,Bool.and_eq_true,decide_eq_true_eq] at this
      rw [show (stepR e tx).page.toNat = p by omega] at this
      exact this.2.2.2.2.2
    · exact hmem.2 p hp
  refine ⟨by rw [hLl];exact hl',psOk_iff.2 ⟨hml,hpage⟩,fun p hp => ?_,?_,by rw [hLl];simp only [List.length_append,List.length_singleton];omega⟩
  · rw [hM p,hLl]
    simp only [List.length_append,List.length_singleton]
    split
    · exact Int.le_refl _
    · have:=h.lsn p hp;omega
  · have hund:=h.und
    rw [hLl]
    generalize stepR e tx = r at hk hl' hn hA hM
    cases hk with
    | fin hU =>
      rw [hU,List.nil_append] at hund
      rw [hU,List.tail_nil,List.nil_append,undoB_congr hA (fun m hm => by have:=hrest m hm;omega)]
      refine undoB_sim (fun m hm => (hrest m hm).2.2) ⟨hmem.1,hml,fun p hp => ?_,fun p hp => ?_,fun p hp => ?_⟩ hund
      · have:=pageOk_iff.1 (hpage p hp);exact ⟨this.1,this.2.1⟩
      · rw [hM p,if_neg (fun hc => by simp [chgB] at hc)]
      · rw [hM p,if_neg (fun hc => by simp [chgB] at hc)]
    | undo m ms hU h0 hm hkk htx =>
      rw [hU,List.cons_append,undoB,Bool.and_eq_true] at hund
      rw [hU] at hUr
      have hmr:=hUr m (by simp)
      have hmp : (rc e.log (m - 1)).page.toNat < 5:=by omega
      rw [hU,List.tail_cons,undoB_congr hA (fun x hx => by
        rcases List.mem_append.1 hx with hx | hx
        · have:=hUr x (by simp [hx]);omega
        · have:=hrest x hx;omega)]
      refine undoB_sim (fun x hx => ?_) ⟨by simpa using hmem.1,hml,fun p hp => ?_,fun p hp => ?_,fun p hp => ?_⟩ hund.2
      · rcases List.mem_append.1 hx with hx | hx
        · exact (hUr x (by simp [hx])).2.2
        · exact (hrest x hx).2.2
      · have:=pageOk_iff.1 (hpage p hp);exact ⟨this.1,this.2.1⟩
      · rw [hM p,pg_set (by rw [hmem.1];exact hmp)]
        by_cases e1 : (rc e.log (m - 1)).page.toNat = p
        · rw [if_pos ⟨rfl,by show (rc e.log (m - 1)).page = _;omega⟩,if_pos e1, ← e1];rfl
        · rw [if_neg (fun hc => e1 (by have h2 : (rc e.log (m - 1)).page = (p : Int):=hc.2;omega)),if_neg e1]
      · rw [hM p,pg_set (by rw [hmem.1];exact hmp)]
        by_cases e1 : (rc e.log (m - 1)).page.toNat = p
        · rw [if_pos ⟨rfl,by show (rc e.log (m - 1)).page = _;omega⟩,if_pos e1, ← e1];rfl
        · rw [if_neg (fun hc => e1 (by have h2 : (rc e.log (m - 1)).page = (p : Int):=hc.2;omega)),if_neg e1]
theorem undR_three (l : List Rec) : undR l 3 = U l 1 l.length ++ (U l 2 l.length ++ U l 3 l.length):=by
  have e1 : (3 - ((2 : Nat) : Int)) = 1:=rfl
  have e2 : (3 - ((1 : Nat) : Int)) = 2:=rfl
  have e3 : (3 - ((0 : Nat) : Int)) = 3:=rfl
  rw [undR,undR,undR,undR,e1,e2,e3,List.append_nil]
  rfl
/-- What holds while an engine rises, whatever made it. -/
def RiseOk (e : Eng) : Prop:=UndL e (undR e.log 3)
theorem lastT_U {e : Eng} {t : Int} (h : lastT e t = 0) : U e.log t e.log.length = []:=by rw [U,show lastN e.log t e.log.length = 0 from h,undN_zero]
theorem RiseOk.step {e : Eng} (h : RiseOk e) (h0 : firstO e ≠ 0) : StepOk e (firstO e) ∧ RiseOk (stepE e (firstO e)) ∧ needAt (stepE e (firstO e)).log (stepE e (firstO e)).log.length + 1 = needAt e.log e.log.length:=by
  obtain ⟨ht,hlast⟩:=firstO_some h0
  have hlt:=h
  unfold RiseOk at h ⊢
  obtain ⟨rest,hrest,hr2,hr3⟩ : ∃ rest,undR e.log 3 = U e.log (firstO e) e.log.length ++ rest ∧ (∀ m ∈ rest, ∃ t,m ∈ U e.log t e.log.length) ∧ ∀ l' : List Rec,(∀ t,t ≠ firstO e → U l' t l'.length = U e.log t e.log.length) → undR l' 3 = U l' (firstO e) l'.length ++ rest:=by
    rw [undR_three]
    by_cases h1 : lastT e 1 = 0
    · by_cases h2 : lastT e 2 = 0
      · by_cases h3 : lastT e 3 = 0
        · exact absurd (show firstO e = 0 by unfold firstO;rw [if_neg (by simpa using h1),if_neg (by simpa using h2),if_neg (by simpa using h3)]) h0
        · have hf : firstO e = 3:=by unfold firstO;rw [if_neg (by simpa using h1),if_neg (by simpa using h2),if_pos h3]
          rw [hf,lastT_U h1,lastT_U h2]
          refine ⟨[],by simp,fun m hm => (by cases hm),fun l' hl => ?_⟩
          rw [undR_three,hl 1 (by decide),hl 2 (by decide),lastT_U h1,lastT_U h2];simp
      · have hf : firstO e = 2:=by unfold firstO;rw [if_neg (by simpa using h1),if_pos h2]
        rw [hf,lastT_U h1]
        refine ⟨U e.log 3 e.log.length,by simp,fun m hm => ⟨3,hm⟩,fun l' hl => ?_⟩
        rw [undR_three,hl 1 (by decide),hl 3 (by decide),lastT_U h1];simp
    · have hf : firstO e = 1:=by unfold firstO;rw [if_pos h1]
      rw [hf]
      refine ⟨U e.log 2 e.log.length ++ U e.log 3 e.log.length,rfl,fun m hm => ?_,fun l' hl => ?_⟩
      · rcases List.mem_append.1 hm with hm | hm
        · exact ⟨2,hm⟩
        · exact ⟨3,hm⟩
      · rw [undR_three,hl 2 (by decide),hl 3 (by decide)]
  rw [hrest] at h
  have h1:=h.one ht hlast
  have hk:=step_kind (e:=e) h.log (firstO e)
  have hn:=hk.next h.log (by omega) h1
  have hd:=hk.need h.log ht h1 hlast
  have hlen : (stepE e (firstO e)).log.length = e.log.length + 1:=stepE_len _ _
  have hLl : (stepE e (firstO e)).log = e.log ++ [stepR e (firstO e)]:=rfl
  refine ⟨h.stepOk ht hlast,?_,by rw [hlen,hLl];exact hd⟩
  rw [hr3 (stepE e (firstO e)).log (fun t hne => by rw [hlen,hLl];exact (hn.2.1 t hne).1)]
  rw [show U (stepE e (firstO e)).log (firstO e) (stepE e (firstO e)).log.length = (U e.log (firstO e) e.log.length).tail by rw [hlen,hLl];exact hn.1]
  refine h.step ht hlast fun m hm => ?_
  obtain ⟨t,hmt⟩:=hr2 m hm
  have h2:=U_mem hmt
  have h3:=und_rec h.log h2.1 h2.2 (U_kind h.log (Nat.le_refl _) hmt)
  exact ⟨h2.1,h2.2,h3.2.1,h3.2.2.1⟩
/-- What is known of an engine that is ok. -/
structure OkF (e : Eng) : Prop where
  disk : psOk e.disk = true
  mem : psOk e.mem = true
  log : logOk e.log = true
  s0 : 0 ≤ e.safe
  s1 : e.safe ≤ e.log.length
  fits : fitsB e.log = true
  pref : ∀ n : Nat,e.safe ≤ n → n ≤ e.log.length → prefB e n = true
  page : ∀ p,p < 5 → pageB e p = true
theorem okF_iff {e : Eng} : eOk e = true ↔ OkF e:=by
  simp only [eOk,Bool.and_eq_true,inB_iff,prefsB_iff,List.all_eq_true,List.mem_range]
  constructor
  · rintro ⟨h1,h2,h3,⟨h4,h5⟩,h6,h7,h8⟩
    exact ⟨h1,h2,h3,h4,h5,h6,fun n ha hb => h7 n (by omega) (by omega),h8⟩
  · rintro ⟨h1,h2,h3,h4,h5,h6,h7,h8⟩
    exact ⟨h1,h2,h3,⟨h4,h5⟩,h6,fun n ha hb => h7 n (by omega) (by omega),h8⟩
theorem OkF.dlsn {e : Eng} (h : OkF e) {p : Nat} (hp : p < 5) : (pg e.disk p).lsn ≤ e.safe:=by
  have:=h.page p hp
  simp only [pageB,Bool.and_eq_true,decide_eq_true_eq] at this
  exact this.1.2
theorem OkF.rise {e : Eng} (h : OkF e) : RiseOk { e with mem:=redoN e.disk e.log e.log.length }:=by
  have hp:=h.pref e.log.length h.s1 (Nat.le_refl _)
  have hd:=psOk_iff.1 h.disk
  rw [prefB,List.take_length,Bool.and_eq_true,undoneB,undAll_open] at hp
  have hf:=h.fits
  rw [fitsB,need_at,decide_eq_true_eq] at hf
  refine ⟨h.log,hp.1,fun p hp5 => ?_,hp.2,hf⟩
  show (pg (redoN e.disk e.log e.log.length) p).lsn ≤ (e.log.length : Int)
  rw [pg_redo hd.1 (fun k hk => (logOk_facts h.log hk).ok) p _ (Nat.le_refl _)]
  have h1:=redo1_lsn (P:=pg e.disk p) (l:=e.log) (p:=p) e.log.length
  have h2:=h.dlsn hp5
  have h3:=h.s1
  omega
theorem UndInv.stepOk {e : Eng} {C : Nat → Page} {B : Nat} {tx : Int} (h : UndInv e C B tx) (ht : tx = 1 ∨ tx = 2 ∨ tx = 3) (hlast : lastT e tx ≠ 0) : StepOk e tx:=by
  have h1:=h.core.one ht hlast
  have hk:=step_kind (e:=e) h.core.log tx
  have hl':=hk.log h.core.log (by omega) h1
  have hn:=hk.need h.core.log ht h1 hlast
  have hr:=h.core.room e.log.length (Nat.le_refl _)
  have hb:=h.core.b150
  have hs:=fun p hp => (h.step ht hlast).upm p hp
  have hps : psOk e.mem = true:=psOk_iff.2 ⟨h.mlen,fun p hp => (h.upm p hp).ok⟩
  refine ⟨h.core.log,psOk_geo hps,by omega,by omega,h1,fun hc => ?_,hl',by omega⟩
  have hok:=hk.ok h.core.log (by omega)
  have hpg:=step_page h.core.log tx hc
  have hpn : (nextU e tx).page.toNat < 5:=by omega
  have hmem:=app_mem h.mlen (step_page h.core.log tx) (nextU e tx).page.toNat
  rw [if_pos ⟨hc,by omega⟩] at hmem
  have hs1:=(hs _ hpn).ok
  rw [show pg (stepE e tx).mem (nextU e tx).page.toNat = _ from hmem] at hs1
  have hl:=(h.upm _ hpn).lsn
  simp only [recDoB,Bool.and_eq_true,decide_eq_true_eq]
  refine ⟨(h.upm _ hpn).ok,hok,hc,?_,by omega,hs1⟩
  show (pg e.mem (nextU e tx).page.toNat).lsn < ((e.log.length + 1 : Nat) : Int)
  omega
open Go.RowKit Go.Proofs.YtlmlcnokiipilabGreatW.PrintWords Go.Proofs.YtlmlcnokiipilabGreatW.PrintLast Go.Proofs.YtlmlcnokiipilabGreatW.PrintMore
/-- A call that hands back a page of its own, and a yes. -/
def RetPT (w : World) (p : Page) (x : Ending) (w' : World) : Prop := ∃ v,x = .returned (.tuple #[p.own v, .bool true]) ∧ OwnI w' w.heap.size v p.vals ∧ Below w.heap.size w w'
set_option maxRecDepth 100000 in
set_option maxHeartbeats 8000000 in
theorem RecDo_calls {w0 w : World} {A : Option Addr} {c : Nat} {p : Page} {r : Rec} {n : Int} (hv : recDoB p r n = true) (hb : Below w0.heap.size w0 w) (hr : Kd.C (Kd.int .i64) w0 A p.vals.length p.vals) : Calls Tryz.prog 166 #[p.val A c,r.val, .int .i64 n] w (RetPT w (doR p r n)):=by
  have HR:=As (C_up hr hb)
  simp only [recDoB,Bool.and_eq_true,decide_eq_true_eq] at hv
  obtain ⟨v1,v2,v3,v4,v5,v6⟩:=hv
  have HV1:=As v1
  have HV2:=As v2
  have HV3:=As v3
  have HV6:=As v6
  have hp3:=(pageOk_iff.1 v1).2.2.2.2.1
  have HP3L:=As hp3
  have hslot:=(chg_page v2 v3)
  have HSL:=As (show r.slot < p.vals.length by rw [hp3];omega)
  clear hr hb v1 v2 v3 v6 hp3 hslot
  obtain ⟨W1,hW1⟩ : ∃ W1,w.alloc (p.box A c) = W1:=⟨_,rfl⟩
  obtain ⟨W2,hW2⟩ : ∃ W2,W1.alloc r.box = W2:=⟨_,rfl⟩
  obtain ⟨W3,hW3⟩ : ∃ W3,W2.alloc pageCell = W3:=⟨_,rfl⟩
  have Z1 : W1.heap.size = w.heap.size + 1:=by rw [← hW1,size1]
  have Z2 : W2.heap.size = w.heap.size + 2:=by rw [← hW2,size1,Z1]
  have Z3 : W3.heap.size = w.heap.size + 3:=by rw [← hW3,size1,Z2]
  have hR3 : RecAt W3 ⟨w.heap.size + 1,0,none⟩ r:=by
    have:=rbox_at W1 r
    rw [Z1,hW2] at this
    rw [← hW3]
    exact this.up (bel_alloc (Below.refl _ _) _)
  have hP3 : PgBox W3 (w.heap.size + 2) zp (.slice none 0 0):=by
    have:=PgBox.mk1 W2 zp (.slice none 0 0)
    rw [Z2] at this
    rw [← hW3]
    exact this
  have hA3 : PgBox W3 w.heap.size p (.slice A p.vals.length c):=by
    rw [← hW3, ← hW2, ← hW1]
    exact (PgBox.mk1 w p _).up (bel_alloc (bel_alloc (Below.refl _ _) _) _)
  have hB3 : Below w.heap.size w W3:=by
    rw [← hW3, ← hW2, ← hW1]
    exact bel_alloc (bel_alloc (bel_alloc (Below.refl _ _) _) _) _
  have HW3 : Aside0 (((w.alloc (p.box A c)).alloc r.box).alloc pageCell = W3):=⟨by rw [hW1,hW2,hW3]⟩
  have HR3:=As hR3
  have HP3:=As hP3
  have HA3:=As hA3
  have HB3:=As hB3
  have HZ3:=As Z3
  clear hW1 hW2 hW3 Z1 Z2 Z3 hR3 hP3 hA3 hB3
  go_enter Tryz.func166,Tryz.ntmps166
  go_wp2_with (first | (go_at_call 131;rw [HW3.out];refine (PageOk_calls (c:=c) HV1.out HB3.out HR.out).mono ?_;rintro x w4 ⟨rfl,hb4⟩;have HB4:=As hb4;obtain ⟨-,z1,z2,z3,z4,z5,z6,z7⟩:=HR3.out.up hb4;have z0:=(HR3.out.up hb4).c0;simp only [Nat.zero_add] at z1 z2 z3 z4 z5 z6 z7;have a0:=(HA3.out.up hb4).c0;have a1:=(HA3.out.up hb4).c1;have a2:=(HA3.out.up hb4).c2;clear hb4) | (go_at_call 132;refine (RecOk_calls HV2.out _).mono ?_;rintro x w5 ⟨rfl,hb5⟩;have HB5:=As (bt HB4.out hb5);replace z0:=bc hb5 z0;replace z1:=bc hb5 z1;replace z2:=bc hb5 z2;replace z3:=bc hb5 z3;replace z4:=bc hb5 z4;replace z5:=bc hb5 z5;replace z6:=bc hb5 z6;replace z7:=bc hb5 z7;replace a0:=bc hb5 a0;replace a1:=bc hb5 a1;replace a2:=bc hb5 a2;clear hb5) | (go_at_call 105;refine (changes_is HV3.out _).mono ?_;rintro x w6 ⟨rfl,hb6⟩;have HB6:=As (bt HB5.out hb6);replace z0:=bc hb6 z0;replace z1:=bc hb6 z1;replace z2:=bc hb6 z2;replace z3:=bc hb6 z3;replace z4:=bc hb6 z4;replace z5:=bc hb6 z5;replace z6:=bc hb6 z6;replace z7:=bc hb6 z7;replace a0:=bc hb6 a0;replace a1:=bc hb6 a1;replace a2:=bc hb6 a2;clear hb6) | (go_at_call 106;refine (with_calls (w0:=w) r (by rw [HP3L.out];decide) HSL.out (bt HB3.out HB6.out) HR.out).mono ?_;rintro x w7 ⟨v,rfl,ho,hb7⟩;obtain ⟨A1,c1,rfl, -,hC⟩:=ho.reads;have HC7:=As hC;have HO:=As ho;have HB7:=As (bt HB6.out hb7);have HN7:=As hb7.size;clear ho hb7 hC) | (go_at_call 131;obtain ⟨w8,hw8⟩ : ∃ w8,w7.alloc (.cells #[.int .i64 n, .int .i64 (withR p r).owner, .slice A1 (withR p r).vals.length c1] 81) = w8:=⟨_,rfl⟩;have hx8 : Below w7.heap.size w7 w8:=(by rw [← hw8];exact bel_alloc (Below.refl _ _) _);have hq8 : PgBox w8 w7.heap.size (doR p r n) (.slice A1 (withR p r).vals.length c1):=(by rw [← hw8];exact PgBox.mk1 w7 (doR p r n) _);rw [hw8];refine (PageOk_calls (p:=doR p r n) (A:=A1) (c:=c1) HV6.out (Below.refl w8.heap.size w8) (C_up HC7.out hx8)).mono ?_;rintro x w9 ⟨rfl,hb9⟩;have q0:=(hq8.up hb9).c0;have q1:=(hq8.up hb9).c1;have q2:=(hq8.up hb9).c2;have HB9:=As (bt (bt HB7.out hx8) hb9);have HO9:=As (HO.out.below (bt hx8 hb9));have HP9:=As (HP3.out.up HB9.out);have y0:=HP9.out.c0;have y1:=HP9.out.c1;have y2:=HP9.out.c2;have f0:=HP9.out.frz 0;have f1:=HP9.out.frz 1;have f2:=HP9.out.frz 2;clear hw8 hx8 hq8 hb9))
  have hs6 : w.heap.size + 3 ≤ w6.heap.size:=by have:=HB6.out.size;have:=HZ3.out;omega
  have h1:=HO9.out.set3 (g:=w.heap.size + 2) (by omega) (doR p r n) (.slice A1 (withR p r).vals.length c1)
  have h2:=bel_set3 (g:=w.heap.size + 2) (bt HB3.out HB9.out) (by omega) (doR p r n) (.slice A1 (withR p r).vals.length c1)
  have hy:=HP9.out.set3 (doR p r n) (.slice A1 (withR p r).vals.length c1)
  have z0:=hy.c0
  have z1:=hy.c1
  have z2:=hy.c2
  exact bodyPost_ret (v:=.tuple #[(doR p r n).own (.slice A1 (withR p r).vals.length c1), .bool true]) (by simp [results,Tryz.results166,go_sem,z0,z1,z2]) rfl ⟨_,rfl,h1.lower (by omega),h2⟩
theorem take_ok {l : List Rec} (hl : logOk l = true) (n : Nat) : ∀ k,k < (l.take n).length → recOk (rc (l.take n) k) = true:=fun k hk => (logOk_facts (logOk_take hl n) hk).ok
set_option maxRecDepth 100000 in
set_option maxHeartbeats 4000000 in
theorem prefixesOk_calls {w0 w : World} {e : Eng} {Ad Am Al : Option Addr} {cd cm cl : Nat} {b : Bool} (hv : prefsB e (e.log.length + 1 - e.safe.toNat) e.safe.toNat = b) (hs0 : 0 ≤ e.safe) (hs1 : e.safe ≤ e.log.length) (hg : geo e.disk) (hl : logOk e.log = true) (hcl : e.log.length ≤ cl) (hb : Below w0.heap.size w0 w) (hr : EngC w0 e Ad Am Al) : Calls Tryz.prog 79 #[e.val Ad Am Al cd cm cl] w fun x w' => x = .returned (.bool b) ∧ Below w.heap.size w w':=by
  have HR:=As (hr.up hb)
  have HG:=As hg
  have HL:=As hl
  have HV:=As hv
  have hm:=logOk_len hl
  obtain ⟨s,hs⟩ : ∃ s : Nat,e.safe = s:=⟨e.safe.toNat,by omega⟩
  have HS:=As hs
  have hs2 : s ≤ e.log.length:=by omega
  clear hr hb hg hl hv hs0 hs1 hs
  obtain ⟨w1,hw1⟩ : ∃ w1,w.alloc (e.obox (.slice Ad e.disk.length cd) (.slice Am e.mem.length cm) (.slice Al e.log.length cl)) = w1:=⟨_,rfl⟩
  have HW1:=As hw1
  have HB1 : Aside0 (Below w.heap.size w w1):=⟨by rw [← hw1];exact bel_alloc (Below.refl _ _) _⟩
  have HQ1 : Aside0 (EgBox w1 w.heap.size e (.slice Ad e.disk.length cd) (.slice Am e.mem.length cm) (.slice Al e.log.length cl)):=⟨by rw [← hw1];exact EgBox.mk1 _ _ _ _ _⟩
  clear hw1
  go_enter Tryz.func79,Tryz.ntmps79
  go_wp2
  rw [HW1.out]
  go_loopw [3] (fun i wr => ∃ n : Nat,s ≤ n ∧ n ≤ e.log.length + 1 ∧ i = .int .i64 (n : Int) ∧ Aside0 (prefsB e (e.log.length + 1 - n) n = b) ∧ Aside0 (Below w1.heap.size w1 wr)) (fun i _ => (e.log.length + 1 - intOf i).toNat)
  case atStart => exact ⟨s,Nat.le_refl _,by omega,by rw [HS.out],⟨by have:=HV.out;rw [HS.out] at this;exact this⟩,⟨Below.refl _ _⟩⟩
  case round =>
    obtain ⟨n,hn1,hn2,rfl,HK,HW⟩:=hrel
    have HWW:=As (bt HB1.out HW.out)
    have HQ:=As (HQ1.out.up HW.out)
    have x0:=HQ.out.c0
    have x2:=HQ.out.c2
    by_cases hlt : n ≤ e.log.length
    · have hl : (e.log.take n).length = n:=by rw [List.length_take];omega
      obtain ⟨ps,hps⟩ : ∃ ps,redoN e.disk (e.log.take n) (e.log.take n).length = ps:=⟨_,rfl⟩
      obtain ⟨ok,hok⟩ : ∃ ok,psOk ps = ok:=⟨_,rfl⟩
      have hgeo : geo ps:=by rw [← hps];exact geo_redo HG.out (take_ok HL.out n) _ (Nat.le_refl _)
      have HGP:=As hgeo
      have HPS:=As (And.intro hps hok)
      have hcall : ∀ wx,Below wr.heap.size wr wx → Calls Tryz.prog 46 #[.slice Ad e.disk.length cd, .slice Al n cl] wx (RetPB wx ps ok):=fun wx hb => by
        have h:=redo_calls (c:=cd) (d:=cl) HG.out (take_ok HL.out n) (by omega) hb (C_up HR.out.d HWW.out) (take_C (C_up HR.out.l HWW.out) hlt)
        rw [hps,hok,hl] at h
        exact h
      have HLn:=As hl
      clear hps hok hl hgeo
      have hncl : n ≤ cl:=Nat.le_trans hlt hcl
      go_wp2
      refine reg_start (fun lx a wx => Below wr.heap.size wr wx ∧ Sl 6 22 (fun v wx => ∃ u,v = .tuple #[u, .bool ok] ∧ OwnPs wx wr.heap.size u ps) lx a wx) 12 rfl (by kernel_rfl) (⟨below_drew (Below.refl _ _),sl_start⟩) (fun HT => ?_)
      refine reg_val (i:=0) (v:=?_) HT rfl (by kernel_rfl) rfl (kA keeps_world (keeps_sl rfl rfl)) (by rfl) (fun _ _ _ h => h) (fun lx ax wx hS => ?_) ?_;rotate_left;(have hbx:=hS.1;clear hS;replace x0:=bc hbx x0;replace x2:=bc hbx x2;go_simp;with_reducible rfl);rotate_left;simp only [sc0,sc1]
      refine reg_val (i:=1) (v:=?_) HT rfl (by kernel_rfl) rfl (kA keeps_world (keeps_sl rfl rfl)) (by rfl) (fun _ _ _ h => h) (fun lx ax wx hS => ?_) ?_;rotate_left;(have hbx:=hS.1;clear hS;replace x0:=bc hbx x0;replace x2:=bc hbx x2;go_simp;with_reducible rfl);rotate_left;simp only [sc0,sc1]
      refine reg_val (i:=2) (v:=?_) HT rfl (by kernel_rfl) rfl (kA keeps_world (keeps_sl rfl rfl)) (by rfl) (fun _ _ _ h => h) (fun lx ax wx hS => ?_) ?_;rotate_left;(have hbx:=hS.1;clear hS;replace x0:=bc hbx x0;replace x2:=bc hbx x2;go_simp;with_reducible rfl);rotate_left;simp only [sc0,sc1]
      refine reg_val (i:=3) (v:=?_) HT rfl (by kernel_rfl) rfl (kA keeps_world (keeps_sl rfl rfl)) (by rfl) (fun _ _ _ h => h) (fun lx ax wx hS => ?_) ?_;rotate_left;(have hbx:=hS.1;clear hS;replace x0:=bc hbx x0;replace x2:=bc hbx x2;go_simp;with_reducible rfl);rotate_left;simp only [sc0,sc1]
      refine reg_val (i:=4) (v:=?_) HT rfl (by kernel_rfl) rfl (kA keeps_world (keeps_sl rfl rfl)) (by rfl) (fun _ _ _ h => h) (fun lx ax wx hS => ?_) ?_;rotate_left;(have hbx:=hS.1;clear hS;replace x0:=bc hbx x0;replace x2:=bc hbx x2;go_simp;with_reducible rfl);rotate_left;simp only [sc0,sc1]
      refine reg_val (i:=5) (v:=?_) HT rfl (by kernel_rfl) rfl (kA keeps_world (keeps_sl rfl rfl)) (by rfl) (fun _ _ _ h => h) (fun lx ax wx hS => ?_) ?_;rotate_left;(have hbx:=hS.1;clear hS;replace x0:=bc hbx x0;replace x2:=bc hbx x2;go_simp;with_reducible rfl);rotate_left;simp only [sc0,sc1]
      refine reg_only (i:=6) (f:=46) (args:=#[.slice Ad e.disk.length cd, .slice Al n cl]) (fun v => ∃ u,v = .tuple #[u, .bool ok]) rfl (by kernel_rfl) rfl Tryz.func46 (by kernel_rfl) rfl rfl (by rfl) (by simp only [List.map_toArray,List.map_cons,List.map_nil];rfl) (fun wx hS => (hcall wx hS.1).mono (by rintro e w6 ⟨u,rfl,ho,hb⟩;exact ⟨_,rfl,⟨u,rfl⟩,bt hS.1 hb,fun _ => ⟨u,rfl,Kd.S_lower ho hS.1.size⟩⟩)) (fun vx hg => ?_);simp only [sc0,sc1]
      obtain ⟨u,rfl⟩:=hg
      refine reg_val (i:=7) (v:=?_) HT rfl (by kernel_rfl) rfl (kA keeps_world (keeps_sl rfl rfl)) (by rfl) (fun _ _ _ h => h) (fun lx ax wx hS => ?_) ?_;rotate_left;(go_simp;with_reducible rfl);rotate_left;simp only [sc0,sc1]
      refine reg_val (i:=8) (v:=?_) HT rfl (by kernel_rfl) rfl (kA keeps_world (keeps_sl rfl rfl)) (by rfl) (fun _ _ _ h => h) (fun lx ax wx hS => ?_) ?_;rotate_left;(go_simp;with_reducible rfl);rotate_left;simp only [sc0,sc1]
      refine reg_val (i:=9) (v:=?_) HT rfl (by kernel_rfl) rfl (kA keeps_world (keeps_sl rfl rfl)) (by rfl) (fun _ _ _ h => h) (fun lx ax wx hS => ?_) ?_;rotate_left;(go_simp;with_reducible rfl);rotate_left;simp only [sc0,sc1]
      refine reg_val (i:=10) (v:=?_) HT rfl (by kernel_rfl) rfl (kA keeps_world (keeps_sl rfl rfl)) (by rfl) (fun _ _ _ h => h) (fun lx ax wx hS => ?_) ?_;rotate_left;(go_simp;with_reducible rfl);rotate_left;simp only [sc0,sc1]
      refine reg_val (i:=11) (v:=?_) HT rfl (by kernel_rfl) rfl (kA keeps_world (keeps_sl rfl rfl)) (by rfl) (fun _ _ _ h => h) (fun lx ax wx hS => ?_) ?_;rotate_left;(go_simp;with_reducible rfl);rotate_left;simp only [sc0,sc1]
      refine reg_end (by kernel_rfl) (fun wx hS => ?_)
      obtain ⟨h1,h2⟩:=hS
      obtain ⟨u1,hu1,hown⟩:=h2 (by kernel_rfl)
      have hu1 : Value.tuple #[u, .bool ok] = .tuple #[u1, .bool ok]:=hu1
      obtain rfl : u = u1:=by simpa using hu1
      obtain ⟨g,cap,rfl,hgb,hgl⟩:=psS_form hown (by rw [HGP.out.1];omega)
      have HO:=As (Kd.S_R hown)
      have HX:=As h1
      rw [HGP.out.1] at HO ⊢
      replace x0:=bc h1 x0
      replace x2:=bc h1 x2
      clear h1 h2 hu1 hown hcall hgb hgl
      have HP:=As (show prefsB e (e.log.length + 1 - n) n = (prefB e n && prefsB e (e.log.length + 1 - (n + 1)) (n + 1)) by rw [show e.log.length + 1 - n = (e.log.length + 1 - (n + 1)) + 1 by omega,prefsB])
      cases ok
      · go_wp2
        go_ret
        exact ⟨ret_bool (by rw [← HK.out,HP.out,prefB,HPS.out.1,HPS.out.2];rfl),bt HWW.out HX.out⟩
      · obtain ⟨ub,hub⟩ : ∃ ub,undoneB (e.log.take n) ps = ub:=⟨_,rfl⟩
        have hcall2 : Calls Tryz.prog 135 #[.slice (some ⟨g,0,none⟩) 5 cap, .slice Al n cl] wx fun x w' => x = .returned (.bool ub) ∧ Below wr.heap.size wr w':=by
          have h:=undone_calls (d:=cl) hub HGP.out (logOk_take HL.out n) HO.out HX.out (take_C (C_up HR.out.l HWW.out) hlt)
          rw [HLn.out] at h
          exact h
        have HUB:=As hub
        clear hub
        cases ub
        · go_wp2_with (go_at_call 135;refine hcall2.mono ?_;rintro x w7 ⟨rfl,hb7⟩;have HB7:=As hb7;clear hb7)
          go_ret
          exact ⟨ret_bool (by rw [← HK.out,HP.out,prefB,HPS.out.1,HPS.out.2,HUB.out];rfl),bt HWW.out HB7.out⟩
        · go_wp2_with (go_at_call 135;refine hcall2.mono ?_;rintro x w7 ⟨rfl,hb7⟩;have HB7:=As hb7;clear hb7)
          go_roundw
          case rel => exact ⟨n + 1,by omega,by omega,by go_num,⟨by rw [← HK.out,HP.out,prefB,HPS.out.1,HPS.out.2,HUB.out];rfl⟩,⟨bt HW.out HB7.out⟩⟩
          case measure => simp [intOf];omega
    · go_wp2
      go_ret
      exact ⟨ret_bool (by rw [← HK.out,show e.log.length + 1 - n = 0 by omega];rfl),HWW.out⟩
/-- Is a page in memory as it must be? -/
def memQ (e : Eng) (p : Nat) (q : Page) : Bool:=
  if loadR e.log p 3 = true then (pg e.mem p).owner == q.owner && (pg e.mem p).lsn == lastOfN e.log p e.log.length && (decide ((pg e.disk p).lsn < (pg e.mem p).lsn) || samePg (pg e.mem p) (pg e.disk p))
  else samePg (pg e.mem p) q
theorem zpBox (w : World) : PgBox (w.alloc pageCell) w.heap.size zp (.slice none 0 0):=PgBox.mk1 w zp (.slice none 0 0)
set_option maxRecDepth 100000 in
set_option maxHeartbeats 8000000 in
theorem memOk_calls {w0 w : World} {e : Eng} {Ad Am Al Ar : Option Addr} {cd cm cl cr : Nat} {p : Nat} {q : Page} {b : Bool} (hv : memQ e p q = b) (hp : p < 5) (hd : e.disk.length = 5) (hm : e.mem.length = 5) (hl : logOk e.log = true) (hb : Below w0.heap.size w0 w) (hr : EngC w0 e Ad Am Al) (hq : Kd.C (Kd.int .i64) w0 Ar q.vals.length q.vals) : Calls Tryz.prog 81 #[e.val Ad Am Al cd cm cl, .int .i64 p,q.val Ar cr] w fun x w' => x = .returned (.bool b) ∧ Below w.heap.size w w':=by
  have HR:=As (hr.up hb)
  have HRq:=As (C_up hq hb)
  have HL:=As hl
  have HV:=As hv
  clear hr hb hq hl hv
  obtain ⟨adm,Am2,cm2,rfl,QM, -,hmC⟩:=at_page HR.out.m p (by omega)
  obtain ⟨add,Ad2,cd2,rfl,QD, -,hdC⟩:=at_page HR.out.d p (by omega)
  have HQM:=As QM
  have HQD:=As QD
  have HMC:=As hmC
  have HDC:=As hdC
  obtain ⟨M,hM⟩ : ∃ M,pg e.mem p = M:=⟨_,rfl⟩
  obtain ⟨Dp,hD⟩ : ∃ Dp,pg e.disk p = Dp:=⟨_,rfl⟩
  rw [hM] at HQM HMC
  rw [hD] at HQD HDC
  have HMD:=As (And.intro hM hD)
  clear QM QD hmC hdC hM hD
  obtain ⟨w1,hw1⟩ : ∃ w1,w.alloc (e.obox (.slice (some add) e.disk.length cd) (.slice (some adm) e.mem.length cm) (.slice Al e.log.length cl)) = w1:=⟨_,rfl⟩
  obtain ⟨w2,hw2⟩ : ∃ w2,w1.alloc (q.box Ar cr) = w2:=⟨_,rfl⟩
  have hz1 : w1.heap.size = w.heap.size + 1:=by rw [← hw1];exact size1 _ _
  have hz2 : w2.heap.size = w.heap.size + 2:=by rw [← hw2,size1,hz1]
  have hb1 : Below w.heap.size w w1:=by rw [← hw1];exact bel_alloc (Below.refl _ _) _
  have hb12 : Below w1.heap.size w1 w2:=by rw [← hw2];exact bel_alloc (Below.refl _ _) _
  have HB2:=As (bt hb1 hb12)
  have HQ2 : Aside0 (EgBox w2 w.heap.size e (.slice (some add) e.disk.length cd) (.slice (some adm) e.mem.length cm) (.slice Al e.log.length cl)):=⟨EgBox.up (by rw [← hw1];exact EgBox.mk1 _ _ _ _ _) hb12⟩
  have HP2 : Aside0 (PgBox w2 (w.heap.size + 1) q (.slice Ar q.vals.length cr)):=⟨by rw [← hw2, ← hz1];exact PgBox.mk1 _ _ _⟩
  have HW2 : Aside0 ((w.alloc (e.obox (.slice (some add) e.disk.length cd) (.slice (some adm) e.mem.length cm) (.slice Al e.log.length cl))).alloc (q.box Ar cr) = w2):=⟨by rw [hw1,hw2]⟩
  have HZ2:=As hz2
  clear hw1 hw2 hz1 hz2 hb1 hb12
  have hpm : p < e.mem.length:=by omega
  have hpd : p < e.disk.length:=by omega
  clear hd hm
  go_enter Tryz.func81,Tryz.ntmps81
  go_wp2
  rw [HW2.out]
  have hQM:=HQM.out.up HB2.out
  have hQD:=HQD.out.up HB2.out
  obtain ⟨m0,m1,m2⟩:=hQM
  obtain ⟨d0,d1,d2⟩:=hQD
  have x0:=HQ2.out.c0
  have x1:=HQ2.out.c1
  refine reg_start (fun lx a wx => Below w2.heap.size w2 wx ∧ (Sl 10 7 (fun v wx => ∃ B,v = ptr B ∧ w2.heap.size ≤ B ∧ ∃ p u,PgBox wx B p u) lx a wx ∧ (Sl 11 8 (fun v wx => ∃ B,v = ptr B ∧ w2.heap.size ≤ B ∧ ∃ p u,PgBox wx B p u) lx a wx ∧ Sl 12 7 (fun v wx => ∃ B,v = ptr B ∧ PgBox wx B M (.slice Am2 M.vals.length cm2)) lx a wx))) 13 rfl (by kernel_rfl) (⟨below_drew (Below.refl _ _),sl_start,sl_start,sl_start⟩) (fun HT => ?_)
  refine reg_val (i:=0) (v:=?_) HT rfl (by kernel_rfl) rfl (kA keeps_world (kA (keeps_sl rfl rfl) (kA (keeps_sl rfl rfl) (keeps_sl rfl rfl)))) (by rfl) (fun _ _ _ h => h) (fun lx ax wx hS => ?_) ?_;rotate_left;(have hbx:=hS.1;clear hS;replace x0:=bc hbx x0;replace x1:=bc hbx x1;replace m0:=bc hbx m0;replace m1:=bc hbx m1;replace m2:=bc hbx m2;replace d0:=bc hbx d0;replace d1:=bc hbx d1;replace d2:=bc hbx d2;go_simp;with_reducible rfl);rotate_left;simp only [sc0,sc1]
  refine reg_val (i:=1) (v:=?_) HT rfl (by kernel_rfl) rfl (kA keeps_world (kA (keeps_sl rfl rfl) (kA (keeps_sl rfl rfl) (keeps_sl rfl rfl)))) (by rfl) (fun _ _ _ h => h) (fun lx ax wx hS => ?_) ?_;rotate_left;(have hbx:=hS.1;clear hS;replace x0:=bc hbx x0;replace x1:=bc hbx x1;replace m0:=bc hbx m0;replace m1:=bc hbx m1;replace m2:=bc hbx m2;replace d0:=bc hbx d0;replace d1:=bc hbx d1;replace d2:=bc hbx d2;go_simp;with_reducible rfl);rotate_left;simp only [sc0,sc1]
  refine reg_val (i:=2) (v:=?_) HT rfl (by kernel_rfl) rfl (kA keeps_world (kA (keeps_sl rfl rfl) (kA (keeps_sl rfl rfl) (keeps_sl rfl rfl)))) (by rfl) (fun _ _ _ h => h) (fun lx ax wx hS => ?_) ?_;rotate_left;(have hbx:=hS.1;clear hS;replace x0:=bc hbx x0;replace x1:=bc hbx x1;replace m0:=bc hbx m0;replace m1:=bc hbx m1;replace m2:=bc hbx m2;replace d0:=bc hbx d0;replace d1:=bc hbx d1;replace d2:=bc hbx d2;go_simp;with_reducible rfl);rotate_left;simp only [sc0,sc1]
  refine reg_val (i:=3) (v:=?_) HT rfl (by kernel_rfl) rfl (kA keeps_world (kA (keeps_sl rfl rfl) (kA (keeps_sl rfl rfl) (keeps_sl rfl rfl)))) (by rfl) (fun _ _ _ h => h) (fun lx ax wx hS => ?_) ?_;rotate_left;(have hbx:=hS.1;clear hS;replace x0:=bc hbx x0;replace x1:=bc hbx x1;replace m0:=bc hbx m0;replace m1:=bc hbx m1;replace m2:=bc hbx m2;replace d0:=bc hbx d0;replace d1:=bc hbx d1;replace d2:=bc hbx d2;go_simp;with_reducible rfl);rotate_left;simp only [sc0,sc1]
  refine reg_val (i:=4) (v:=?_) HT rfl (by kernel_rfl) rfl (kA keeps_world (kA (keeps_sl rfl rfl) (kA (keeps_sl rfl rfl) (keeps_sl rfl rfl)))) (by rfl) (fun _ _ _ h => h) (fun lx ax wx hS => ?_) ?_;rotate_left;(have hbx:=hS.1;clear hS;replace x0:=bc hbx x0;replace x1:=bc hbx x1;replace m0:=bc hbx m0;replace m1:=bc hbx m1;replace m2:=bc hbx m2;replace d0:=bc hbx d0;replace d1:=bc hbx d1;replace d2:=bc hbx d2;go_simp;with_reducible rfl);rotate_left;simp only [sc0,sc1]
  refine reg_val (i:=5) (v:=?_) HT rfl (by kernel_rfl) rfl (kA keeps_world (kA (keeps_sl rfl rfl) (kA (keeps_sl rfl rfl) (keeps_sl rfl rfl)))) (by rfl) (fun _ _ _ h => h) (fun lx ax wx hS => ?_) ?_;rotate_left;(have hbx:=hS.1;clear hS;replace x0:=bc hbx x0;replace x1:=bc hbx x1;replace m0:=bc hbx m0;replace m1:=bc hbx m1;replace m2:=bc hbx m2;replace d0:=bc hbx d0;replace d1:=bc hbx d1;replace d2:=bc hbx d2;go_simp;with_reducible rfl);rotate_left;simp only [sc0,sc1]
  refine reg_val (i:=6) (v:=?_) HT rfl (by kernel_rfl) rfl (kA keeps_world (kA (keeps_sl rfl rfl) (kA (keeps_sl rfl rfl) (keeps_sl rfl rfl)))) (by rfl) (fun _ _ _ h => h) (fun lx ax wx hS => ?_) ?_;rotate_left;(have hbx:=hS.1;clear hS;replace x0:=bc hbx x0;replace x1:=bc hbx x1;replace m0:=bc hbx m0;replace m1:=bc hbx m1;replace m2:=bc hbx m2;replace d0:=bc hbx d0;replace d1:=bc hbx d1;replace d2:=bc hbx d2;go_simp;with_reducible rfl);rotate_left;simp only [sc0,sc1]
  refine reg_val (i:=7) (v:=?_) HT rfl (by kernel_rfl) rfl (kA keeps_world (kA (keeps_sl rfl rfl) (kA (keeps_sl rfl rfl) (keeps_sl rfl rfl)))) (by rfl) (fun _ _ _ h => h) (fun lx ax wx hS => ?_) ?_;rotate_left;(have hbx:=hS.1;clear hS;replace x0:=bc hbx x0;replace x1:=bc hbx x1;replace m0:=bc hbx m0;replace m1:=bc hbx m1;replace m2:=bc hbx m2;replace d0:=bc hbx d0;replace d1:=bc hbx d1;replace d2:=bc hbx d2;go_simp;with_reducible rfl);rotate_left;simp only [sc0,sc1]
  refine reg_val (i:=8) (v:=?_) HT rfl (by kernel_rfl) rfl (kA keeps_world (kA (keeps_sl rfl rfl) (kA (keeps_sl rfl rfl) (keeps_sl rfl rfl)))) (by rfl) (fun _ _ _ h => h) (fun lx ax wx hS => ?_) ?_;rotate_left;(have hbx:=hS.1;clear hS;replace x0:=bc hbx x0;replace x1:=bc hbx x1;replace m0:=bc hbx m0;replace m1:=bc hbx m1;replace m2:=bc hbx m2;replace d0:=bc hbx d0;replace d1:=bc hbx d1;replace d2:=bc hbx d2;go_simp;with_reducible rfl);rotate_left;simp only [sc0,sc1]
  refine reg_val (i:=9) (v:=?_) HT rfl (by kernel_rfl) rfl (kA keeps_world (kA (keeps_sl rfl rfl) (kA (keeps_sl rfl rfl) (keeps_sl rfl rfl)))) (by rfl) (fun _ _ _ h => h) (fun lx ax wx hS => ?_) ?_;rotate_left;(have hbx:=hS.1;clear hS;replace x0:=bc hbx x0;replace x1:=bc hbx x1;replace m0:=bc hbx m0;replace m1:=bc hbx m1;replace m2:=bc hbx m2;replace d0:=bc hbx d0;replace d1:=bc hbx d1;replace d2:=bc hbx d2;go_simp;with_reducible rfl);rotate_left;simp only [sc0,sc1]
  refine reg_allocs2 (ob1:=pageCell) (ob2:=pageCell) 10 11 rfl rfl (by kernel_rfl) rfl rfl rfl (fun _ => rfl) (fun _ => rfl) (fun a wx => by go_simp) (fun a wx => by go_simp) (fun wx hS => ?_) (fun wx hS => ?_) (fun B wx hS => ?_) (fun B wx hS => ?_) (fun B wx hS => ?_) (fun B wx hS => ?_) (fun B1 B2 hne => ?_)
  · exact ⟨bel_alloc hS.1 _,fun _ => ⟨_,rfl,hS.1.size,_,_,zpBox wx⟩,fun h => (no_yes h (by kernel_rfl)).elim,fun h => (no_yes h (by kernel_rfl)).elim⟩
  · exact ⟨bel_alloc hS.1 _,fun h => (no_yes h (by kernel_rfl)).elim,fun _ => ⟨_,rfl,hS.1.size,_,_,zpBox wx⟩,fun h => (no_yes h (by kernel_rfl)).elim⟩
  · obtain ⟨B',h1,_,p',u',h2⟩:=hS.2.1 (by kernel_rfl)
    obtain rfl : B = B':=by simpa [ptr] using h1
    exact (Array.getElem?_eq_some_iff.1 h2).1
  · obtain ⟨B',h1,_,p',u',h2⟩:=hS.2.2.1 (by kernel_rfl)
    obtain rfl : B = B':=by simpa [ptr] using h1
    exact (Array.getElem?_eq_some_iff.1 h2).1
  · obtain ⟨B',h1,h3,p',u',h2⟩:=hS.2.1 (by kernel_rfl)
    exact ⟨bel_alloc hS.1 _,fun _ => ⟨B',h1,h3,p',u',h2.up (bel_alloc (Below.refl _ _) _)⟩,fun _ => ⟨_,rfl,hS.1.size,_,_,zpBox wx⟩,fun h => (no_yes h (by kernel_rfl)).elim⟩
  · obtain ⟨B',h1,h3,p',u',h2⟩:=hS.2.2.1 (by kernel_rfl)
    exact ⟨bel_alloc hS.1 _,fun _ => ⟨_,rfl,hS.1.size,_,_,zpBox wx⟩,fun _ => ⟨B',h1,h3,p',u',h2.up (bel_alloc (Below.refl _ _) _)⟩,fun h => (no_yes h (by kernel_rfl)).elim⟩
  simp only [sc0,sc1]
  refine reg_each [12] (by kernel_rfl) (fun i hi w4 hS => ?_)
  obtain rfl:=List.mem_singleton.1 hi
  obtain ⟨h1,h2,h3, -⟩:=hS
  obtain ⟨B,hB,hle1,p1,u1,hbox1⟩:=h2 (by kernel_rfl)
  obtain rfl : B1 = B:=by
    have hB : ptr B1 = ptr B:=hB
    simpa [ptr] using hB
  obtain ⟨B,hB',hle2,p2,u2,hbox2⟩:=h3 (by kernel_rfl)
  obtain rfl : B2 = B:=by
    have hB : ptr B2 = ptr B:=hB'
    simpa [ptr] using hB
  have b0:=hbox1.c0
  have b1:=hbox1.c1
  have b2:=hbox1.c2
  have f0:=hbox1.frz 0
  have f1:=hbox1.frz 1
  have f2:=hbox1.frz 2
  refine wpOp_skip (w1:=set3 w4 B1 M (.slice Am2 M.vals.length cm2)) rfl (by rfl) (by go_simp) ?_
  have hfar2 : PgBox (set3 w4 B1 M (.slice Am2 M.vals.length cm2)) B2 p2 u2:=((hbox2.far hne _ _).far hne _ _).far hne _ _
  refine ⟨⟨bel_set3 h1 hle1 M _,fun _ => ⟨B1,rfl,hle1,M,_,hbox1.set3 M _⟩,fun _ => ⟨B2,rfl,hle2,p2,u2,hfar2⟩,fun _ => ⟨B1,rfl,hbox1.set3 M _⟩⟩,?_⟩
  clear h1 h2 h3 hB hB' hbox1 hbox2 b0 b1 b2 f0 f1 f2 hfar2 p1 u1 p2 u2
  refine reg_tail (i:=13) (by kernel_rfl) rfl (fun w5 hS => ?_)
  obtain ⟨h1,h2,h3,h4⟩:=hS
  obtain ⟨B,hB,hbox1⟩:=h4 (by kernel_rfl)
  obtain rfl : B1 = B:=by
    have hB : ptr B1 = ptr B:=hB
    simpa [ptr] using hB
  obtain ⟨B,hB', -,p2,u2,hbox2⟩:=h3 (by kernel_rfl)
  obtain rfl : B2 = B:=by
    have hB : ptr B2 = ptr B:=hB'
    simpa [ptr] using hB
  have b0:=hbox2.c0
  have b1:=hbox2.c1
  have b2:=hbox2.c2
  have f0:=hbox2.frz 0
  have f1:=hbox2.frz 1
  have f2:=hbox2.frz 2
  refine wpOp_skip (w1:=set3 w5 B2 Dp (.slice Ad2 Dp.vals.length cd2)) rfl (by rfl) (by go_simp) ?_
  have hne' : B2 ≠ B1:=Ne.symm hne
  have hbM : PgBox (set3 w5 B2 Dp (.slice Ad2 Dp.vals.length cd2)) B1 M (.slice Am2 M.vals.length cm2):=((hbox1.far hne' _ _).far hne' _ _).far hne' _ _
  have hbD:=hbox2.set3 Dp (.slice Ad2 Dp.vals.length cd2)
  have hbW:=bel_set3 h1 hle2 Dp (.slice Ad2 Dp.vals.length cd2)
  refine regAt_end (by kernel_rfl) ?_
  obtain ⟨W8,hW8⟩ : ∃ W8,set3 w5 B2 Dp (.slice Ad2 Dp.vals.length cd2) = W8:=⟨_,rfl⟩
  rw [hW8] at hbM hbD hbW ⊢
  have HBM:=As hbM
  have HBD:=As hbD
  have HBW:=As hbW
  clear h1 h2 h3 h4 hB hB' hbox1 hbox2 b0 b1 b2 f0 f1 f2 p2 u2 hW8 hbM hbD hbW m0 m1 m2 d0 d1 d2 x0 x1 hle1 hle2 hi
  have HW8:=As (bt HB2.out HBW.out)
  have HQ8:=As (HQ2.out.up HBW.out)
  have HP8:=As (HP2.out.up HBW.out)
  have x2:=HQ8.out.c2
  obtain ⟨ldb,hld⟩ : ∃ ldb,loadR e.log p 3 = ldb:=⟨_,rfl⟩
  have HLD:=As hld
  obtain ⟨sR,hsR⟩ : ∃ sR,samePg M q = sR:=⟨_,rfl⟩
  have HSR:=As hsR
  obtain ⟨sD,hsD⟩ : ∃ sD,samePg M Dp = sD:=⟨_,rfl⟩
  have HSD:=As hsD
  clear hld hsR hsD
  cases ldb
  · have y0:=HP8.out.c0
    have y1:=HP8.out.c1
    have y2:=HP8.out.c2
    have z0:=HBM.out.c0
    have z1:=HBM.out.c1
    have z2:=HBM.out.c2
    go_wp2_with (first | (go_at_call 137;refine (loaded_calls p HLD.out HW8.out HR.out.l HL.out).mono ?_;rintro x w9 ⟨rfl,hb9⟩;have HW9:=As (bt HW8.out hb9);have HB9:=As hb9;replace y0:=bc hb9 y0;replace y1:=bc hb9 y1;replace y2:=bc hb9 y2;replace z0:=bc hb9 z0;replace z1:=bc hb9 z1;replace z2:=bc hb9 z2;clear hb9) | (go_at_call 80;refine (same_calls (c:=cm2) (d:=cr) HSR.out HW9.out HMC.out HRq.out).mono ?_;rintro x w10 ⟨rfl,hb10⟩;have HW10:=As (bt HW9.out hb10);clear hb10))
    go_ret
    exact ⟨ret_bool (by rw [← HV.out,memQ,HLD.out,HMD.out.1,HSR.out];rfl),HW10.out⟩
  · rcases beqs M.owner q.owner with ⟨e1,b1,c1⟩ | ⟨e1,b1,c1⟩
    · rcases beqs M.lsn (lastOfN e.log p e.log.length) with ⟨e2,b2,c2⟩ | ⟨e2,b2,c2⟩
      · rcases lts Dp.lsn M.lsn with ⟨e3,k1,k2⟩ | ⟨e3,k1,k2⟩
        · go_wp2_with (go_at_call 137;refine (loaded_calls p HLD.out HW8.out HR.out.l HL.out).mono ?_;rintro x w9 ⟨rfl,hb9⟩;have HW9:=As (bt HW8.out hb9);have HB9:=As hb9;have y0:=bc hb9 HP8.out.c0;have y1:=bc hb9 HP8.out.c1;have y2:=bc hb9 HP8.out.c2;have z0:=bc hb9 HBM.out.c0;have z1:=bc hb9 HBM.out.c1;have z2:=bc hb9 HBM.out.c2;have v0:=bc hb9 HBD.out.c0;have v1:=bc hb9 HBD.out.c1;have v2:=bc hb9 HBD.out.c2;replace x2:=bc hb9 x2;clear hb9)
          refine text_start (fun w' => Below w9.heap.size w9 w') rfl rfl (by kernel_rfl) (below_drew (Below.refl _ _)) (fun HT => ?_)
          repeat (first
            | (refine text_end (fun wx hS => ?_))
            | ((with_reducible refine text_gate (f:=138) rfl ?_);refine text_call (v:=.int .i64 (lastOfN e.log p e.log.length)) (args:=#[.slice Al e.log.length cl, .int .i64 p]) HT rfl Tryz.func138 (by kernel_rfl) rfl rfl (by rfl) (fun _ _ _ h => h) (by simp only [List.map_toArray,List.map_cons,List.map_nil];rfl) (fun wx hS => (lastOf_calls p (bt HW9.out hS) HR.out.l).mono fun _ _ h => ⟨h.1,bt hS h.2⟩) ?_;simp only [sc0,sc1])
            | ((with_reducible refine text_gate (f:=80) rfl ?_);refine text_call (v:=.bool sD) (args:=#[M.val Am2 cm2,Dp.val Ad2 cd2]) HT rfl Tryz.func80 (by kernel_rfl) rfl rfl (by rfl) (fun _ _ _ h => h) (by simp only [List.map_toArray,List.map_cons,List.map_nil];rfl) (fun wx hS => (same_calls (c:=cm2) (d:=cd2) HSD.out (bt HW9.out hS) HMC.out HDC.out).mono fun _ _ h => ⟨h.1,bt hS h.2⟩) ?_;simp only [sc0,sc1])
            | (refine text_skip HT rfl (by rfl) (fun _ _ _ h => h) ?_;simp only [sc0,sc1])
            | (refine text_val (v:=?_) HT rfl (by rfl) (fun _ _ _ h => h) (fun wx hS => ?_) ?_;rotate_left;(replace y0:=bc hS y0;replace y1:=bc hS y1;replace y2:=bc hS y2;replace z0:=bc hS z0;replace z1:=bc hS z1;replace z2:=bc hS z2;replace v0:=bc hS v0;replace v1:=bc hS v1;replace v2:=bc hS v2;replace x2:=bc hS x2;go_simp;with_reducible rfl);rotate_left;simp only [sc0,sc1]))
          go_wp2
          go_ret
          exact ⟨ret_bool (by rw [← HV.out,memQ,HLD.out,HMD.out.1,HMD.out.2,HSD.out];simp [b1,b2,k1]),bt HW9.out hS⟩
        · go_wp2_with (go_at_call 137;refine (loaded_calls p HLD.out HW8.out HR.out.l HL.out).mono ?_;rintro x w9 ⟨rfl,hb9⟩;have HW9:=As (bt HW8.out hb9);have HB9:=As hb9;have y0:=bc hb9 HP8.out.c0;have y1:=bc hb9 HP8.out.c1;have y2:=bc hb9 HP8.out.c2;have z0:=bc hb9 HBM.out.c0;have z1:=bc hb9 HBM.out.c1;have z2:=bc hb9 HBM.out.c2;have v0:=bc hb9 HBD.out.c0;have v1:=bc hb9 HBD.out.c1;have v2:=bc hb9 HBD.out.c2;replace x2:=bc hb9 x2;clear hb9)
          refine text_start (fun w' => Below w9.heap.size w9 w') rfl rfl (by kernel_rfl) (below_drew (Below.refl _ _)) (fun HT => ?_)
          repeat (first
            | (refine text_end (fun wx hS => ?_))
            | ((with_reducible refine text_gate (f:=138) rfl ?_);refine text_call (v:=.int .i64 (lastOfN e.log p e.log.length)) (args:=#[.slice Al e.log.length cl, .int .i64 p]) HT rfl Tryz.func138 (by kernel_rfl) rfl rfl (by rfl) (fun _ _ _ h => h) (by simp only [List.map_toArray,List.map_cons,List.map_nil];rfl) (fun wx hS => (lastOf_calls p (bt HW9.out hS) HR.out.l).mono fun _ _ h => ⟨h.1,bt hS h.2⟩) ?_;simp only [sc0,sc1])
            | ((with_reducible refine text_gate (f:=80) rfl ?_);refine text_call (v:=.bool sD) (args:=#[M.val Am2 cm2,Dp.val Ad2 cd2]) HT rfl Tryz.func80 (by kernel_rfl) rfl rfl (by rfl) (fun _ _ _ h => h) (by simp only [List.map_toArray,List.map_cons,List.map_nil];rfl) (fun wx hS => (same_calls (c:=cm2) (d:=cd2) HSD.out (bt HW9.out hS) HMC.out HDC.out).mono fun _ _ h => ⟨h.1,bt hS h.2⟩) ?_;simp only [sc0,sc1])
            | (refine text_skip HT rfl (by rfl) (fun _ _ _ h => h) ?_;simp only [sc0,sc1])
            | (refine text_val (v:=?_) HT rfl (by rfl) (fun _ _ _ h => h) (fun wx hS => ?_) ?_;rotate_left;(replace y0:=bc hS y0;replace y1:=bc hS y1;replace y2:=bc hS y2;replace z0:=bc hS z0;replace z1:=bc hS z1;replace z2:=bc hS z2;replace v0:=bc hS v0;replace v1:=bc hS v1;replace v2:=bc hS v2;replace x2:=bc hS x2;go_simp;with_reducible rfl);rotate_left;simp only [sc0,sc1]))
          go_wp2
          go_ret
          exact ⟨ret_bool (by rw [← HV.out,memQ,HLD.out,HMD.out.1,HMD.out.2,HSD.out];simp [b1,b2,k1]),bt HW9.out hS⟩
      · go_wp2_with (go_at_call 137;refine (loaded_calls p HLD.out HW8.out HR.out.l HL.out).mono ?_;rintro x w9 ⟨rfl,hb9⟩;have HW9:=As (bt HW8.out hb9);have HB9:=As hb9;have y0:=bc hb9 HP8.out.c0;have y1:=bc hb9 HP8.out.c1;have y2:=bc hb9 HP8.out.c2;have z0:=bc hb9 HBM.out.c0;have z1:=bc hb9 HBM.out.c1;have z2:=bc hb9 HBM.out.c2;have v0:=bc hb9 HBD.out.c0;have v1:=bc hb9 HBD.out.c1;have v2:=bc hb9 HBD.out.c2;replace x2:=bc hb9 x2;clear hb9)
        refine text_start (fun w' => Below w9.heap.size w9 w') rfl rfl (by kernel_rfl) (below_drew (Below.refl _ _)) (fun HT => ?_)
        repeat (first
          | (refine text_end (fun wx hS => ?_))
          | ((with_reducible refine text_gate (f:=138) rfl ?_);refine text_call (v:=.int .i64 (lastOfN e.log p e.log.length)) (args:=#[.slice Al e.log.length cl, .int .i64 p]) HT rfl Tryz.func138 (by kernel_rfl) rfl rfl (by rfl) (fun _ _ _ h => h) (by simp only [List.map_toArray,List.map_cons,List.map_nil];rfl) (fun wx hS => (lastOf_calls p (bt HW9.out hS) HR.out.l).mono fun _ _ h => ⟨h.1,bt hS h.2⟩) ?_;simp only [sc0,sc1])
          | ((with_reducible refine text_gate (f:=80) rfl ?_);refine text_call (v:=.bool sD) (args:=#[M.val Am2 cm2,Dp.val Ad2 cd2]) HT rfl Tryz.func80 (by kernel_rfl) rfl rfl (by rfl) (fun _ _ _ h => h) (by simp only [List.map_toArray,List.map_cons,List.map_nil];rfl) (fun wx hS => (same_calls (c:=cm2) (d:=cd2) HSD.out (bt HW9.out hS) HMC.out HDC.out).mono fun _ _ h => ⟨h.1,bt hS h.2⟩) ?_;simp only [sc0,sc1])
          | (refine text_skip HT rfl (by rfl) (fun _ _ _ h => h) ?_;simp only [sc0,sc1])
          | (refine text_val (v:=?_) HT rfl (by rfl) (fun _ _ _ h => h) (fun wx hS => ?_) ?_;rotate_left;(replace y0:=bc hS y0;replace y1:=bc hS y1;replace y2:=bc hS y2;replace z0:=bc hS z0;replace z1:=bc hS z1;replace z2:=bc hS z2;replace v0:=bc hS v0;replace v1:=bc hS v1;replace v2:=bc hS v2;replace x2:=bc hS x2;go_simp;with_reducible rfl);rotate_left;simp only [sc0,sc1]))
        go_wp2
        go_ret
        exact ⟨ret_bool (by rw [← HV.out,memQ,HLD.out,HMD.out.1,HMD.out.2,HSD.out];simp [b1,b2]),bt HW9.out hS⟩
    · go_wp2_with (go_at_call 137;refine (loaded_calls p HLD.out HW8.out HR.out.l HL.out).mono ?_;rintro x w9 ⟨rfl,hb9⟩;have HW9:=As (bt HW8.out hb9);have HB9:=As hb9;have y0:=bc hb9 HP8.out.c0;have y1:=bc hb9 HP8.out.c1;have y2:=bc hb9 HP8.out.c2;have z0:=bc hb9 HBM.out.c0;have z1:=bc hb9 HBM.out.c1;have z2:=bc hb9 HBM.out.c2;have v0:=bc hb9 HBD.out.c0;have v1:=bc hb9 HBD.out.c1;have v2:=bc hb9 HBD.out.c2;replace x2:=bc hb9 x2;clear hb9)
      refine text_start (fun w' => Below w9.heap.size w9 w') rfl rfl (by kernel_rfl) (below_drew (Below.refl _ _)) (fun HT => ?_)
      repeat (first
        | (refine text_end (fun wx hS => ?_))
        | ((with_reducible refine text_gate (f:=138) rfl ?_);refine text_call (v:=.int .i64 (lastOfN e.log p e.log.length)) (args:=#[.slice Al e.log.length cl, .int .i64 p]) HT rfl Tryz.func138 (by kernel_rfl) rfl rfl (by rfl) (fun _ _ _ h => h) (by simp only [List.map_toArray,List.map_cons,List.map_nil];rfl) (fun wx hS => (lastOf_calls p (bt HW9.out hS) HR.out.l).mono fun _ _ h => ⟨h.1,bt hS h.2⟩) ?_;simp only [sc0,sc1])
        | ((with_reducible refine text_gate (f:=80) rfl ?_);refine text_call (v:=.bool sD) (args:=#[M.val Am2 cm2,Dp.val Ad2 cd2]) HT rfl Tryz.func80 (by kernel_rfl) rfl rfl (by rfl) (fun _ _ _ h => h) (by simp only [List.map_toArray,List.map_cons,List.map_nil];rfl) (fun wx hS => (same_calls (c:=cm2) (d:=cd2) HSD.out (bt HW9.out hS) HMC.out HDC.out).mono fun _ _ h => ⟨h.1,bt hS h.2⟩) ?_;simp only [sc0,sc1])
        | (refine text_skip HT rfl (by rfl) (fun _ _ _ h => h) ?_;simp only [sc0,sc1])
        | (refine text_val (v:=?_) HT rfl (by rfl) (fun _ _ _ h => h) (fun wx hS => ?_) ?_;rotate_left;(replace y0:=bc hS y0;replace y1:=bc hS y1;replace y2:=bc hS y2;replace z0:=bc hS z0;replace z1:=bc hS z1;replace z2:=bc hS z2;replace v0:=bc hS v0;replace v1:=bc hS v1;replace v2:=bc hS v2;replace x2:=bc hS x2;go_simp;with_reducible rfl);rotate_left;simp only [sc0,sc1]))
      go_wp2
      go_ret
      exact ⟨ret_bool (by rw [← HV.out,memQ,HLD.out,HMD.out.1,HMD.out.2,HSD.out];simp [b1]),bt HW9.out hS⟩
def pgsB (e : Eng) : Nat → Nat → Bool
  | 0,_ => true
  | j + 1,p => pageB e p && pgsB e j (p + 1)
theorem pgsB_all (e : Eng) : ((List.range 5).all fun p => pageB e p) = pgsB e 5 0:=rfl
theorem memB_Q (e : Eng) (p : Nat) : memB e p = memQ e p (pg (redoN e.disk e.log e.log.length) p):=rfl
set_option maxRecDepth 100000 in
set_option maxHeartbeats 16000000 in
theorem EngineOk_calls {w0 w : World} {e : Eng} {Ad Am Al : Option Addr} {cd cm cl : Nat} {b : Bool} (hv : eOk e = b) (hcl : e.log.length ≤ cl) (hb : Below w0.heap.size w0 w) (hr : EngC w0 e Ad Am Al) : Calls Tryz.prog 36 #[e.val Ad Am Al cd cm cl] w fun x w' => x = .returned (.bool b) ∧ Below w.heap.size w w':=by
  have HR:=As (hr.up hb)
  have HV:=As hv
  have hlm:=(C_len HR.out.l).2
  clear hr hb hv
  obtain ⟨w1,hw1⟩ : ∃ w1,w.alloc (e.obox (.slice Ad e.disk.length cd) (.slice Am e.mem.length cm) (.slice Al e.log.length cl)) = w1:=⟨_,rfl⟩
  have HW1:=As hw1
  have HB1 : Aside0 (Below w.heap.size w w1):=⟨by rw [← hw1];exact bel_alloc (Below.refl _ _) _⟩
  have HQ1 : Aside0 (EgBox w1 w.heap.size e (.slice Ad e.disk.length cd) (.slice Am e.mem.length cm) (.slice Al e.log.length cl)):=⟨by rw [← hw1];exact EgBox.mk1 _ _ _ _ _⟩
  clear hw1
  have HX:=As (Below.refl w1.heap.size w1)
  have x0:=HQ1.out.c0
  have x1:=HQ1.out.c1
  have x2:=HQ1.out.c2
  have x3:=HQ1.out.c3
  have x4:=HQ1.out.c4
  cases hvd : psOk e.disk
  · have HVd:=As hvd
    clear hvd
    go_enter Tryz.func36,Tryz.ntmps36
    go_wp2_with (first | (go_at_call 75;rw [HW1.out];refine (pagesOk_calls (c:=cd) HVd.out (bt HB1.out HX.out) HR.out.d).mono ?_;rintro x w9 ⟨rfl,hb9⟩;have HX:=As (bt HX.out hb9);replace x0:=bc hb9 x0;replace x1:=bc hb9 x1;replace x2:=bc hb9 x2;replace x3:=bc hb9 x3;replace x4:=bc hb9 x4;clear hb9))
    go_ret
    exact ⟨ret_bool (by rw [← HV.out,eOk,HVd.out];simp),bt HB1.out HX.out⟩
  · have HVd:=As hvd
    clear hvd
    cases hvm : psOk e.mem
    · have HVm:=As hvm
      clear hvm
      go_enter Tryz.func36,Tryz.ntmps36
      go_wp2_with (first | (go_at_call 75;rw [HW1.out];refine (pagesOk_calls (c:=cd) HVd.out (bt HB1.out HX.out) HR.out.d).mono ?_;rintro x w9 ⟨rfl,hb9⟩;have HX:=As (bt HX.out hb9);replace x0:=bc hb9 x0;replace x1:=bc hb9 x1;replace x2:=bc hb9 x2;replace x3:=bc hb9 x3;replace x4:=bc hb9 x4;clear hb9) | (go_at_call 75;refine (pagesOk_calls (c:=cm) HVm.out (bt HB1.out HX.out) HR.out.m).mono ?_;rintro x w9 ⟨rfl,hb9⟩;have HX:=As (bt HX.out hb9);replace x0:=bc hb9 x0;replace x1:=bc hb9 x1;replace x2:=bc hb9 x2;replace x3:=bc hb9 x3;replace x4:=bc hb9 x4;clear hb9))
      go_ret
      exact ⟨ret_bool (by rw [← HV.out,eOk,HVd.out,HVm.out];simp),bt HB1.out HX.out⟩
    · have HVm:=As hvm
      clear hvm
      cases hvl : logOk e.log
      · have HVl:=As hvl
        clear hvl
        go_enter Tryz.func36,Tryz.ntmps36
        go_wp2_with (first | (go_at_call 75;rw [HW1.out];refine (pagesOk_calls (c:=cd) HVd.out (bt HB1.out HX.out) HR.out.d).mono ?_;rintro x w9 ⟨rfl,hb9⟩;have HX:=As (bt HX.out hb9);replace x0:=bc hb9 x0;replace x1:=bc hb9 x1;replace x2:=bc hb9 x2;replace x3:=bc hb9 x3;replace x4:=bc hb9 x4;clear hb9) | (go_at_call 75;refine (pagesOk_calls (c:=cm) HVm.out (bt HB1.out HX.out) HR.out.m).mono ?_;rintro x w9 ⟨rfl,hb9⟩;have HX:=As (bt HX.out hb9);replace x0:=bc hb9 x0;replace x1:=bc hb9 x1;replace x2:=bc hb9 x2;replace x3:=bc hb9 x3;replace x4:=bc hb9 x4;clear hb9) | (go_at_call 76;refine (LogOk_calls (c:=cl) HVl.out (bt HB1.out HX.out) HR.out.l).mono ?_;rintro x w9 ⟨rfl,hb9⟩;have HX:=As (bt HX.out hb9);replace x0:=bc hb9 x0;replace x1:=bc hb9 x1;replace x2:=bc hb9 x2;replace x3:=bc hb9 x3;replace x4:=bc hb9 x4;clear hb9))
        go_ret
        exact ⟨ret_bool (by rw [← HV.out,eOk,HVd.out,HVm.out,HVl.out];simp),bt HB1.out HX.out⟩
      · have HVl:=As hvl
        clear hvl
        have hm150:=logOk_len HVl.out
        cases hvs : inB e.safe 0 e.log.length
        · have HVs:=As hvs
          clear hvs
          go_enter Tryz.func36,Tryz.ntmps36
          go_wp2_with (first | (go_at_call 75;rw [HW1.out];refine (pagesOk_calls (c:=cd) HVd.out (bt HB1.out HX.out) HR.out.d).mono ?_;rintro x w9 ⟨rfl,hb9⟩;have HX:=As (bt HX.out hb9);replace x0:=bc hb9 x0;replace x1:=bc hb9 x1;replace x2:=bc hb9 x2;replace x3:=bc hb9 x3;replace x4:=bc hb9 x4;clear hb9) | (go_at_call 75;refine (pagesOk_calls (c:=cm) HVm.out (bt HB1.out HX.out) HR.out.m).mono ?_;rintro x w9 ⟨rfl,hb9⟩;have HX:=As (bt HX.out hb9);replace x0:=bc hb9 x0;replace x1:=bc hb9 x1;replace x2:=bc hb9 x2;replace x3:=bc hb9 x3;replace x4:=bc hb9 x4;clear hb9) | (go_at_call 76;refine (LogOk_calls (c:=cl) HVl.out (bt HB1.out HX.out) HR.out.l).mono ?_;rintro x w9 ⟨rfl,hb9⟩;have HX:=As (bt HX.out hb9);replace x0:=bc hb9 x0;replace x1:=bc hb9 x1;replace x2:=bc hb9 x2;replace x3:=bc hb9 x3;replace x4:=bc hb9 x4;clear hb9) | (go_at_call 77;refine (in_is HVs.out _).mono ?_;rintro x w9 ⟨rfl,rfl⟩))
          go_ret
          exact ⟨ret_bool (by rw [← HV.out,eOk,HVd.out,HVm.out,HVl.out,HVs.out];simp),bt HB1.out HX.out⟩
        · have HVs:=As hvs
          clear hvs
          have HS01:=As (inB_iff.1 HVs.out)
          cases hvf : fitsB e.log
          · have HVf:=As hvf
            clear hvf
            go_enter Tryz.func36,Tryz.ntmps36
            go_wp2_with (first | (go_at_call 75;rw [HW1.out];refine (pagesOk_calls (c:=cd) HVd.out (bt HB1.out HX.out) HR.out.d).mono ?_;rintro x w9 ⟨rfl,hb9⟩;have HX:=As (bt HX.out hb9);replace x0:=bc hb9 x0;replace x1:=bc hb9 x1;replace x2:=bc hb9 x2;replace x3:=bc hb9 x3;replace x4:=bc hb9 x4;clear hb9) | (go_at_call 75;refine (pagesOk_calls (c:=cm) HVm.out (bt HB1.out HX.out) HR.out.m).mono ?_;rintro x w9 ⟨rfl,hb9⟩;have HX:=As (bt HX.out hb9);replace x0:=bc hb9 x0;replace x1:=bc hb9 x1;replace x2:=bc hb9 x2;replace x3:=bc hb9 x3;replace x4:=bc hb9 x4;clear hb9) | (go_at_call 76;refine (LogOk_calls (c:=cl) HVl.out (bt HB1.out HX.out) HR.out.l).mono ?_;rintro x w9 ⟨rfl,hb9⟩;have HX:=As (bt HX.out hb9);replace x0:=bc hb9 x0;replace x1:=bc hb9 x1;replace x2:=bc hb9 x2;replace x3:=bc hb9 x3;replace x4:=bc hb9 x4;clear hb9) | (go_at_call 77;refine (in_is HVs.out _).mono ?_;rintro x w9 ⟨rfl,rfl⟩) | (go_at_call 78;refine (fits_calls (c:=cl) (bt HB1.out HX.out) HR.out.l HVl.out).mono ?_;rintro x w9 ⟨rfl,hb9⟩;rw [HVf.out];have HX:=As (bt HX.out hb9);replace x0:=bc hb9 x0;replace x1:=bc hb9 x1;replace x2:=bc hb9 x2;replace x3:=bc hb9 x3;replace x4:=bc hb9 x4;clear hb9))
            go_ret
            exact ⟨ret_bool (by rw [← HV.out,eOk,HVd.out,HVm.out,HVl.out,HVs.out,HVf.out];simp),bt HB1.out HX.out⟩
          · have HVf:=As hvf
            clear hvf
            cases hvp : prefsB e (e.log.length + 1 - e.safe.toNat) e.safe.toNat
            · have HVp:=As hvp
              clear hvp
              go_enter Tryz.func36,Tryz.ntmps36
              go_wp2_with (first | (go_at_call 75;rw [HW1.out];refine (pagesOk_calls (c:=cd) HVd.out (bt HB1.out HX.out) HR.out.d).mono ?_;rintro x w9 ⟨rfl,hb9⟩;have HX:=As (bt HX.out hb9);replace x0:=bc hb9 x0;replace x1:=bc hb9 x1;replace x2:=bc hb9 x2;replace x3:=bc hb9 x3;replace x4:=bc hb9 x4;clear hb9) | (go_at_call 75;refine (pagesOk_calls (c:=cm) HVm.out (bt HB1.out HX.out) HR.out.m).mono ?_;rintro x w9 ⟨rfl,hb9⟩;have HX:=As (bt HX.out hb9);replace x0:=bc hb9 x0;replace x1:=bc hb9 x1;replace x2:=bc hb9 x2;replace x3:=bc hb9 x3;replace x4:=bc hb9 x4;clear hb9) | (go_at_call 76;refine (LogOk_calls (c:=cl) HVl.out (bt HB1.out HX.out) HR.out.l).mono ?_;rintro x w9 ⟨rfl,hb9⟩;have HX:=As (bt HX.out hb9);replace x0:=bc hb9 x0;replace x1:=bc hb9 x1;replace x2:=bc hb9 x2;replace x3:=bc hb9 x3;replace x4:=bc hb9 x4;clear hb9) | (go_at_call 77;refine (in_is HVs.out _).mono ?_;rintro x w9 ⟨rfl,rfl⟩) | (go_at_call 78;refine (fits_calls (c:=cl) (bt HB1.out HX.out) HR.out.l HVl.out).mono ?_;rintro x w9 ⟨rfl,hb9⟩;rw [HVf.out];have HX:=As (bt HX.out hb9);replace x0:=bc hb9 x0;replace x1:=bc hb9 x1;replace x2:=bc hb9 x2;replace x3:=bc hb9 x3;replace x4:=bc hb9 x4;clear hb9) | (go_at_call 79;refine (prefixesOk_calls (cd:=cd) (cm:=cm) (cl:=cl) HVp.out HS01.out.1 HS01.out.2 (psOk_geo HVd.out) HVl.out hcl (bt HB1.out HX.out) HR.out).mono ?_;rintro x w9 ⟨rfl,hb9⟩;have HX:=As (bt HX.out hb9);replace x0:=bc hb9 x0;replace x1:=bc hb9 x1;replace x2:=bc hb9 x2;replace x3:=bc hb9 x3;replace x4:=bc hb9 x4;clear hb9))
              go_ret
              exact ⟨ret_bool (by rw [← HV.out,eOk,HVd.out,HVm.out,HVl.out,HVs.out,HVf.out,HVp.out];simp),bt HB1.out HX.out⟩
            · have HVp:=As hvp
              clear hvp
              have HGR:=As (geo_redo (psOk_geo HVd.out) (fun k hk => (logOk_facts HVl.out hk).ok) e.log.length (Nat.le_refl _))
              have HP5:=As (show pgsB e 5 0 = b by rw [← HV.out,eOk,HVd.out,HVm.out,HVl.out,HVs.out,HVf.out,HVp.out, ← pgsB_all];simp)
              go_enter Tryz.func36,Tryz.ntmps36
              go_wp2_with (first | (go_at_call 75;rw [HW1.out];refine (pagesOk_calls (c:=cd) HVd.out (bt HB1.out HX.out) HR.out.d).mono ?_;rintro x w9 ⟨rfl,hb9⟩;have HX:=As (bt HX.out hb9);replace x0:=bc hb9 x0;replace x1:=bc hb9 x1;replace x2:=bc hb9 x2;replace x3:=bc hb9 x3;replace x4:=bc hb9 x4;clear hb9) | (go_at_call 75;refine (pagesOk_calls (c:=cm) HVm.out (bt HB1.out HX.out) HR.out.m).mono ?_;rintro x w9 ⟨rfl,hb9⟩;have HX:=As (bt HX.out hb9);replace x0:=bc hb9 x0;replace x1:=bc hb9 x1;replace x2:=bc hb9 x2;replace x3:=bc hb9 x3;replace x4:=bc hb9 x4;clear hb9) | (go_at_call 76;refine (LogOk_calls (c:=cl) HVl.out (bt HB1.out HX.out) HR.out.l).mono ?_;rintro x w9 ⟨rfl,hb9⟩;have HX:=As (bt HX.out hb9);replace x0:=bc hb9 x0;replace x1:=bc hb9 x1;replace x2:=bc hb9 x2;replace x3:=bc hb9 x3;replace x4:=bc hb9 x4;clear hb9) | (go_at_call 77;refine (in_is HVs.out _).mono ?_;rintro x w9 ⟨rfl,rfl⟩) | (go_at_call 78;refine (fits_calls (c:=cl) (bt HB1.out HX.out) HR.out.l HVl.out).mono ?_;rintro x w9 ⟨rfl,hb9⟩;rw [HVf.out];have HX:=As (bt HX.out hb9);replace x0:=bc hb9 x0;replace x1:=bc hb9 x1;replace x2:=bc hb9 x2;replace x3:=bc hb9 x3;replace x4:=bc hb9 x4;clear hb9) | (go_at_call 79;refine (prefixesOk_calls (cd:=cd) (cm:=cm) (cl:=cl) HVp.out HS01.out.1 HS01.out.2 (psOk_geo HVd.out) HVl.out hcl (bt HB1.out HX.out) HR.out).mono ?_;rintro x w9 ⟨rfl,hb9⟩;have HX:=As (bt HX.out hb9);replace x0:=bc hb9 x0;replace x1:=bc hb9 x1;replace x2:=bc hb9 x2;replace x3:=bc hb9 x3;replace x4:=bc hb9 x4;clear hb9) | (go_at_call 46;refine (redo_calls (c:=cd) (d:=cl) (psOk_geo HVd.out) (fun k hk => (logOk_facts HVl.out hk).ok) hm150 (bt HB1.out HX.out) HR.out.d HR.out.l).mono ?_;rintro x w9 ⟨u,rfl,hO,hb9⟩;obtain ⟨g,cap,rfl,hgb,hgl⟩:=psS_form hO (by rw [HGR.out.1];omega);rw [HGR.out.1] at hO ⊢;have HO:=As hO;have HGB:=As (And.intro hgb hgl);clear hO hgb hgl;have HX:=As (bt HX.out hb9);replace x0:=bc hb9 x0;replace x1:=bc hb9 x1;replace x2:=bc hb9 x2;replace x3:=bc hb9 x3;replace x4:=bc hb9 x4;clear hb9))
              have HL5:=As (And.intro (psOk_iff.1 HVd.out).1 (psOk_iff.1 HVm.out).1)
              obtain ⟨R,hRR⟩ : ∃ R,redoN e.disk e.log e.log.length = R:=⟨_,rfl⟩
              rw [hRR] at HO HGR
              have HRR:=As hRR
              clear hRR
              go_loopw [52] (fun i wr => ∃ k : Nat,k ≤ 5 ∧ i = .int .i64 (k : Int) ∧ Aside0 (pgsB e (5 - k) k = b) ∧ Aside0 (Below w9.heap.size w9 wr)) (fun i _ => (5 - intOf i).toNat)
              case atStart => exact ⟨0,by omega,rfl,HP5,⟨Below.refl _ _⟩⟩
              case round =>
                obtain ⟨k,hk,rfl,HK,HW⟩:=hrel
                have HW2:=As (bt HX.out HW.out)
                have HWW:=As (bt HB1.out HW2.out)
                have y0:=bc HW.out x0
                have y1:=bc HW.out x1
                have y2:=bc HW.out x2
                have y3:=bc HW.out x3
                have y4:=bc HW.out x4
                clear x0 x1 x2 x3 x4
                by_cases hlt : k < 5
                · have hpd : k < e.disk.length:=by have:=HL5.out;omega
                  have hpm : k < e.mem.length:=by have:=HL5.out;omega
                  obtain ⟨adm,Am2,cm2,rfl,QM, -,hmC⟩:=at_page HR.out.m k hpm
                  obtain ⟨add,Ad2,cd2,rfl,QD, -,hdC⟩:=at_page HR.out.d k hpd
                  obtain ⟨M,hM⟩ : ∃ M,pg e.mem k = M:=⟨_,rfl⟩
                  obtain ⟨Dp,hD⟩ : ∃ Dp,pg e.disk k = Dp:=⟨_,rfl⟩
                  obtain ⟨lr,hlk⟩ : ∃ lr,lockF e.log (k : Int) (openR e.log 3) 0 true = lr:=⟨_,rfl⟩
                  obtain ⟨m0,m1,m2⟩:=QM.up HWW.out
                  obtain ⟨d0,d1,d2⟩:=QD.up HWW.out
                  rw [hM] at m0 m1 m2 hmC
                  rw [hD] at d0 d1 d2 hdC
                  have HLK:=As hlk
                  have HMD:=As (And.intro hM hD)
                  have HMC:=As hmC
                  have HDC:=As hdC
                  have HPG:=As (show pgsB e (5 - k) k = (pageB e k && pgsB e (5 - (k + 1)) (k + 1)) by rw [show 5 - k = (5 - (k + 1)) + 1 by omega,pgsB])
                  obtain ⟨by_,lok⟩:=lr
                  obtain ⟨dn,hdn⟩ : ∃ dn,e.down = dn:=⟨_,rfl⟩
                  rw [hdn] at y4
                  have HDN:=As hdn
                  clear hM hD hlk hmC hdC QM QD hdn
                  cases lok
                  · go_wp2_with (go_at_call 60;refine (locks_calls (c:=cl) (k : Int) HWW.out HR.out.l HVl.out).mono ?_;rintro x w10 ⟨rfl,hb10⟩;rw [HLK.out];have HX10:=As (bt HW.out hb10);clear hb10)
                    refine text_start (fun w' => Below w10.heap.size w10 w') rfl rfl (by kernel_rfl) (below_drew (Below.refl _ _)) (fun HT => ?_)
                    repeat (first
                      | (refine text_end (fun wx hS => ?_))
                      | (refine text_skip HT rfl (by rfl) (fun _ _ _ h => h) ?_;simp only [sc0,sc1])
                      | (refine text_val (v:=?_) HT rfl (by rfl) (fun _ _ _ h => h) (fun wx hS => ?_) ?_;rotate_left;(skip;go_simp;with_reducible rfl);rotate_left;simp only [sc0,sc1]))
                    go_wp2
                    go_ret
                    exact ⟨ret_bool (by rw [← HK.out,HPG.out,pageB,HLK.out];simp),bt HB1.out (bt HX.out (bt HX10.out hS))⟩
                  · rcases lts e.safe Dp.lsn with ⟨e3,k1,k2⟩ | ⟨e3,k1,k2⟩
                    · go_wp2_with (go_at_call 60;refine (locks_calls (c:=cl) (k : Int) HWW.out HR.out.l HVl.out).mono ?_;rintro x w10 ⟨rfl,hb10⟩;rw [HLK.out];have HX10:=As (bt HW.out hb10);replace y0:=bc hb10 y0;replace y1:=bc hb10 y1;replace y2:=bc hb10 y2;replace y3:=bc hb10 y3;replace y4:=bc hb10 y4;replace m0:=bc hb10 m0;replace m1:=bc hb10 m1;replace m2:=bc hb10 m2;replace d0:=bc hb10 d0;replace d1:=bc hb10 d1;replace d2:=bc hb10 d2;clear hb10)
                      refine text_start (fun w' => Below w10.heap.size w10 w') rfl rfl (by kernel_rfl) (below_drew (Below.refl _ _)) (fun HT => ?_)
                      repeat (first
                        | (refine text_end (fun wx hS => ?_))
                        | (refine text_skip HT rfl (by rfl) (fun _ _ _ h => h) ?_;simp only [sc0,sc1])
                        | (refine text_val (v:=?_) HT rfl (by rfl) (fun _ _ _ h => h) (fun wx hS => ?_) ?_;rotate_left;(replace y0:=bc hS y0;replace y3:=bc hS y3;replace d0:=bc hS d0;go_simp;with_reducible rfl);rotate_left;simp only [sc0,sc1]))
                      go_wp2
                      go_ret
                      exact ⟨ret_bool (by rw [← HK.out,HPG.out,pageB,HLK.out,HMD.out.2,k2];simp),bt HB1.out (bt HX.out (bt HX10.out hS))⟩
                    · obtain ⟨q,hq⟩ : ∃ q,pg R k = q:=⟨_,rfl⟩
                      obtain ⟨pb,hpb⟩ : ∃ pb,(if e.down = true then samePg M Dp else memQ e k q) = pb:=⟨_,rfl⟩
                      have HPB:=As hpb
                      have HPK:=As (show pageB e k = pb by rw [pageB,HLK.out,memB_Q,HRR.out,hq,HMD.out.1,HMD.out.2,k2,hpb];rfl)
                      have HQQ:=As hq
                      clear hpb hq
                      cases dn
                      · go_wp2_with (go_at_call 60;refine (locks_calls (c:=cl) (k : Int) HWW.out HR.out.l HVl.out).mono ?_;rintro x w10 ⟨rfl,hb10⟩;rw [HLK.out];have HX10:=As (bt HW.out hb10);replace y0:=bc hb10 y0;replace y1:=bc hb10 y1;replace y2:=bc hb10 y2;replace y3:=bc hb10 y3;replace y4:=bc hb10 y4;replace m0:=bc hb10 m0;replace m1:=bc hb10 m1;replace m2:=bc hb10 m2;replace d0:=bc hb10 d0;replace d1:=bc hb10 d1;replace d2:=bc hb10 d2;clear hb10)
                        refine text_start (fun w' => Below w10.heap.size w10 w') rfl rfl (by kernel_rfl) (below_drew (Below.refl _ _)) (fun HT => ?_)
                        repeat (first
                          | (refine text_end (fun wx hS => ?_))
                          | (refine text_skip HT rfl (by rfl) (fun _ _ _ h => h) ?_;simp only [sc0,sc1])
                          | (refine text_val (v:=?_) HT rfl (by rfl) (fun _ _ _ h => h) (fun wx hS => ?_) ?_;rotate_left;(replace y0:=bc hS y0;replace y3:=bc hS y3;replace d0:=bc hS d0;go_simp;with_reducible rfl);rotate_left;simp only [sc0,sc1]))
                        rename_i w11
                        have HX11:=As (bt HX10.out hS)
                        have HW11:=As (bt HB1.out (bt HX.out HX11.out))
                        replace y0:=bc hS y0;replace y1:=bc hS y1;replace y2:=bc hS y2;replace y3:=bc hS y3;replace y4:=bc hS y4
                        obtain ⟨A3,c3,q0,q1,q2,qC, -⟩:=psS_at (Kd.S_below HO.out HX11.out) k hlt
                        rw [HQQ.out] at q0 q1 q2 qC
                        have HQC:=As qC
                        have hcall : ∀ w',Below wx.heap.size wx w' → Calls Tryz.prog 81 #[.agg #[.slice (some add) e.disk.length cd, .slice (some adm) e.mem.length cm, .slice Al e.log.length cl, .int .i64 e.safe, .bool false], .int .i64 k,q.val A3 c3] w' fun x w2 => x = .returned (.bool pb) ∧ Below w'.heap.size w' w2:=fun w' hb => by
                          have h:=memOk_calls (w0:=wx) (cd:=cd) (cm:=cm) (cl:=cl) (cr:=c3) (e:=e) (b:=pb) (by rw [← HPB.out,if_neg (by rw [HDN.out];simp)]) hlt HL5.out.1 HL5.out.2 HVl.out hb (HR.out.up HW11.out) HQC.out
                          unfold Eng.val Eng.ag at h
                          rw [HDN.out] at h
                          exact h
                        clear hS qC
                        go_wp2
                        refine text_start (fun w' => Below wx.heap.size wx w') rfl rfl (by kernel_rfl) (below_drew (Below.refl _ _)) (fun HT => ?_)
                        repeat (first
                          | (refine text_end (fun wx hS => ?_))
                          | ((with_reducible refine text_gate (f:=81) rfl ?_);refine text_call (v:=.bool pb) (args:=#[.agg #[.slice (some add) e.disk.length cd, .slice (some adm) e.mem.length cm, .slice Al e.log.length cl, .int .i64 e.safe, .bool false], .int .i64 k,q.val A3 c3]) HT rfl Tryz.func81 (by kernel_rfl) rfl rfl (by rfl) (fun _ _ _ h => h) (by simp only [List.map_toArray,List.map_cons,List.map_nil];rfl) (fun wx hS => (hcall wx hS).mono fun _ _ h => ⟨h.1,bt hS h.2⟩) ?_;simp only [sc0,sc1])
                          | (refine text_skip HT rfl (by rfl) (fun _ _ _ h => h) ?_;simp only [sc0,sc1])
                          | (refine text_val (v:=?_) HT rfl (by rfl) (fun _ _ _ h => h) (fun wx hS => ?_) ?_;rotate_left;(replace y0:=bc hS y0;replace y1:=bc hS y1;replace y2:=bc hS y2;replace y3:=bc hS y3;replace y4:=bc hS y4;replace q0:=bc hS q0;replace q1:=bc hS q1;replace q2:=bc hS q2;go_simp;with_reducible rfl);rotate_left;simp only [sc0,sc1]))
                        cases pb
                        · go_wp2
                          go_ret
                          exact ⟨ret_bool (by rw [← HK.out,HPG.out,HPK.out];rfl),bt HW11.out hS⟩
                        · go_wp2
                          go_roundw
                          case rel => exact ⟨k + 1,by omega,by go_num,⟨by rw [← HK.out,HPG.out,HPK.out];rfl⟩,⟨bt HX11.out hS⟩⟩
                          case measure => simp [intOf];omega
                      · go_wp2_with (go_at_call 60;refine (locks_calls (c:=cl) (k : Int) HWW.out HR.out.l HVl.out).mono ?_;rintro x w10 ⟨rfl,hb10⟩;rw [HLK.out];have HX10:=As (bt HW.out hb10);replace y0:=bc hb10 y0;replace y1:=bc hb10 y1;replace y2:=bc hb10 y2;replace y3:=bc hb10 y3;replace y4:=bc hb10 y4;replace m0:=bc hb10 m0;replace m1:=bc hb10 m1;replace m2:=bc hb10 m2;replace d0:=bc hb10 d0;replace d1:=bc hb10 d1;replace d2:=bc hb10 d2;clear hb10)
                        refine text_start (fun w' => Below w10.heap.size w10 w') rfl rfl (by kernel_rfl) (below_drew (Below.refl _ _)) (fun HT => ?_)
                        repeat (first
                          | (refine text_end (fun wx hS => ?_))
                          | (refine text_skip HT rfl (by rfl) (fun _ _ _ h => h) ?_;simp only [sc0,sc1])
                          | (refine text_val (v:=?_) HT rfl (by rfl) (fun _ _ _ h => h) (fun wx hS => ?_) ?_;rotate_left;(replace y0:=bc hS y0;replace y3:=bc hS y3;replace d0:=bc hS d0;go_simp;with_reducible rfl);rotate_left;simp only [sc0,sc1]))
                        have HX11:=As (bt HX10.out hS)
                        have HW11:=As (bt HB1.out (bt HX.out HX11.out))
                        replace y0:=bc hS y0;replace y1:=bc hS y1;replace y4:=bc hS y4;replace m0:=bc hS m0;replace m1:=bc hS m1;replace m2:=bc hS m2;replace d0:=bc hS d0;replace d1:=bc hS d1;replace d2:=bc hS d2
                        clear hS
                        cases pb
                        · go_wp2
                          refine text_start (fun w' => Below wx.heap.size wx w') rfl rfl (by kernel_rfl) (below_drew (Below.refl _ _)) (fun HT => ?_)
                          repeat (first
                            | (refine text_end (fun wx hS => ?_))
                            | ((with_reducible refine text_gate (f:=80) rfl ?_);refine text_call (v:=.bool false) (args:=#[M.val Am2 cm2,Dp.val Ad2 cd2]) HT rfl Tryz.func80 (by kernel_rfl) rfl rfl (by rfl) (fun _ _ _ h => h) (by simp only [List.map_toArray,List.map_cons,List.map_nil];rfl) (fun wx hS => (same_calls (c:=cm2) (d:=cd2) (by have:=HPB.out;rw [if_pos HDN.out] at this;exact this) (bt HW11.out hS) HMC.out HDC.out).mono fun _ _ h => ⟨h.1,bt hS h.2⟩) ?_;simp only [sc0,sc1])
                            | (refine text_skip HT rfl (by rfl) (fun _ _ _ h => h) ?_;simp only [sc0,sc1])
                            | (refine text_val (v:=?_) HT rfl (by rfl) (fun _ _ _ h => h) (fun wx hS => ?_) ?_;rotate_left;(replace y0:=bc hS y0;replace y1:=bc hS y1;replace y4:=bc hS y4;replace m0:=bc hS m0;replace m1:=bc hS m1;replace m2:=bc hS m2;replace d0:=bc hS d0;replace d1:=bc hS d1;replace d2:=bc hS d2;go_simp;with_reducible rfl);rotate_left;simp only [sc0,sc1]))
                          go_wp2
                          go_ret
                          exact ⟨ret_bool (by rw [← HK.out,HPG.out,HPK.out];rfl),bt HW11.out hS⟩
                        · go_wp2
                          refine text_start (fun w' => Below wx.heap.size wx w') rfl rfl (by kernel_rfl) (below_drew (Below.refl _ _)) (fun HT => ?_)
                          repeat (first
                            | (refine text_end (fun wx hS => ?_))
                            | ((with_reducible refine text_gate (f:=80) rfl ?_);refine text_call (v:=.bool true) (args:=#[M.val Am2 cm2,Dp.val Ad2 cd2]) HT rfl Tryz.func80 (by kernel_rfl) rfl rfl (by rfl) (fun _ _ _ h => h) (by simp only [List.map_toArray,List.map_cons,List.map_nil];rfl) (fun wx hS => (same_calls (c:=cm2) (d:=cd2) (by have:=HPB.out;rw [if_pos HDN.out] at this;exact this) (bt HW11.out hS) HMC.out HDC.out).mono fun _ _ h => ⟨h.1,bt hS h.2⟩) ?_;simp only [sc0,sc1])
                            | (refine text_skip HT rfl (by rfl) (fun _ _ _ h => h) ?_;simp only [sc0,sc1])
                            | (refine text_val (v:=?_) HT rfl (by rfl) (fun _ _ _ h => h) (fun wx hS => ?_) ?_;rotate_left;(replace y0:=bc hS y0;replace y1:=bc hS y1;replace y4:=bc hS y4;replace m0:=bc hS m0;replace m1:=bc hS m1;replace m2:=bc hS m2;replace d0:=bc hS d0;replace d1:=bc hS d1;replace d2:=bc hS d2;go_simp;with_reducible rfl);rotate_left;simp only [sc0,sc1]))
                          go_wp2
                          go_roundw
                          case rel => exact ⟨k + 1,by omega,by go_num,⟨by rw [← HK.out,HPG.out,HPK.out];rfl⟩,⟨bt HX11.out hS⟩⟩
                          case measure => simp [intOf];omega
                · go_wp2
                  go_ret
                  exact ⟨ret_bool (by rw [← HK.out,show 5 - k = 0 by omega];rfl),HWW.out⟩
section
variable {P : Program} {ops : Array Oper} {Q : Exit → Act → World → Prop} {S : Array Bool → Act → World → Prop} {m i d : Nat} {o : Oper} {done : List Nat} {L : List Value} {D : List Deferred} {w w1 : World}
theorem reg_later {R : Option Addr → Nat → Option Addr → Nat → Nat → Prop} {G : Prop} (h1 : (∀ a b c d e,R a b c d e) → G) (h2 : ∀ a b c d e,R a b c d e) : G:=h1 h2
/-- In whatever order they came up. -/
theorem reg_perm {done' : List Nat} {a : Act} (hp : (lsd ops.size done == lsd ops.size done' && done.length == done'.length) = true) (h : Reg P ops Q S m done a) : Reg P ops Q S m done' a:=by
  simp only [Bool.and_eq_true,beq_iff_eq] at hp
  have h1:=h.out
  rw [hp.1,hp.2] at h1
  exact ⟨h1⟩
end
theorem TwoPs.over {w w1 : World} {b : Nat} {vd vm vl : Value} {ps qs : List Page} {l : List Rec} (h : TwoPs w b vd vm ps qs) (hl : OwnRs w b vl l) (hg : w.grownBy w1 vl.ownBlock) : TwoPs w1 b vd vm ps qs:=by
  obtain ⟨okd,okm,h1,h2,h3⟩:=h
  exact ⟨okd,okm,h1,Kd.S_over' h2 (rs_typed hl) pages_ne_recs hg,Kd.S_over' h3 (rs_typed hl) pages_ne_recs hg⟩
set_option maxRecDepth 100000 in
set_option maxHeartbeats 16000000 in
theorem l11Copy_calls {w0 w : World} {e : Eng} {Ad Am Al : Option Addr} {cd cm cl : Nat} (hd : geo e.disk) (hm : geo e.mem) (hl : e.log.length ≤ 150) (hb : Below w0.heap.size w0 w) (hr : EngC w0 e Ad Am Al) : Calls Tryz.prog 42 #[e.val Ad Am Al cd cm cl] w (RetE w e):=by
  have HR:=As (hr.up hb)
  have HD:=As hd
  have HM:=As hm
  have HL:=As hl
  clear hr hb hd hm hl
  obtain ⟨w1,hw1⟩ : ∃ w1,w.alloc (e.obox (.slice Ad e.disk.length cd) (.slice Am e.mem.length cm) (.slice Al e.log.length cl)) = w1:=⟨_,rfl⟩
  obtain ⟨w2,hw2⟩ : ∃ w2,w1.alloc (zE.obox (.slice none 0 0) (.slice none 0 0) (.slice none 0 0)) = w2:=⟨_,rfl⟩
  have hz1 : w1.heap.size = w.heap.size + 1:=by rw [← hw1];exact size1 _ _
  have hz2 : w2.heap.size = w.heap.size + 2:=by rw [← hw2,size1,hz1]
  have hb12 : Below w1.heap.size w1 w2:=by rw [← hw2];exact bel_alloc (Below.refl _ _) _
  have HB2 : Aside0 (Below w.heap.size w w2):=⟨by rw [← hw2, ← hw1];exact bel_alloc (bel_alloc (Below.refl _ _) _) _⟩
  have HQ2 : Aside0 (EgBox w2 w.heap.size e (.slice Ad e.disk.length cd) (.slice Am e.mem.length cm) (.slice Al e.log.length cl)):=⟨EgBox.up (by rw [← hw1];exact EgBox.mk1 _ _ _ _ _) hb12⟩
  have HP2 : Aside0 (EgBox w2 (w.heap.size + 1) zE (.slice none 0 0) (.slice none 0 0) (.slice none 0 0)):=⟨by rw [← hw2, ← hz1];exact EgBox.mk1 _ _ _ _ _⟩
  have HW2 : Aside0 ((w.alloc (e.obox (.slice Ad e.disk.length cd) (.slice Am e.mem.length cm) (.slice Al e.log.length cl))).alloc (zE.obox (.slice none 0 0) (.slice none 0 0) (.slice none 0 0)) = w2):=⟨by rw [hw1,hw2]⟩
  have HZ2:=As hz2
  clear hw1 hw2 hz1 hz2 hb12
  have HCD : Aside0 (∀ wx,Below w.heap.size w wx → Calls Tryz.prog 100 #[.slice Ad e.disk.length cd] wx (RetPs wx e.disk)):=⟨fun wx hb => l11CopyPages_calls (geo_few HD.out) (by have:=HD.out.1;omega) hb HR.out.d⟩
  have HCM : Aside0 (∀ wx,Below w.heap.size w wx → Calls Tryz.prog 100 #[.slice Am e.mem.length cm] wx (RetPs wx e.mem)):=⟨fun wx hb => l11CopyPages_calls (geo_few HM.out) (by have:=HM.out.1;omega) hb HR.out.m⟩
  go_enter Tryz.func42,Tryz.ntmps42
  go_wp2
  rw [show (w.alloc (Obj.cells #[Value.slice Ad e.disk.length cd,Value.slice Am e.mem.length cm,Value.slice Al e.log.length cl,Value.int IntKind.i64 e.safe,Value.bool e.down] 28)).alloc (Obj.cells #[Value.slice none 0 0,Value.slice none 0 0,Value.slice none 0 0,Value.int IntKind.i64 0,Value.bool false] 28) = w2 from HW2.out]
  refine reg_start (fun lx a wx => (Below w.heap.size w wx ∧ w.heap.size + 2 ≤ wx.heap.size ∧ EgBox wx w.heap.size e (.slice Ad e.disk.length cd) (.slice Am e.mem.length cm) (.slice Al e.log.length cl) ∧ EgBox wx (w.heap.size + 1) zE (.slice none 0 0) (.slice none 0 0) (.slice none 0 0)) ∧ (Sl 2 5 (fun v wx => OwnPs wx w.heap.size v e.disk) lx a wx ∧ (Sl2 2 5 5 8 (fun v u wx => TwoPs wx w.heap.size v u e.disk e.mem) lx a wx ∧ (Pre 9 6 9 (fun _ => True) (fun v wx => OwnRs wx w.heap.size v []) lx a wx ∧ Sl 9 12 (fun v wx => OwnRs wx w.heap.size v e.log) lx a wx)))) 15 rfl (by kernel_rfl) (⟨⟨below_drew HB2.out,by have:=HZ2.out;show _ ≤ w2.heap.size;omega,HQ2.out.up (below_drew (Below.refl _ _)),HP2.out.up (below_drew (Below.refl _ _))⟩,sl_start,sl2_start,pre_start trivial,sl_start⟩) (fun HT => ?_)
  refine reg_val (i:=0) (v:=?_) HT rfl (by kernel_rfl) rfl (kA keeps_world (kA (keeps_sl rfl rfl) (kA (keeps_sl2 rfl rfl rfl rfl) (kA (keeps_pre rfl rfl rfl) (keeps_sl rfl rfl))))) (by rfl) (fun _ _ _ h => h) (fun lx ax wx hS => ?_) ?_;rotate_left;(obtain ⟨⟨-, -,hq, -⟩, -⟩:=hS;have x0:=hq.c0;have x1:=hq.c1;have x2:=hq.c2;have x3:=hq.c3;have x4:=hq.c4;clear hq;go_simp;with_reducible rfl);rotate_left;simp only [sc0,sc1]
  refine reg_val (i:=1) (v:=?_) HT rfl (by kernel_rfl) rfl (kA keeps_world (kA (keeps_sl rfl rfl) (kA (keeps_sl2 rfl rfl rfl rfl) (kA (keeps_pre rfl rfl rfl) (keeps_sl rfl rfl))))) (by rfl) (fun _ _ _ h => h) (fun lx ax wx hS => ?_) ?_;rotate_left;(obtain ⟨⟨-, -,hq, -⟩, -⟩:=hS;have x0:=hq.c0;have x1:=hq.c1;have x2:=hq.c2;have x3:=hq.c3;have x4:=hq.c4;clear hq;go_simp;with_reducible rfl);rotate_left;simp only [sc0,sc1]
  refine reg_val (i:=3) (v:=?_) HT rfl (by kernel_rfl) rfl (kA keeps_world (kA (keeps_sl rfl rfl) (kA (keeps_sl2 rfl rfl rfl rfl) (kA (keeps_pre rfl rfl rfl) (keeps_sl rfl rfl))))) (by rfl) (fun _ _ _ h => h) (fun lx ax wx hS => ?_) ?_;rotate_left;(obtain ⟨⟨-, -,hq, -⟩, -⟩:=hS;have x0:=hq.c0;have x1:=hq.c1;have x2:=hq.c2;have x3:=hq.c3;have x4:=hq.c4;clear hq;go_simp;with_reducible rfl);rotate_left;simp only [sc0,sc1]
  refine reg_val (i:=4) (v:=?_) HT rfl (by kernel_rfl) rfl (kA keeps_world (kA (keeps_sl rfl rfl) (kA (keeps_sl2 rfl rfl rfl rfl) (kA (keeps_pre rfl rfl rfl) (keeps_sl rfl rfl))))) (by rfl) (fun _ _ _ h => h) (fun lx ax wx hS => ?_) ?_;rotate_left;(obtain ⟨⟨-, -,hq, -⟩, -⟩:=hS;have x0:=hq.c0;have x1:=hq.c1;have x2:=hq.c2;have x3:=hq.c3;have x4:=hq.c4;clear hq;go_simp;with_reducible rfl);rotate_left;simp only [sc0,sc1]
  refine reg_val (i:=7) (v:=?_) HT rfl (by kernel_rfl) rfl (kA keeps_world (kA (keeps_sl rfl rfl) (kA (keeps_sl2 rfl rfl rfl rfl) (kA (keeps_pre rfl rfl rfl) (keeps_sl rfl rfl))))) (by rfl) (fun _ _ _ h => h) (fun lx ax wx hS => ?_) ?_;rotate_left;(obtain ⟨⟨-, -,hq, -⟩, -⟩:=hS;have x0:=hq.c0;have x1:=hq.c1;have x2:=hq.c2;have x3:=hq.c3;have x4:=hq.c4;clear hq;go_simp;with_reducible rfl);rotate_left;simp only [sc0,sc1]
  refine reg_val (i:=8) (v:=?_) HT rfl (by kernel_rfl) rfl (kA keeps_world (kA (keeps_sl rfl rfl) (kA (keeps_sl2 rfl rfl rfl rfl) (kA (keeps_pre rfl rfl rfl) (keeps_sl rfl rfl))))) (by rfl) (fun _ _ _ h => h) (fun lx ax wx hS => ?_) ?_;rotate_left;(obtain ⟨⟨-, -,hq, -⟩, -⟩:=hS;have x0:=hq.c0;have x1:=hq.c1;have x2:=hq.c2;have x3:=hq.c3;have x4:=hq.c4;clear hq;go_simp;with_reducible rfl);rotate_left;simp only [sc0,sc1]
  refine reg_val (i:=10) (v:=?_) HT rfl (by kernel_rfl) rfl (kA keeps_world (kA (keeps_sl rfl rfl) (kA (keeps_sl2 rfl rfl rfl rfl) (kA (keeps_pre rfl rfl rfl) (keeps_sl rfl rfl))))) (by rfl) (fun _ _ _ h => h) (fun lx ax wx hS => ?_) ?_;rotate_left;(obtain ⟨⟨-, -,hq, -⟩, -⟩:=hS;have x0:=hq.c0;have x1:=hq.c1;have x2:=hq.c2;have x3:=hq.c3;have x4:=hq.c4;clear hq;go_simp;with_reducible rfl);rotate_left;simp only [sc0,sc1]
  refine reg_val (i:=11) (v:=?_) HT rfl (by kernel_rfl) rfl (kA keeps_world (kA (keeps_sl rfl rfl) (kA (keeps_sl2 rfl rfl rfl rfl) (kA (keeps_pre rfl rfl rfl) (keeps_sl rfl rfl))))) (by rfl) (fun _ _ _ h => h) (fun lx ax wx hS => ?_) ?_;rotate_left;(obtain ⟨⟨-, -,hq, -⟩, -⟩:=hS;have x0:=hq.c0;have x1:=hq.c1;have x2:=hq.c2;have x3:=hq.c3;have x4:=hq.c4;clear hq;go_simp;with_reducible rfl);rotate_left;simp only [sc0,sc1]
  refine reg_val (i:=12) (v:=?_) HT rfl (by kernel_rfl) rfl (kA keeps_world (kA (keeps_sl rfl rfl) (kA (keeps_sl2 rfl rfl rfl rfl) (kA (keeps_pre rfl rfl rfl) (keeps_sl rfl rfl))))) (by rfl) (fun _ _ _ h => h) (fun lx ax wx hS => ?_) ?_;rotate_left;(obtain ⟨⟨-, -,hq, -⟩, -⟩:=hS;have x0:=hq.c0;have x1:=hq.c1;have x2:=hq.c2;have x3:=hq.c3;have x4:=hq.c4;clear hq;go_simp;with_reducible rfl);rotate_left;simp only [sc0,sc1]
  refine reg_val (i:=13) (v:=?_) HT rfl (by kernel_rfl) rfl (kA keeps_world (kA (keeps_sl rfl rfl) (kA (keeps_sl2 rfl rfl rfl rfl) (kA (keeps_pre rfl rfl rfl) (keeps_sl rfl rfl))))) (by rfl) (fun _ _ _ h => h) (fun lx ax wx hS => ?_) ?_;rotate_left;(obtain ⟨⟨-, -,hq, -⟩, -⟩:=hS;have x0:=hq.c0;have x1:=hq.c1;have x2:=hq.c2;have x3:=hq.c3;have x4:=hq.c4;clear hq;go_simp;with_reducible rfl);rotate_left;simp only [sc0,sc1]
  apply reg_later
  · intro hrest
    refine reg_each [2,6] (by kernel_rfl) (fun i hi wx hS => ?_)
    rcases List.mem_cons.1 hi with rfl | hi
    · clear hi
      refine wpOp_only (f:=100) (args:=#[.slice Ad e.disk.length cd]) rfl rfl Tryz.func100 (by kernel_rfl) rfl rfl (by rfl) (by simp only [List.map_toArray,List.map_cons,List.map_nil];rfl) ((HCD.out wx hS.1.1).mono ?_)
      rintro x w6 ⟨v,rfl,ho,hb⟩
      obtain ⟨Bd,dd,rfl, -, -⟩:=Kd.S_reads ho
      refine ⟨_,rfl,⟨⟨bt hS.1.1 hb,Nat.le_trans hS.1.2.1 hb.size,hS.1.2.2.1.up hb,hS.1.2.2.2.up hb⟩,fun _ => Kd.S_lower ho hS.1.1.size,fun _ h => (no_yes h (by kernel_rfl)).elim,fun _ => ⟨trivial,fun h => (no_yes h (by kernel_rfl)).elim⟩,fun h => (no_yes h (by kernel_rfl)).elim⟩,?_⟩
      clear hS ho hb
      simp only [sc0,sc1]
      refine reg_each [5,6] (by kernel_rfl) (fun i hi wx hS => ?_)
      rcases List.mem_cons.1 hi with rfl | hi
      · clear hi
        refine wpOp_only (f:=100) (args:=#[.slice Am e.mem.length cm]) rfl rfl Tryz.func100 (by kernel_rfl) rfl rfl (by rfl) (by simp only [List.map_toArray,List.map_cons,List.map_nil];rfl) ((HCM.out wx hS.1.1).mono ?_)
        rintro x w6 ⟨v,rfl,ho,hb⟩
        obtain ⟨Bm,dm,rfl, -, -⟩:=Kd.S_reads ho
        refine ⟨_,rfl,⟨⟨bt hS.1.1 hb,Nat.le_trans hS.1.2.1 hb.size,hS.1.2.2.1.up hb,hS.1.2.2.2.up hb⟩,fun _ => Kd.S_below (hS.2.1 (by kernel_rfl)) hb,fun _ _ => TwoPs.mk (hS.2.1 (by kernel_rfl)) ho hb hS.1.1.size,fun _ => ⟨trivial,fun h => (no_yes h (by kernel_rfl)).elim⟩,fun h => (no_yes h (by kernel_rfl)).elim⟩,?_⟩
        clear hS ho hb
        simp only [sc0,sc1]
        refine reg_each [6] (by kernel_rfl) (fun i hi wx hS => ?_)
        obtain rfl:=List.mem_singleton.1 hi
        clear hi
        have hb : Below wx.heap.size wx (wx.alloc (.cells #[] 98)):=bel_alloc (Below.refl _ _) _
        refine wpOp_valL (w1:=wx.alloc (.cells #[] 98)) (.slice (some ⟨wx.heap.size,0,none⟩) 0 0) rfl rfl (by rfl) (by go_simp) ?_
        refine ⟨⟨⟨bt hS.1.1 hb,Nat.le_trans hS.1.2.1 hb.size,hS.1.2.2.1.up hb,hS.1.2.2.2.up hb⟩,fun _ => Kd.S_below (hS.2.1 (by kernel_rfl)) hb,fun _ _ => (hS.2.2.1 (by kernel_rfl) (by kernel_rfl)).below hb,fun _ => ⟨trivial,fun _ => rs_empty rfl hS.1.1.size⟩,fun h => (no_yes h (by kernel_rfl)).elim⟩,?_⟩
        obtain ⟨B,hB⟩ : ∃ B,wx.heap.size = B:=⟨_,rfl⟩
        clear hb
        rw [hB]
        clear hB hS
        simp only [sc0,sc1]
        exact reg_perm (done := [6,5,2,13,12,11,10,8,7,4,3,1,0]) (by kernel_rfl) (hrest Bd dd Bm dm B)
      · obtain rfl:=List.mem_singleton.1 hi
        clear hi
        have hb : Below wx.heap.size wx (wx.alloc (.cells #[] 98)):=bel_alloc (Below.refl _ _) _
        refine wpOp_valL (w1:=wx.alloc (.cells #[] 98)) (.slice (some ⟨wx.heap.size,0,none⟩) 0 0) rfl rfl (by rfl) (by go_simp) ?_
        refine ⟨⟨⟨bt hS.1.1 hb,Nat.le_trans hS.1.2.1 hb.size,hS.1.2.2.1.up hb,hS.1.2.2.2.up hb⟩,fun _ => Kd.S_below (hS.2.1 (by kernel_rfl)) hb,fun _ h => (no_yes h (by kernel_rfl)).elim,fun _ => ⟨trivial,fun _ => rs_empty rfl hS.1.1.size⟩,fun h => (no_yes h (by kernel_rfl)).elim⟩,?_⟩
        obtain ⟨B,hB⟩ : ∃ B,wx.heap.size = B:=⟨_,rfl⟩
        clear hb
        rw [hB]
        clear hB hS
        simp only [sc0,sc1]
        refine reg_each [5] (by kernel_rfl) (fun i hi wx hS => ?_)
        obtain rfl:=List.mem_singleton.1 hi
        clear hi
        refine wpOp_only (f:=100) (args:=#[.slice Am e.mem.length cm]) rfl rfl Tryz.func100 (by kernel_rfl) rfl rfl (by rfl) (by simp only [List.map_toArray,List.map_cons,List.map_nil];rfl) ((HCM.out wx hS.1.1).mono ?_)
        rintro x w6 ⟨v,rfl,ho,hb⟩
        obtain ⟨Bm,dm,rfl, -, -⟩:=Kd.S_reads ho
        refine ⟨_,rfl,⟨⟨bt hS.1.1 hb,Nat.le_trans hS.1.2.1 hb.size,hS.1.2.2.1.up hb,hS.1.2.2.2.up hb⟩,fun _ => Kd.S_below (hS.2.1 (by kernel_rfl)) hb,fun _ _ => TwoPs.mk (hS.2.1 (by kernel_rfl)) ho hb hS.1.1.size,fun _ => ⟨trivial,fun _ => Kd.R_below ((hS.2.2.2.1 (by kernel_rfl)).2 (by kernel_rfl)) hb⟩,fun h => (no_yes h (by kernel_rfl)).elim⟩,?_⟩
        clear hS ho hb
        simp only [sc0,sc1]
        exact reg_perm (done := [6,5,2,13,12,11,10,8,7,4,3,1,0]) (by kernel_rfl) (hrest Bd dd Bm dm B)
    · obtain rfl:=List.mem_singleton.1 hi
      clear hi
      have hb : Below wx.heap.size wx (wx.alloc (.cells #[] 98)):=bel_alloc (Below.refl _ _) _
      refine wpOp_valL (w1:=wx.alloc (.cells #[] 98)) (.slice (some ⟨wx.heap.size,0,none⟩) 0 0) rfl rfl (by rfl) (by go_simp) ?_
      refine ⟨⟨⟨bt hS.1.1 hb,Nat.le_trans hS.1.2.1 hb.size,hS.1.2.2.1.up hb,hS.1.2.2.2.up hb⟩,fun h => (no_yes h (by kernel_rfl)).elim,fun _ h => (no_yes h (by kernel_rfl)).elim,fun _ => ⟨trivial,fun _ => rs_empty rfl hS.1.1.size⟩,fun h => (no_yes h (by kernel_rfl)).elim⟩,?_⟩
      obtain ⟨B,hB⟩ : ∃ B,wx.heap.size = B:=⟨_,rfl⟩
      clear hb
      rw [hB]
      clear hB hS
      simp only [sc0,sc1]
      refine reg_each [2] (by kernel_rfl) (fun i hi wx hS => ?_)
      obtain rfl:=List.mem_singleton.1 hi
      clear hi
      refine wpOp_only (f:=100) (args:=#[.slice Ad e.disk.length cd]) rfl rfl Tryz.func100 (by kernel_rfl) rfl rfl (by rfl) (by simp only [List.map_toArray,List.map_cons,List.map_nil];rfl) ((HCD.out wx hS.1.1).mono ?_)
      rintro x w6 ⟨v,rfl,ho,hb⟩
      obtain ⟨Bd,dd,rfl, -, -⟩:=Kd.S_reads ho
      refine ⟨_,rfl,⟨⟨bt hS.1.1 hb,Nat.le_trans hS.1.2.1 hb.size,hS.1.2.2.1.up hb,hS.1.2.2.2.up hb⟩,fun _ => Kd.S_lower ho hS.1.1.size,fun _ h => (no_yes h (by kernel_rfl)).elim,fun _ => ⟨trivial,fun _ => Kd.R_below ((hS.2.2.2.1 (by kernel_rfl)).2 (by kernel_rfl)) hb⟩,fun h => (no_yes h (by kernel_rfl)).elim⟩,?_⟩
      clear hS ho hb
      simp only [sc0,sc1]
      refine reg_each [5] (by kernel_rfl) (fun i hi wx hS => ?_)
      obtain rfl:=List.mem_singleton.1 hi
      clear hi
      refine wpOp_only (f:=100) (args:=#[.slice Am e.mem.length cm]) rfl rfl Tryz.func100 (by kernel_rfl) rfl rfl (by rfl) (by simp only [List.map_toArray,List.map_cons,List.map_nil];rfl) ((HCM.out wx hS.1.1).mono ?_)
      rintro x w6 ⟨v,rfl,ho,hb⟩
      obtain ⟨Bm,dm,rfl, -, -⟩:=Kd.S_reads ho
      refine ⟨_,rfl,⟨⟨bt hS.1.1 hb,Nat.le_trans hS.1.2.1 hb.size,hS.1.2.2.1.up hb,hS.1.2.2.2.up hb⟩,fun _ => Kd.S_below (hS.2.1 (by kernel_rfl)) hb,fun _ _ => TwoPs.mk (hS.2.1 (by kernel_rfl)) ho hb hS.1.1.size,fun _ => ⟨trivial,fun _ => Kd.R_below ((hS.2.2.2.1 (by kernel_rfl)).2 (by kernel_rfl)) hb⟩,fun h => (no_yes h (by kernel_rfl)).elim⟩,?_⟩
      clear hS ho hb
      simp only [sc0,sc1]
      exact reg_perm (done := [6,5,2,13,12,11,10,8,7,4,3,1,0]) (by kernel_rfl) (hrest Bd dd Bm dm B)
  · intro Bd dd Bm dm B
    refine reg_each [9] (by kernel_rfl) (fun i hi w3 hS => ?_)
    obtain rfl:=List.mem_singleton.1 hi
    clear hi
    obtain ⟨⟨h1,h2,h3,h4⟩,hc1,hc2,hc3, -⟩:=hS
    have hr0 : OwnRs w3 w.heap.size (.slice (some ⟨B,0,none⟩) 0 0) []:=(hc3 (by kernel_rfl)).2 (by kernel_rfl)
    have hd0 : OwnPs w3 w.heap.size (.slice Bd e.disk.length dd) e.disk:=hc1 (by kernel_rfl)
    have ht0 : TwoPs w3 w.heap.size (.slice Bd e.disk.length dd) (.slice Bm e.mem.length dm) e.disk e.mem:=hc2 (by kernel_rfl) (by kernel_rfl)
    have hlg : Kd.C kRec w3 Al e.log.length e.log:=C_up HR.out.l h1
    refine wpOp_step rfl (Kd.R_append_rows_step kRec (Rr:=kRec.K w3) (w0:=w) w.heap.size (by rfl) (.tmp 9) (.tmp 11) 26 98 _ 64 rfl under_recs info_rec rfl (by decide) (by decide) (.slice (some ⟨B,0,none⟩) 0 0) [] e.log Al e.log.length cl (fun _ => True) (fun _ => False) rfl rfl hr0 hlg (fun _ _ hk => kRec_KM hk) (fun _ hk => hk.elim) (fun _ _ => trivial) h1 h1.size (by have:=HL.out;simp;omega) (fun v1 w4 hown hb4 hg4 _ => ?_))
    have hown : OwnRs w4 w.heap.size v1 e.log:=hown
    obtain ⟨Bl,dl,rfl, -, -⟩:=Kd.R_reads hown
    simp only [put_list,sc0,sc1]
    refine ⟨⟨⟨hb4,Nat.le_trans h2 hg4.size,h3.grown hr0 hg4,h4.grown hr0 hg4⟩,fun _ => Kd.S_over' hd0 (rs_typed hr0) pages_ne_recs hg4,fun _ _ => ht0.over hr0 hg4,fun h => (no_yes (by kernel_rfl) h).elim,fun _ => hown⟩,?_⟩
    clear h1 h2 h3 h4 hc1 hc2 hc3 hr0 hd0 ht0 hlg hb4 hg4 hown
    refine reg_val (i:=14) (v:=?_) HT rfl (by kernel_rfl) rfl (kA keeps_world (kA (keeps_sl rfl rfl) (kA (keeps_sl2 rfl rfl rfl rfl) (kA (keeps_pre rfl rfl rfl) (keeps_sl rfl rfl))))) (by rfl) (fun _ _ _ h => h) (fun lx ax wx hS => ?_) ?_
    rotate_left
    · go_simp
      with_reducible rfl
    rotate_left
    simp only [sc0,sc1]
    refine reg_tail (i:=15) (by kernel_rfl) rfl (fun wx hS => ?_)
    obtain ⟨⟨h1,h2, -,hy⟩, -,hs2, -,hs4⟩:=hS
    have ho : OwnE wx w.heap.size (.slice Bd e.disk.length dd) (.slice Bm e.mem.length dm) (.slice Bl e.log.length dl) e:=TwoPs.eng (hs2 (by kernel_rfl) (by kernel_rfl)) (hs4 (by kernel_rfl))
    clear hs2 hs4
    have y0:=hy.c0
    have y1:=hy.c1
    have y2:=hy.c2
    have y3:=hy.c3
    have y4:=hy.c4
    have f0:=hy.frz 0
    have f1:=hy.frz 1
    have f2:=hy.frz 2
    have f3:=hy.frz 3
    have f4:=hy.frz 4
    refine wpOp_skip (w1:=Go.Proofs.YtlmlcnokiipilabGreat.set5 wx (w.heap.size + 1) e (.slice Bd e.disk.length dd) (.slice Bm e.mem.length dm) (.slice Bl e.log.length dl)) rfl (by rfl) (by go_simp) ?_
    have hy2:=hy.set5 e (.slice Bd e.disk.length dd) (.slice Bm e.mem.length dm) (.slice Bl e.log.length dl)
    have ho2:=ho.set5 (f:=e) (xd:=.slice Bd e.disk.length dd) (xm:=.slice Bm e.mem.length dm) (xl:=.slice Bl e.log.length dl) hy
    have h3:=bel_set5 (g:=w.heap.size + 1) h1 (by omega) e (.slice Bd e.disk.length dd) (.slice Bm e.mem.length dm) (.slice Bl e.log.length dl)
    have z0:=hy2.c0
    have z1:=hy2.c1
    have z2:=hy2.c2
    have z3:=hy2.c3
    have z4:=hy2.c4
    refine regAt_end (by kernel_rfl) ?_
    go_wp2
    exact bodyPost_ret (v:=e.ag (.slice Bd e.disk.length dd) (.slice Bm e.mem.length dm) (.slice Bl e.log.length dl)) (by simp [results,Tryz.results42,go_sem,z0,z1,z2,z3,z4]) rfl ⟨_,_,_,rfl,ho2,h3⟩
end Go.Proofs.YtlmlcnokiipilabGreat
/- Engines in a variable of their own; a call beside a variable that is made at any time. -/
namespace Go.Proofs.YtlmlcnokiipilabGreat
open Go.RowKit Go.Proofs.YtlmlcnokiipilabGreatW.PrintWords Go.Proofs.YtlmlcnokiipilabGreatW.PrintLast Go.Proofs.YtlmlcnokiipilabGreatW.PrintMore
section
variable {P : Program} {ops : Array Oper} {Q : Exit → Act → World → Prop} {S : Array Bool → Act → World → Prop} {m : Nat} {done : List Nat} {L : List Value} {D : List Deferred}
end
theorem reg_later2 {R : Value → Nat → Prop} {G : Prop} (h1 : (∀ a b,R a b) → G) (h2 : ∀ a b,R a b) : G:=h1 h2
/-- An engine in a variable, both of the call's own. -/
structure EgOwn (w0 w : World) (g : Nat) (e : Eng) : Prop where
  ex : ∃ vd vm vl,EgBox w g e vd vm vl ∧ OwnE w w0.heap.size vd vm vl e
  bel : Below w0.heap.size w0 w
  ge : w0.heap.size ≤ g
theorem EgOwn.up {w0 w w1 : World} {g : Nat} {e : Eng} (h : EgOwn w0 w g e) (hb : Below w.heap.size w w1) : EgOwn w0 w1 g e:=by
  obtain ⟨⟨vd,vm,vl,h1,h2⟩,h3,h4⟩:=h
  exact ⟨⟨vd,vm,vl,h1.up hb,h2.below hb⟩,bt h3 hb,h4⟩
def RetEg (w0 : World) (g : Nat) (e : Eng) (x : Ending) (w' : World) : Prop:=(∃ v,x = .returned v) ∧ EgOwn w0 w' g e
end Go.Proofs.YtlmlcnokiipilabGreat
/- The program's apply. -/
namespace Go.Proofs.YtlmlcnokiipilabGreat
open Go.RowKit Go.Proofs.YtlmlcnokiipilabGreatW.PrintWords Go.Proofs.YtlmlcnokiipilabGreatW.PrintLast Go.Proofs.YtlmlcnokiipilabGreatW.PrintMore
theorem eg_apart {w : World} {g gm b : Nat} {q : Eng} {ud um ul : Value} {ok : Nat → Prop} {n cap : Nat} {ps : List Page} (h : EgBox w g q ud um ul) (hp : OwnPk w b ok (.slice (some ⟨gm,0,none⟩) n cap) ps) : g ≠ gm:=fun e => by
  obtain ⟨cells,hc⟩:=Kd.S_typed hp gm (by simp [Value.ownBlock])
  have h1 : w.heap[g]? = _:=h
  rw [e,hc] at h1
  injection h1 with h1
  injection h1 with _ h2
  exact absurd h2 (by decide)
/-- A page of memory has been written. -/
theorem OwnE.memset {w w1 : World} {base N : Nat} {vd vl u : Value} {e : Eng} {q : Page} {p g n cap : Nat} {okd okm : Nat → Prop} (hap : ∀ k,okd k → okm k → False) (hd : OwnPk w base (fun k => okd k ∧ k < N) vd e.disk) (hl : OwnRs w base vl e.log) (hu : OwnI w N u q.vals)
    (hm : OwnPk w1 base (fun k => okm k ∨ some k = u.ownBlock) (.slice (some ⟨g,0,none⟩) n cap) (e.mem.set p q)) (hmg : okm g) (hg : w.grownBy w1 (some g)) (hty : ∃ cells,w.heap[g]? = some (.cells cells 81 (0,0))) : OwnE w1 base vd (.slice (some ⟨g,0,none⟩) n cap) vl { e with mem:=e.mem.set p q }:=by
  refine ⟨⟨fun k => okd k ∧ k < N,fun k => okm k ∨ some k = u.ownBlock,fun k h1 h2 => ?_,Kd.S_grown hd hg (fun k hk e2 => ?_),hm⟩,?_⟩
  · rcases h2 with h2 | h2
    · exact hap k h1.1 h2
    · have:=own_base hu k h2.symm;omega
  · injection e2 with e2
    subst e2
    exact hap k hk.1 hmg
  · refine Kd.R_mono (Kd.R_over' (e':=81) (v:=.slice (some ⟨g,0,none⟩) n cap) hl (fun k hk => ?_) (fun q hq => ?_) hg) (fun _ _ => trivial)
    · simp only [Value.ownBlock,Option.some.injEq] at hk
      subst hk
      exact hty
    · have : q = 98:=by simpa [kRec,Kd.iso,Kd.pair,Kd.int,Kd.scalar] using hq
      rw [this];decide
theorem own_ne_pg {w : World} {b g : Nat} {v u : Value} {xs : List Int} {p : Page} (h : OwnI w b v xs) (hp : PgBox w g p u) : ∀ k,v.ownBlock = some k → k ≠ g:=fun k hk e => by
  obtain ⟨cells,hc⟩:=own_typed h k hk
  have h1 : w.heap[g]? = _:=hp
  rw [← e,hc] at h1
  injection h1 with h1
  injection h1 with _ h2
  exact absurd h2 (by decide)
theorem OwnI.set3f {w : World} {b g : Nat} {v : Value} {xs : List Int} (h : OwnI w b v xs) (hg : ∀ k,v.ownBlock = some k → k ≠ g) (p : Page) (u : Value) : OwnI (Go.Proofs.YtlmlcnokiipilabGreat.set3 w g p u) b v xs:=((h.far hg _ _).far hg _ _).far hg _ _
set_option maxRecDepth 100000 in
set_option maxHeartbeats 16000000 in
theorem apply_calls {w0 w : World} {g : Nat} {e : Eng} (r : Rec) (hl : e.log.length + 1 ≤ 150) (hgm : geo e.mem) (hp : 0 ≤ r.page ∧ r.page < 5) (hdo : recDoB (pg e.mem r.page.toNat) (prevR r (lastN e.log r.tx e.log.length)) (e.log.length + 1 : Nat) = true) (h : EgOwn w0 w g e) : Calls Tryz.prog 109 #[ptr g,r.val] w (RetEg w0 g (e.app r)):=by
  obtain ⟨⟨vd,vm,vl,hq,ho⟩,hb,hg⟩:=h
  obtain ⟨p,hpp⟩ : ∃ p : Nat,r.page = (p : Int):=⟨r.page.toNat,by omega⟩
  obtain ⟨r1,hr1⟩ : ∃ r1,prevR r (lastN e.log r.tx e.log.length) = r1:=⟨_,rfl⟩
  rw [hr1,hpp,Int.toNat_natCast] at hdo
  have hp5 : p < 5:=by omega
  obtain ⟨q,hqq⟩ : ∃ q,doR (pg e.mem p) r1 (e.log.length + 1 : Nat) = q:=⟨_,rfl⟩
  obtain ⟨l1,hl1⟩ : ∃ l1,e.log ++ [r1] = l1:=⟨_,rfl⟩
  have hll : l1.length = e.log.length + 1:=by rw [← hl1];simp
  have hrc : rc l1 e.log.length = r1:=by rw [← hl1];simp [rc,List.getD_eq_getElem?_getD]
  have hchg : chgB r.kind = true:=by
    simp only [recDoB,Bool.and_eq_true] at hdo
    have:=hdo.2.2.1
    rw [← hr1] at this
    exact this
  have hE : e.app r = { e with mem:=e.mem.set p q,log:=l1 }:=by
    unfold Eng.app
    rw [if_pos hchg,show r.page.toNat = p by omega, ← hqq, ← hl1, ← hr1]
    rfl
  have HE:=As hE
  have HDO:=As hdo
  have HL:=As hl
  have HG:=As hg
  have HGM:=As hgm
  have HQQ:=As hqq
  have HRC:=As hrc
  have HLL:=As hll
  have HL1:=As hl1
  have HR1:=As hr1
  have HPP:=As hpp
  obtain ⟨w1,hw1⟩ : ∃ w1,w.alloc r.box = w1:=⟨_,rfl⟩
  have hb1 : Below w.heap.size w w1:=by rw [← hw1];exact bel_alloc (Below.refl _ _) _
  have HW1:=As hw1
  have HRB1 : Aside0 (RcBox w1 w.heap.size r):=⟨by rw [← hw1];exact RcBox.mk1 _ _⟩
  have HO1:=As (ho.below hb1)
  have HQ1:=As (hq.up hb1)
  have HB1:=As (bt hb hb1)
  have HGL:=As hq.lt
  have HVL:=As (fun k hk => Kd.R_lt ho.l k hk)
  have HBS:=As hb.size
  have r0:=HRB1.out.at.c0
  clear hdo hl hg hgm hqq hl1 hr1 hrc hll hchg hE hw1 hb1 hq ho hb hpp
  go_enter Tryz.func109,Tryz.ntmps109
  go_wp2_with (go_at_call 111;go_loud (rw [HW1.out]);go_loud (refine (add_calls r (by have:=HL.out;omega) HB1.out HG.out HQ1.out HO1.out).mono ?_);go_loud (rw [HR1.out]);go_loud (rw [HL1.out]);rintro x w2 ⟨vl2,rfl,hq2,ho2,hb2,hk2⟩;have HQ2:=As hq2;have HO2:=As ho2;have HB2:=As hb2;have HRB2 : Aside0 (RcBox w2 w.heap.size r):=⟨(hk2.2 _ HRB1.out.lt (fun hx => hx.elim (fun hx => by have:=HGL.out;omega) (fun hx => by have:=HVL.out _ hx.symm;omega))).trans HRB1.out⟩;clear hq2 ho2 hb2 hk2)
  have hgm5:=HGM.out.1
  obtain ⟨Ad,cd,Am,cm,Al,cl,hvd,hvm,hvl, -,hrd⟩:=HO2.out.reads
  obtain ⟨okd,okm,hap,hpd,hpm⟩:=HO2.out.ex
  obtain ⟨gm,capm,hfm, -,hgml⟩:=psS_form hpm (by show 0 < e.mem.length;omega)
  subst hvd hvl hfm
  have hpl : p < e.mem.length:=by omega
  have hp5i : (p : Int) < 5:=by omega
  have hl1l : e.log.length < l1.length:=by have:=HLL.out;omega
  obtain ⟨A2,c2,p0,p1,p2,pC, -⟩:=psS_at hpm p hpl
  obtain ⟨adl,hal,QR⟩:=at_rec hrd.l e.log.length hl1l
  subst hal
  rw [HRC.out] at QR
  obtain ⟨l0,l1',l2,l3,l4,l5,l6,l7⟩:=QR
  have x1:=HQ2.out.c1
  have x2:=HQ2.out.c2
  have z2:=HRB2.out.at.c2
  simp only [Nat.zero_add] at z2
  rw [HPP.out] at z2
  have HPC:=As pC
  have HPD:=As hpd
  have HPM:=As hpm
  have HAP:=As hap
  have HRD:=As hrd.l
  have hl0:=HL.out
  have hwr0 : IntKind.i64.wrap (e.log.length : Int) = (e.log.length : Int):=by simp (disch:=omega) only [IntWalk.i64_in]
  have hwr1 : IntKind.i64.wrap ((e.log.length : Int) + 1 - 1) = (e.log.length : Int):=by rw [show ((e.log.length : Int) + 1 - 1) = (e.log.length : Int) by omega];exact hwr0
  have HGM2 : Aside0 (gm < w2.heap.size):=⟨hgml⟩
  clear hvm pC hpd hpm hap hrd hgml hp
  have HCR : Aside0 (∀ wx,Below w2.heap.size w2 wx → Calls Tryz.prog 166 #[(pg e.mem p).val A2 c2,r1.val, .int .i64 ((e.log.length : Int) + 1)] wx (RetPT wx q)):=⟨fun wx hb => by
    have:=RecDo_calls (c:=c2) (n:=(e.log.length : Int) + 1) (by have:=HDO.out;simpa using this) hb HPC.out
    rwa [show doR (pg e.mem p) r1 ((e.log.length : Int) + 1) = q by have:=HQQ.out;simpa using this] at this⟩
  refine reg_start (fun lx a wx => Below w2.heap.size w2 wx ∧ (Sl 17 28 (fun v wx => ∃ u,v = .tuple #[q.own u, .bool true] ∧ OwnI wx w2.heap.size u q.vals) lx a wx ∧ (Pre 22 21 5 (fun _ => True) (fun v wx => ∃ B,v = ptr B ∧ w2.heap.size ≤ B ∧ PgBox wx B zp (.slice none 0 0)) lx a wx ∧ Sl 22 5 (fun v wx => ∃ B u,v = ptr B ∧ w2.heap.size ≤ B ∧ PgBox wx B q u ∧ OwnI wx w2.heap.size u q.vals) lx a wx))) 24 rfl (by kernel_rfl) (⟨below_drew (Below.refl _ _),sl_start,pre_start trivial,sl_start⟩) (fun HT => ?_)
  refine reg_val (i:=0) (v:=?_) HT rfl (by kernel_rfl) rfl (kA keeps_world (kA (keeps_sl rfl rfl) (kA (keeps_pre rfl rfl rfl) (keeps_sl rfl rfl)))) (by rfl) (fun _ _ _ h => h) (fun lx ax wx hS => ?_) ?_;rotate_left;(have hbx:=hS.1;clear hS;replace x1:=bc hbx x1;replace x2:=bc hbx x2;replace z2:=bc hbx z2;replace p0:=bc hbx p0;replace p1:=bc hbx p1;replace p2:=bc hbx p2;replace l0:=bc hbx l0;replace l1':=bc hbx l1';replace l2:=bc hbx l2;replace l3:=bc hbx l3;replace l4:=bc hbx l4;replace l5:=bc hbx l5;replace l6:=bc hbx l6;replace l7:=bc hbx l7;go_simp;with_reducible rfl);rotate_left;simp only [sc0,sc1]
  refine reg_val (i:=1) (v:=?_) HT rfl (by kernel_rfl) rfl (kA keeps_world (kA (keeps_sl rfl rfl) (kA (keeps_pre rfl rfl rfl) (keeps_sl rfl rfl)))) (by rfl) (fun _ _ _ h => h) (fun lx ax wx hS => ?_) ?_;rotate_left;(have hbx:=hS.1;clear hS;replace x1:=bc hbx x1;replace x2:=bc hbx x2;replace z2:=bc hbx z2;replace p0:=bc hbx p0;replace p1:=bc hbx p1;replace p2:=bc hbx p2;replace l0:=bc hbx l0;replace l1':=bc hbx l1';replace l2:=bc hbx l2;replace l3:=bc hbx l3;replace l4:=bc hbx l4;replace l5:=bc hbx l5;replace l6:=bc hbx l6;replace l7:=bc hbx l7;go_simp;with_reducible rfl);rotate_left;simp only [sc0,sc1]
  refine reg_val (i:=2) (v:=?_) HT rfl (by kernel_rfl) rfl (kA keeps_world (kA (keeps_sl rfl rfl) (kA (keeps_pre rfl rfl rfl) (keeps_sl rfl rfl)))) (by rfl) (fun _ _ _ h => h) (fun lx ax wx hS => ?_) ?_;rotate_left;(have hbx:=hS.1;clear hS;replace x1:=bc hbx x1;replace x2:=bc hbx x2;replace z2:=bc hbx z2;replace p0:=bc hbx p0;replace p1:=bc hbx p1;replace p2:=bc hbx p2;replace l0:=bc hbx l0;replace l1':=bc hbx l1';replace l2:=bc hbx l2;replace l3:=bc hbx l3;replace l4:=bc hbx l4;replace l5:=bc hbx l5;replace l6:=bc hbx l6;replace l7:=bc hbx l7;go_simp;with_reducible rfl);rotate_left;simp only [sc0,sc1]
  refine reg_val (i:=3) (v:=?_) HT rfl (by kernel_rfl) rfl (kA keeps_world (kA (keeps_sl rfl rfl) (kA (keeps_pre rfl rfl rfl) (keeps_sl rfl rfl)))) (by rfl) (fun _ _ _ h => h) (fun lx ax wx hS => ?_) ?_;rotate_left;(have hbx:=hS.1;clear hS;replace x1:=bc hbx x1;replace x2:=bc hbx x2;replace z2:=bc hbx z2;replace p0:=bc hbx p0;replace p1:=bc hbx p1;replace p2:=bc hbx p2;replace l0:=bc hbx l0;replace l1':=bc hbx l1';replace l2:=bc hbx l2;replace l3:=bc hbx l3;replace l4:=bc hbx l4;replace l5:=bc hbx l5;replace l6:=bc hbx l6;replace l7:=bc hbx l7;go_simp;with_reducible rfl);rotate_left;simp only [sc0,sc1]
  refine reg_val (i:=4) (v:=?_) HT rfl (by kernel_rfl) rfl (kA keeps_world (kA (keeps_sl rfl rfl) (kA (keeps_pre rfl rfl rfl) (keeps_sl rfl rfl)))) (by rfl) (fun _ _ _ h => h) (fun lx ax wx hS => ?_) ?_;rotate_left;(have hbx:=hS.1;clear hS;replace x1:=bc hbx x1;replace x2:=bc hbx x2;replace z2:=bc hbx z2;replace p0:=bc hbx p0;replace p1:=bc hbx p1;replace p2:=bc hbx p2;replace l0:=bc hbx l0;replace l1':=bc hbx l1';replace l2:=bc hbx l2;replace l3:=bc hbx l3;replace l4:=bc hbx l4;replace l5:=bc hbx l5;replace l6:=bc hbx l6;replace l7:=bc hbx l7;go_simp;with_reducible rfl);rotate_left;simp only [sc0,sc1]
  refine reg_val (i:=5) (v:=?_) HT rfl (by kernel_rfl) rfl (kA keeps_world (kA (keeps_sl rfl rfl) (kA (keeps_pre rfl rfl rfl) (keeps_sl rfl rfl)))) (by rfl) (fun _ _ _ h => h) (fun lx ax wx hS => ?_) ?_;rotate_left;(have hbx:=hS.1;clear hS;replace x1:=bc hbx x1;replace x2:=bc hbx x2;replace z2:=bc hbx z2;replace p0:=bc hbx p0;replace p1:=bc hbx p1;replace p2:=bc hbx p2;replace l0:=bc hbx l0;replace l1':=bc hbx l1';replace l2:=bc hbx l2;replace l3:=bc hbx l3;replace l4:=bc hbx l4;replace l5:=bc hbx l5;replace l6:=bc hbx l6;replace l7:=bc hbx l7;go_simp;with_reducible rfl);rotate_left;simp only [sc0,sc1]
  refine reg_val (i:=6) (v:=?_) HT rfl (by kernel_rfl) rfl (kA keeps_world (kA (keeps_sl rfl rfl) (kA (keeps_pre rfl rfl rfl) (keeps_sl rfl rfl)))) (by rfl) (fun _ _ _ h => h) (fun lx ax wx hS => ?_) ?_;rotate_left;(have hbx:=hS.1;clear hS;replace x1:=bc hbx x1;replace x2:=bc hbx x2;replace z2:=bc hbx z2;replace p0:=bc hbx p0;replace p1:=bc hbx p1;replace p2:=bc hbx p2;replace l0:=bc hbx l0;replace l1':=bc hbx l1';replace l2:=bc hbx l2;replace l3:=bc hbx l3;replace l4:=bc hbx l4;replace l5:=bc hbx l5;replace l6:=bc hbx l6;replace l7:=bc hbx l7;go_simp;with_reducible rfl);rotate_left;simp only [sc0,sc1]
  refine reg_val (i:=7) (v:=?_) HT rfl (by kernel_rfl) rfl (kA keeps_world (kA (keeps_sl rfl rfl) (kA (keeps_pre rfl rfl rfl) (keeps_sl rfl rfl)))) (by rfl) (fun _ _ _ h => h) (fun lx ax wx hS => ?_) ?_;rotate_left;(have hbx:=hS.1;clear hS;replace x1:=bc hbx x1;replace x2:=bc hbx x2;replace z2:=bc hbx z2;replace p0:=bc hbx p0;replace p1:=bc hbx p1;replace p2:=bc hbx p2;replace l0:=bc hbx l0;replace l1':=bc hbx l1';replace l2:=bc hbx l2;replace l3:=bc hbx l3;replace l4:=bc hbx l4;replace l5:=bc hbx l5;replace l6:=bc hbx l6;replace l7:=bc hbx l7;go_simp;with_reducible rfl);rotate_left;simp only [sc0,sc1]
  refine reg_val (i:=8) (v:=?_) HT rfl (by kernel_rfl) rfl (kA keeps_world (kA (keeps_sl rfl rfl) (kA (keeps_pre rfl rfl rfl) (keeps_sl rfl rfl)))) (by rfl) (fun _ _ _ h => h) (fun lx ax wx hS => ?_) ?_;rotate_left;(have hbx:=hS.1;clear hS;replace x1:=bc hbx x1;replace x2:=bc hbx x2;replace z2:=bc hbx z2;replace p0:=bc hbx p0;replace p1:=bc hbx p1;replace p2:=bc hbx p2;replace l0:=bc hbx l0;replace l1':=bc hbx l1';replace l2:=bc hbx l2;replace l3:=bc hbx l3;replace l4:=bc hbx l4;replace l5:=bc hbx l5;replace l6:=bc hbx l6;replace l7:=bc hbx l7;go_simp;with_reducible rfl);rotate_left;simp only [sc0,sc1]
  refine reg_val (i:=9) (v:=?_) HT rfl (by kernel_rfl) rfl (kA keeps_world (kA (keeps_sl rfl rfl) (kA (keeps_pre rfl rfl rfl) (keeps_sl rfl rfl)))) (by rfl) (fun _ _ _ h => h) (fun lx ax wx hS => ?_) ?_;rotate_left;(have hbx:=hS.1;clear hS;replace x1:=bc hbx x1;replace x2:=bc hbx x2;replace z2:=bc hbx z2;replace p0:=bc hbx p0;replace p1:=bc hbx p1;replace p2:=bc hbx p2;replace l0:=bc hbx l0;replace l1':=bc hbx l1';replace l2:=bc hbx l2;replace l3:=bc hbx l3;replace l4:=bc hbx l4;replace l5:=bc hbx l5;replace l6:=bc hbx l6;replace l7:=bc hbx l7;go_simp;with_reducible rfl);rotate_left;simp only [sc0,sc1]
  refine reg_val (i:=10) (v:=?_) HT rfl (by kernel_rfl) rfl (kA keeps_world (kA (keeps_sl rfl rfl) (kA (keeps_pre rfl rfl rfl) (keeps_sl rfl rfl)))) (by rfl) (fun _ _ _ h => h) (fun lx ax wx hS => ?_) ?_;rotate_left;(have hbx:=hS.1;clear hS;replace x1:=bc hbx x1;replace x2:=bc hbx x2;replace z2:=bc hbx z2;replace p0:=bc hbx p0;replace p1:=bc hbx p1;replace p2:=bc hbx p2;replace l0:=bc hbx l0;replace l1':=bc hbx l1';replace l2:=bc hbx l2;replace l3:=bc hbx l3;replace l4:=bc hbx l4;replace l5:=bc hbx l5;replace l6:=bc hbx l6;replace l7:=bc hbx l7;go_simp;with_reducible rfl);rotate_left;simp only [sc0,sc1]
  refine reg_val (i:=11) (v:=?_) HT rfl (by kernel_rfl) rfl (kA keeps_world (kA (keeps_sl rfl rfl) (kA (keeps_pre rfl rfl rfl) (keeps_sl rfl rfl)))) (by rfl) (fun _ _ _ h => h) (fun lx ax wx hS => ?_) ?_;rotate_left;(have hbx:=hS.1;clear hS;replace x1:=bc hbx x1;replace x2:=bc hbx x2;replace z2:=bc hbx z2;replace p0:=bc hbx p0;replace p1:=bc hbx p1;replace p2:=bc hbx p2;replace l0:=bc hbx l0;replace l1':=bc hbx l1';replace l2:=bc hbx l2;replace l3:=bc hbx l3;replace l4:=bc hbx l4;replace l5:=bc hbx l5;replace l6:=bc hbx l6;replace l7:=bc hbx l7;go_simp;with_reducible rfl);rotate_left;simp only [sc0,sc1]
  refine reg_val (i:=12) (v:=?_) HT rfl (by kernel_rfl) rfl (kA keeps_world (kA (keeps_sl rfl rfl) (kA (keeps_pre rfl rfl rfl) (keeps_sl rfl rfl)))) (by rfl) (fun _ _ _ h => h) (fun lx ax wx hS => ?_) ?_;rotate_left;(have hbx:=hS.1;clear hS;replace x1:=bc hbx x1;replace x2:=bc hbx x2;replace z2:=bc hbx z2;replace p0:=bc hbx p0;replace p1:=bc hbx p1;replace p2:=bc hbx p2;replace l0:=bc hbx l0;replace l1':=bc hbx l1';replace l2:=bc hbx l2;replace l3:=bc hbx l3;replace l4:=bc hbx l4;replace l5:=bc hbx l5;replace l6:=bc hbx l6;replace l7:=bc hbx l7;go_simp;with_reducible rfl);rotate_left;simp only [sc0,sc1]
  refine reg_val (i:=13) (v:=?_) HT rfl (by kernel_rfl) rfl (kA keeps_world (kA (keeps_sl rfl rfl) (kA (keeps_pre rfl rfl rfl) (keeps_sl rfl rfl)))) (by rfl) (fun _ _ _ h => h) (fun lx ax wx hS => ?_) ?_;rotate_left;(have hbx:=hS.1;clear hS;replace x1:=bc hbx x1;replace x2:=bc hbx x2;replace z2:=bc hbx z2;replace p0:=bc hbx p0;replace p1:=bc hbx p1;replace p2:=bc hbx p2;replace l0:=bc hbx l0;replace l1':=bc hbx l1';replace l2:=bc hbx l2;replace l3:=bc hbx l3;replace l4:=bc hbx l4;replace l5:=bc hbx l5;replace l6:=bc hbx l6;replace l7:=bc hbx l7;go_simp;with_reducible rfl);rotate_left;simp only [sc0,sc1]
  refine reg_val (i:=14) (v:=?_) HT rfl (by kernel_rfl) rfl (kA keeps_world (kA (keeps_sl rfl rfl) (kA (keeps_pre rfl rfl rfl) (keeps_sl rfl rfl)))) (by rfl) (fun _ _ _ h => h) (fun lx ax wx hS => ?_) ?_;rotate_left;(have hbx:=hS.1;clear hS;replace x1:=bc hbx x1;replace x2:=bc hbx x2;replace z2:=bc hbx z2;replace p0:=bc hbx p0;replace p1:=bc hbx p1;replace p2:=bc hbx p2;replace l0:=bc hbx l0;replace l1':=bc hbx l1';replace l2:=bc hbx l2;replace l3:=bc hbx l3;replace l4:=bc hbx l4;replace l5:=bc hbx l5;replace l6:=bc hbx l6;replace l7:=bc hbx l7;go_simp;with_reducible rfl);rotate_left;simp only [sc0,sc1]
  refine reg_val (i:=15) (v:=?_) HT rfl (by kernel_rfl) rfl (kA keeps_world (kA (keeps_sl rfl rfl) (kA (keeps_pre rfl rfl rfl) (keeps_sl rfl rfl)))) (by rfl) (fun _ _ _ h => h) (fun lx ax wx hS => ?_) ?_;rotate_left;(have hbx:=hS.1;clear hS;replace x1:=bc hbx x1;replace x2:=bc hbx x2;replace z2:=bc hbx z2;replace p0:=bc hbx p0;replace p1:=bc hbx p1;replace p2:=bc hbx p2;replace l0:=bc hbx l0;replace l1':=bc hbx l1';replace l2:=bc hbx l2;replace l3:=bc hbx l3;replace l4:=bc hbx l4;replace l5:=bc hbx l5;replace l6:=bc hbx l6;replace l7:=bc hbx l7;go_simp;with_reducible rfl);rotate_left;simp only [sc0,sc1]
  refine reg_val (i:=16) (v:=?_) HT rfl (by kernel_rfl) rfl (kA keeps_world (kA (keeps_sl rfl rfl) (kA (keeps_pre rfl rfl rfl) (keeps_sl rfl rfl)))) (by rfl) (fun _ _ _ h => h) (fun lx ax wx hS => ?_) ?_;rotate_left;(have hbx:=hS.1;clear hS;replace x1:=bc hbx x1;replace x2:=bc hbx x2;replace z2:=bc hbx z2;replace p0:=bc hbx p0;replace p1:=bc hbx p1;replace p2:=bc hbx p2;replace l0:=bc hbx l0;replace l1':=bc hbx l1';replace l2:=bc hbx l2;replace l3:=bc hbx l3;replace l4:=bc hbx l4;replace l5:=bc hbx l5;replace l6:=bc hbx l6;replace l7:=bc hbx l7;go_simp;with_reducible rfl);rotate_left;simp only [sc0,sc1]
  apply reg_later2
  · intro hrest
    refine reg_each [17,21] (by kernel_rfl) (fun i hi wx hS => ?_)
    rcases List.mem_cons.1 hi with rfl | hi
    · clear hi
      refine wpOp_only (f:=166) (args:=#[(pg e.mem p).val A2 c2,r1.val, .int .i64 ((e.log.length : Int) + 1)]) rfl rfl Tryz.func166 (by kernel_rfl) rfl rfl (by rfl) (by simp only [List.map_toArray,List.map_cons,List.map_nil];rfl) ((HCR.out wx hS.1).mono ?_)
      rintro x w6 ⟨u,rfl,ho,hb⟩
      refine ⟨_,rfl,⟨bt hS.1 hb,fun _ => ⟨u,rfl,ho.lower hS.1.size⟩,fun _ => ⟨trivial,fun h => (no_yes h (by kernel_rfl)).elim⟩,fun h => (no_yes h (by kernel_rfl)).elim⟩,?_⟩
      clear hS ho hb
      simp only [sc0,sc1]
      refine reg_val (i:=18) (v:=?_) HT rfl (by kernel_rfl) rfl (kA keeps_world (kA (keeps_sl rfl rfl) (kA (keeps_pre rfl rfl rfl) (keeps_sl rfl rfl)))) (by rfl) (fun _ _ _ h => h) (fun lx ax wx hS => ?_) ?_;rotate_left;(go_simp;with_reducible rfl);rotate_left;simp only [sc0,sc1]
      refine reg_val (i:=19) (v:=?_) HT rfl (by kernel_rfl) rfl (kA keeps_world (kA (keeps_sl rfl rfl) (kA (keeps_pre rfl rfl rfl) (keeps_sl rfl rfl)))) (by rfl) (fun _ _ _ h => h) (fun lx ax wx hS => ?_) ?_;rotate_left;(go_simp;with_reducible rfl);rotate_left;simp only [sc0,sc1]
      refine reg_val (i:=20) (v:=?_) HT rfl (by kernel_rfl) rfl (kA keeps_world (kA (keeps_sl rfl rfl) (kA (keeps_pre rfl rfl rfl) (keeps_sl rfl rfl)))) (by rfl) (fun _ _ _ h => h) (fun lx ax wx hS => ?_) ?_;rotate_left;(go_simp;with_reducible rfl);rotate_left;simp only [sc0,sc1]
      refine reg_each [21] (by kernel_rfl) (fun i hi wx hS => ?_)
      obtain rfl:=List.mem_singleton.1 hi
      clear hi
      refine wpOp_valL (w1:=wx.alloc pageCell) (ptr wx.heap.size) rfl rfl (by rfl) (by go_simp) ?_
      refine ⟨⟨bt hS.1 (bel_alloc (Below.refl _ _) _),fun _ => (hS.2.1 (by kernel_rfl)).elim fun u hu => ⟨u,hu.1,hu.2.below (bel_alloc (Below.refl _ _) _)⟩,fun _ => ⟨trivial,fun _ => ⟨wx.heap.size,rfl,hS.1.size,PgBox.mk1 wx zp _⟩⟩,fun h => (no_yes h (by kernel_rfl)).elim⟩,?_⟩
      obtain ⟨B,hB⟩ : ∃ B,wx.heap.size = B:=⟨_,rfl⟩
      rw [hB]
      clear hB hS
      simp only [sc0,sc1]
      exact reg_perm (done := [21,20,19,18,17,16,15,14,13,12,11,10,9,8,7,6,5,4,3,2,1,0]) (by kernel_rfl) (hrest u B)
    · obtain rfl:=List.mem_singleton.1 hi
      clear hi
      refine wpOp_valL (w1:=wx.alloc pageCell) (ptr wx.heap.size) rfl rfl (by rfl) (by go_simp) ?_
      refine ⟨⟨bt hS.1 (bel_alloc (Below.refl _ _) _),fun h => (no_yes h (by kernel_rfl)).elim,fun _ => ⟨trivial,fun _ => ⟨wx.heap.size,rfl,hS.1.size,PgBox.mk1 wx zp _⟩⟩,fun h => (no_yes h (by kernel_rfl)).elim⟩,?_⟩
      obtain ⟨B,hB⟩ : ∃ B,wx.heap.size = B:=⟨_,rfl⟩
      rw [hB]
      clear hB hS
      simp only [sc0,sc1]
      refine reg_each [17] (by kernel_rfl) (fun i hi wx hS => ?_)
      obtain rfl:=List.mem_singleton.1 hi
      clear hi
      refine wpOp_only (f:=166) (args:=#[(pg e.mem p).val A2 c2,r1.val, .int .i64 ((e.log.length : Int) + 1)]) rfl rfl Tryz.func166 (by kernel_rfl) rfl rfl (by rfl) (by simp only [List.map_toArray,List.map_cons,List.map_nil];rfl) ((HCR.out wx hS.1).mono ?_)
      rintro x w6 ⟨u,rfl,ho,hb⟩
      refine ⟨_,rfl,⟨bt hS.1 hb,fun _ => ⟨u,rfl,ho.lower hS.1.size⟩,fun _ => ⟨trivial,fun _ => ((hS.2.2.1 (by kernel_rfl)).2 (by kernel_rfl)).elim fun B' hB' => ⟨B',hB'.1,hB'.2.1,hB'.2.2.up hb⟩⟩,fun h => (no_yes h (by kernel_rfl)).elim⟩,?_⟩
      clear hS ho hb
      simp only [sc0,sc1]
      refine reg_val (i:=18) (v:=?_) HT rfl (by kernel_rfl) rfl (kA keeps_world (kA (keeps_sl rfl rfl) (kA (keeps_pre rfl rfl rfl) (keeps_sl rfl rfl)))) (by rfl) (fun _ _ _ h => h) (fun lx ax wx hS => ?_) ?_;rotate_left;(go_simp;with_reducible rfl);rotate_left;simp only [sc0,sc1]
      refine reg_val (i:=19) (v:=?_) HT rfl (by kernel_rfl) rfl (kA keeps_world (kA (keeps_sl rfl rfl) (kA (keeps_pre rfl rfl rfl) (keeps_sl rfl rfl)))) (by rfl) (fun _ _ _ h => h) (fun lx ax wx hS => ?_) ?_;rotate_left;(go_simp;with_reducible rfl);rotate_left;simp only [sc0,sc1]
      refine reg_val (i:=20) (v:=?_) HT rfl (by kernel_rfl) rfl (kA keeps_world (kA (keeps_sl rfl rfl) (kA (keeps_pre rfl rfl rfl) (keeps_sl rfl rfl)))) (by rfl) (fun _ _ _ h => h) (fun lx ax wx hS => ?_) ?_;rotate_left;(go_simp;with_reducible rfl);rotate_left;simp only [sc0,sc1]
      exact reg_perm (done := [21,20,19,18,17,16,15,14,13,12,11,10,9,8,7,6,5,4,3,2,1,0]) (by kernel_rfl) (hrest u B)
  intro u B
  refine reg_each [22] (by kernel_rfl) (fun i hi wx hS => ?_)
  obtain rfl:=List.mem_singleton.1 hi
  clear hi
  obtain ⟨h1,h2,h3, -⟩:=hS
  obtain ⟨u1,hu1,hown⟩:=h2 (by kernel_rfl)
  have hu1 : Value.tuple #[q.own u, .bool true] = .tuple #[q.own u1, .bool true]:=hu1
  obtain rfl : u = u1:=by simpa using hu1
  obtain ⟨B',hB',hN,hP⟩:=(h3 (by kernel_rfl)).2 (by kernel_rfl)
  have hB' : ptr B = ptr B':=hB'
  obtain rfl : B = B':=by simpa using hB'
  obtain ⟨A1,c1,rfl, -, -⟩:=hown.reads
  have y0:=hP.c0
  have y1:=hP.c1
  have y2:=hP.c2
  have f0:=hP.frz 0
  have f1:=hP.frz 1
  have f2:=hP.frz 2
  refine wpOp_skip (w1:=Go.Proofs.YtlmlcnokiipilabGreat.set3 wx B q (.slice A1 q.vals.length c1)) rfl (by rfl) (by go_simp) ?_
  have hP5:=hP.set3 q (.slice A1 q.vals.length c1)
  have ho5:=hown.set3f (own_ne_pg hown hP) q (.slice A1 q.vals.length c1)
  have hb5 : Below w2.heap.size w2 (Go.Proofs.YtlmlcnokiipilabGreat.set3 wx B q (.slice A1 q.vals.length c1)):=bel_set3 h1 hN q (.slice A1 q.vals.length c1)
  refine ⟨⟨hb5,fun _ => ⟨_,rfl,ho5⟩,fun h => (no_yes (by kernel_rfl) h).elim,fun _ => ⟨B,_,rfl,hN,hP5,ho5⟩⟩,?_⟩
  clear h1 h2 h3 hu1 hown hB' hN hP f0 f1 f2 hP5 ho5 hb5 y0 y1 y2
  refine reg_val (i:=23) (v:=?_) HT rfl (by kernel_rfl) rfl (kA keeps_world (kA (keeps_sl rfl rfl) (kA (keeps_pre rfl rfl rfl) (keeps_sl rfl rfl)))) (by rfl) (fun _ _ _ h => h) (fun lx ax wx hS => ?_) ?_
  rotate_left
  · go_simp
    with_reducible rfl
  rotate_left
  simp only [sc0,sc1]
  refine reg_end (by kernel_rfl) (fun w5 hS => ?_)
  obtain ⟨hb5, -, -,h4⟩:=hS
  obtain ⟨B',u',hB',hN,hP5,ho5⟩:=h4 (by kernel_rfl)
  have hB' : ptr B = ptr B':=hB'
  obtain rfl : B = B':=by simpa using hB'
  have HB5:=As hb5
  obtain ⟨A5,c5,rfl, -, -⟩:=ho5.reads
  have HO5:=As ho5
  have y0:=hP5.c0
  have y1:=hP5.c1
  have y2:=hP5.c2
  replace x1:=bc hb5 x1
  replace z2:=bc hb5 z2
  clear hB' hN hP5 ho5 hb5 h4 x2 p0 p1 p2 l0 l1' l2 l3 l4 l5 l6 l7
  go_wp2
  refine reg_start (fun lx a wx => Below w5.heap.size w5 wx) 8 rfl (by kernel_rfl) (below_drew (Below.refl _ _)) (fun HT => ?_)
  refine reg_val (i:=0) (v:=?_) HT rfl (by kernel_rfl) rfl (keeps_world) (by rfl) (fun _ _ _ h => h) (fun lx ax wx hS => ?_) ?_;rotate_left;(replace x1:=bc hS x1;replace z2:=bc hS z2;replace y0:=bc hS y0;replace y1:=bc hS y1;replace y2:=bc hS y2;go_simp;with_reducible rfl);rotate_left;simp only [sc0,sc1]
  refine reg_val (i:=1) (v:=?_) HT rfl (by kernel_rfl) rfl (keeps_world) (by rfl) (fun _ _ _ h => h) (fun lx ax wx hS => ?_) ?_;rotate_left;(replace x1:=bc hS x1;replace z2:=bc hS z2;replace y0:=bc hS y0;replace y1:=bc hS y1;replace y2:=bc hS y2;go_simp;with_reducible rfl);rotate_left;simp only [sc0,sc1]
  refine reg_val (i:=2) (v:=?_) HT rfl (by kernel_rfl) rfl (keeps_world) (by rfl) (fun _ _ _ h => h) (fun lx ax wx hS => ?_) ?_;rotate_left;(replace x1:=bc hS x1;replace z2:=bc hS z2;replace y0:=bc hS y0;replace y1:=bc hS y1;replace y2:=bc hS y2;go_simp;with_reducible rfl);rotate_left;simp only [sc0,sc1]
  refine reg_val (i:=3) (v:=?_) HT rfl (by kernel_rfl) rfl (keeps_world) (by rfl) (fun _ _ _ h => h) (fun lx ax wx hS => ?_) ?_;rotate_left;(replace x1:=bc hS x1;replace z2:=bc hS z2;replace y0:=bc hS y0;replace y1:=bc hS y1;replace y2:=bc hS y2;go_simp;with_reducible rfl);rotate_left;simp only [sc0,sc1]
  refine reg_val (i:=4) (v:=?_) HT rfl (by kernel_rfl) rfl (keeps_world) (by rfl) (fun _ _ _ h => h) (fun lx ax wx hS => ?_) ?_;rotate_left;(replace x1:=bc hS x1;replace z2:=bc hS z2;replace y0:=bc hS y0;replace y1:=bc hS y1;replace y2:=bc hS y2;go_simp;with_reducible rfl);rotate_left;simp only [sc0,sc1]
  refine reg_val (i:=5) (v:=?_) HT rfl (by kernel_rfl) rfl (keeps_world) (by rfl) (fun _ _ _ h => h) (fun lx ax wx hS => ?_) ?_;rotate_left;(replace x1:=bc hS x1;replace z2:=bc hS z2;replace y0:=bc hS y0;replace y1:=bc hS y1;replace y2:=bc hS y2;go_simp;with_reducible rfl);rotate_left;simp only [sc0,sc1]
  refine reg_val (i:=6) (v:=?_) HT rfl (by kernel_rfl) rfl (keeps_world) (by rfl) (fun _ _ _ h => h) (fun lx ax wx hS => ?_) ?_;rotate_left;(replace x1:=bc hS x1;replace z2:=bc hS z2;replace y0:=bc hS y0;replace y1:=bc hS y1;replace y2:=bc hS y2;go_simp;with_reducible rfl);rotate_left;simp only [sc0,sc1]
  refine reg_val (i:=7) (v:=?_) HT rfl (by kernel_rfl) rfl (keeps_world) (by rfl) (fun _ _ _ h => h) (fun lx ax wx hS => ?_) ?_;rotate_left;(replace x1:=bc hS x1;replace z2:=bc hS z2;replace y0:=bc hS y0;replace y1:=bc hS y1;replace y2:=bc hS y2;go_simp;with_reducible rfl);rotate_left;simp only [sc0,sc1]
  refine reg_tail (i:=8) (by kernel_rfl) rfl (fun wx hS => ?_)
  have h5x:=bt HB5.out hS
  refine wpOp_pagesS (ok:=okm) (w0:=w0) (N:=w2.heap.size) (q:=q) p rfl (.tmp 39) (.tmp 38) rfl (by rfl) rfl rfl rfl (HO5.out.below hS) HB2.out.size (Kd.S_old HPM.out h5x) hpl (bt HB2.out h5x) (fun w8 hO8 hB8 hg8 => ?_)
  refine regAt_end (by kernel_rfl) ?_
  have hd8:=Kd.S_old HPD.out h5x
  have hty:=Kd.S_typed (Kd.S_below HPM.out h5x) gm (by simp [Value.ownBlock])
  have he8:=OwnE.memset (e:={ e with log:=l1 }) HAP.out hd8 (Kd.R_below HO2.out.l h5x) (HO5.out.below hS) hO8 (pk_ok HPM.out gm (by simp [Value.ownBlock])) hg8 hty
  have hq8 : EgBox w8 g { e with mem:=e.mem.set p q,log:=l1 } (.slice Ad e.disk.length cd) (.slice (some ⟨gm,0,none⟩) e.mem.length capm) (.slice (some adl) l1.length cl):=(hg8.block g (by have:=HQ2.out.lt;have:=h5x.size;omega) (fun e2 => by injection e2 with e2;exact eg_apart HQ2.out HPM.out e2)).trans (HQ2.out.up h5x)
  have HX8:=As (And.intro hB8 (And.intro he8 hq8))
  clear hS h5x hO8 hB8 hg8 hd8 hty he8 hq8 x1 z2 y0 y1 y2
  go_wp2
  exact bodyPost_ret (v:=.tuple #[]) (by simp [results,Tryz.results109,go_sem]) rfl ⟨⟨_,rfl⟩,by rw [HE.out];exact ⟨⟨_,_,_,HX8.out.2.2,HX8.out.2.1⟩,HX8.out.1,HG.out⟩⟩
/-- A call that hands back an engine of its own, and a yes or no. -/
def RetEB (w : World) (e : Eng) (b : Bool) (x : Ending) (w' : World) : Prop := ∃ vd vm vl,x = .returned (.tuple #[e.ag vd vm vl, .bool b]) ∧ OwnE w' w.heap.size vd vm vl e ∧ Below w.heap.size w w'
theorem own_zE (w : World) (b : Nat) : OwnE w b (.slice none 0 0) (.slice none 0 0) (.slice none 0 0) zE:=⟨⟨fun _ => True,fun _ => False,fun _ _ h => h,Kd.S_nil _ _ _ _ _,Kd.S_nil _ _ _ _ _⟩,Kd.R_nil _ _ _ _ _⟩
/-- An engine's variable laid empty. -/
abbrev set5z (w : World) (g : Nat) : World:=((((w.setCell ⟨g,0,none⟩ (.slice none 0 0)).setCell ⟨g,1,none⟩ (.slice none 0 0)).setCell ⟨g,2,none⟩ (.slice none 0 0)).setCell ⟨g,3,none⟩ (.int .i64 0)).setCell ⟨g,4,none⟩ (.bool false)
structure EmptyAt (w : World) (g : Nat) : Prop where
  c0 : w.cell? ⟨g,0,none⟩ = some (.slice none 0 0)
  c1 : w.cell? ⟨g,1,none⟩ = some (.slice none 0 0)
  c2 : w.cell? ⟨g,2,none⟩ = some (.slice none 0 0)
  c3 : w.cell? ⟨g,3,none⟩ = some (.int .i64 0)
  c4 : w.cell? ⟨g,4,none⟩ = some (.bool false)
theorem EgBox.empty {w : World} {g : Nat} {q : Eng} {ud um ul : Value} (h : EgBox w g q ud um ul) : EmptyAt (set5z w g) g:=
  have hy:=h.set5 zE (.slice none 0 0) (.slice none 0 0) (.slice none 0 0)
  ⟨hy.c0,hy.c1,hy.c2,hy.c3,hy.c4⟩
abbrev zEv : Value:=.agg #[.slice none 0 0, .slice none 0 0, .slice none 0 0, .int .i64 0, .bool false]
theorem rs_egset {w : World} {b g : Nat} {v ud um ul : Value} {l : List Rec} {q : Eng} (h : OwnRs w b v l) (hq : EgBox w g q ud um ul) (j : Nat) (u : Value) : OwnRs (w.setCell ⟨g,j,none⟩ u) b v l:=
  Kd.R_set h hq (fun q hq => by have : q = 98:=(by simpa [kRec,Kd.iso,Kd.pair,Kd.int,Kd.scalar] using hq);rw [this];decide) j u
theorem chg_range {r : Rec} (h : recOk r = true) (hc : chgB r.kind = true) : 0 ≤ r.page ∧ r.page < 5:=by
  have:=chg_page h hc
  omega
set_option maxRecDepth 100000 in
set_option maxHeartbeats 16000000 in
theorem undo_calls {w0 w : World} {g : Nat} {e : Eng} {tx : Int} (hs : StepOk e tx) (h : EgOwn w0 w g e) : Calls Tryz.prog 48 #[ptr g, .int .i64 tx] w (RetEg w0 g (stepE e tx)):=by
  obtain ⟨⟨vd,vm,vl,hq,ho⟩,hb,hg⟩:=h
  obtain ⟨Ad,cd,Am,cm,Al,cl,rfl,rfl,rfl, -,hrd⟩:=ho.reads
  have hlg:=logOk_len hs.log
  have hl1:=hs.l150
  obtain ⟨ln,hln⟩ : ∃ ln : Nat,lastN e.log tx e.log.length = ln:=⟨_,rfl⟩
  have hlnl : ln ≤ e.log.length:=by rw [← hln];exact lastN_le _ _ _
  obtain ⟨k,hk⟩ : ∃ k : Nat,toUndoN e.log ln = k:=⟨_,rfl⟩
  have hkl : k ≤ e.log.length:=by rw [← hk];exact Nat.le_trans toUndoN_le hlnl
  have HS:=As hs
  have HQ:=As hq
  have HO:=As ho
  have HB:=As hb
  have HG:=As hg
  have HC:=As hrd
  have HLN:=As hln
  have HLL:=As hlnl
  have HK:=As hk
  have HNX : Aside0 (nextU e tx = if k = 0 then ⟨5,tx,0,0,0,0,0,0⟩ else backR (rc e.log (k - 1)) 0):=⟨by unfold nextU;rw [show lastT e tx = ln from hln,hk]⟩
  have x2:=hq.c2
  clear hs hq ho hb hg hrd hln hlnl hk hlg
  have hcu : ∀ wx,Below w.heap.size w wx → Calls Tryz.prog 108 #[.slice Al e.log.length cl, .int .i64 ln] wx fun x w' => x = .returned (.int .i64 k) ∧ Below w.heap.size w w':=fun wx hb => by
    have:=toUndo_calls (c:=cl) HLL.out hb HC.out.l HS.out.log
    rw [HK.out] at this
    exact this
  have HCU:=As hcu
  clear hcu
  go_enter Tryz.func48,Tryz.ntmps48
  go_wp2
  refine text_start (fun w' => Below w.heap.size w w') rfl rfl (by kernel_rfl) (below_drew (Below.refl _ _)) (fun HT => ?_)
  repeat (first
    | (refine text_end (fun wx hS => ?_))
    | ((with_reducible refine text_gate (f:=107) rfl ?_);refine text_call (v:=.int .i64 ln) (args:=#[.slice Al e.log.length cl, .int .i64 tx]) HT rfl Tryz.func107 (by kernel_rfl) rfl rfl (by rfl) (fun _ _ _ h => h) (by simp only [List.map_toArray,List.map_cons,List.map_nil];rfl) (fun wx hS => (last_is (c:=cl) HLN.out hS HC.out.l).mono fun _ _ h => ⟨h.1,bt hS h.2⟩) ?_;simp only [sc0,sc1])
    | ((with_reducible refine text_gate (f:=108) rfl ?_);refine text_call (v:=.int .i64 k) (args:=#[.slice Al e.log.length cl, .int .i64 ln]) HT rfl Tryz.func108 (by kernel_rfl) rfl rfl (by rfl) (fun _ _ _ h => h) (by simp only [List.map_toArray,List.map_cons,List.map_nil];rfl) (fun wx hS => HCU.out wx hS) ?_;simp only [sc0,sc1])
    | (refine text_skip HT rfl (by rfl) (fun _ _ _ h => h) ?_;simp only [sc0,sc1])
    | (refine text_val (v:=?_) HT rfl (by rfl) (fun _ _ _ h => h) (fun wx hS => ?_) ?_;rotate_left;(have x2:=bc hS x2;go_simp;with_reducible rfl);rotate_left;simp only [sc0,sc1]))
  have HX:=As hS
  have hq3:=HQ.out.up hS
  have x2:=hq3.c2
  clear hS hq3
  rcases k with _ | k
  · have hE : stepE e tx = { e with log:=e.log ++ [prevR ⟨5,tx,0,0,0,0,0,0⟩ (lastN e.log tx e.log.length)] }:=by
      unfold stepE
      rw [HNX.out,if_pos rfl]
      unfold Eng.app
      rw [if_neg (by simp [chgB])]
      rfl
    have HE:=As hE
    clear hE
    go_wp2_with (go_at_call 111;refine (add_calls ⟨5,tx,0,0,0,0,0,0⟩ (by omega) (bt HB.out HX.out) HG.out (HQ.out.up HX.out) (HO.out.below HX.out)).mono ?_;rintro x w4 ⟨vl2,rfl,hq4,ho4,hb4, -⟩;have HX4:=As (And.intro hq4 (And.intro ho4 hb4));clear hq4 ho4 hb4)
    exact bodyPost_ret (v:=.tuple #[]) (by simp [results,Tryz.results48,go_sem]) rfl ⟨⟨_,rfl⟩,by rw [HE.out];exact ⟨⟨_,_,_,HX4.out.1,HX4.out.2.1⟩,HX4.out.2.2,HG.out⟩⟩
  · have hkk : k < e.log.length:=by omega
    obtain ⟨ad,rfl,QR⟩:=at_rec (HC.out.l) k hkk
    obtain ⟨z0,z1,z2,z3,z4,z5,z6,z7⟩:=QR.up HX.out
    obtain ⟨rb,hrb⟩ : ∃ rb,backR (rc e.log k) 0 = rb:=⟨_,rfl⟩
    have hnx : nextU e tx = rb:=by rw [HNX.out,if_neg (by omega),Nat.add_sub_cancel,hrb]
    have hkd : chgB rb.kind = true:=by rw [← hrb];rfl
    have hst : stepR e tx = prevR rb (lastN e.log rb.tx e.log.length):=by unfold stepR;rw [hnx];rfl
    have hmay:=HS.out.may (by rw [hst];exact hkd)
    rw [hst] at hmay
    have hpr : 0 ≤ rb.page ∧ rb.page < 5:=by
      have h1:=hmay
      simp only [recDoB,Bool.and_eq_true] at h1
      exact chg_range (r:=prevR rb (lastN e.log rb.tx e.log.length)) h1.2.1 hkd
    have hE : stepE e tx = e.app rb:=by unfold stepE;rw [hnx]
    have HE:=As hE
    have HRB:=As hrb
    have HMAY:=As hmay
    have HPR:=As hpr
    have hwr0 : IntKind.i64.wrap (k : Int) = (k : Int):=by simp (disch:=omega) only [IntWalk.i64_in]
    have hwr1 : IntKind.i64.wrap ((k : Int) + 1 - 1) = (k : Int):=by rw [show ((k : Int) + 1 - 1) = (k : Int) by omega];exact hwr0
    have hwr2 : IntKind.i64.wrap (((k + 1 : Nat) : Int) - 1) = (k : Int):=by rw [show (((k + 1 : Nat) : Int) - 1) = (k : Int) by omega];exact hwr0
    have hEg:=As (EgOwn.up ⟨⟨_,_,_,HQ.out,HO.out⟩,HB.out,HG.out⟩ HX.out)
    clear hE hrb hmay hpr QR hnx hkd hst
    go_wp2_with (first
      | (go_at_call 110;refine (back_calls (rc e.log k) 0 _).mono ?_;rw [HRB.out];rintro x w4 ⟨rfl,hb4⟩;have HG4:=As (hEg.out.up hb4);clear hb4)
      | (go_at_call 109;refine (apply_calls rb (by omega) HS.out.geo HPR.out HMAY.out HG4.out).mono ?_;rintro x w5 ⟨⟨v,rfl⟩,hg5⟩;have HG5:=As hg5;clear hg5))
    exact bodyPost_ret (v:=.tuple #[]) (by simp [results,Tryz.results48,go_sem]) rfl ⟨⟨_,rfl⟩,by rw [HE.out];exact HG5.out⟩
/-- Its pages in memory are others now. -/
theorem own_newmem {w w1 : World} {b : Nat} {vd vm vl v : Value} {e : Eng} {qs : List Page} (h : OwnE w b vd vm vl e) (hb : Below w.heap.size w w1) (hv : OwnPs w1 w.heap.size v qs) (hle : b ≤ w.heap.size) : OwnE w1 b vd v vl { e with mem:=qs }:=by
  obtain ⟨⟨okd,okm, -,h2, -⟩,h4⟩:=h
  exact ⟨⟨fun k => okd k ∧ k < w.heap.size,fun k => w.heap.size ≤ k,fun k h1 h2 => by omega,Kd.S_old h2 hb,Kd.S_lower (Kd.S_mono (Kd.S_bound hv) (fun k hk => hk.2.1)) hle⟩,Kd.R_below h4 hb⟩
theorem OwnE.reads' {w : World} {b : Nat} {A B C : Option Addr} {n m l a b' c : Nat} {e : Eng} (h : OwnE w b (.slice A n a) (.slice B m b') (.slice C l c) e) : EngC w e A B C:=by
  obtain ⟨A',a',B',b2,C',c',h1,h2,h3, -,hc⟩:=h.reads
  injection h1 with h1
  injection h2 with h2
  injection h3 with h3
  subst h1 h2 h3
  exact hc
theorem open_none {x : Eng} (h : firstO x = 0) : openR x.log 3 = []:=by
  obtain ⟨h1,h2,h3⟩:=firstO_none h
  rw [openR_three,if_pos h1,if_pos h2,if_pos h3]
  rfl
theorem open_some {x : Eng} (h : firstO x ≠ 0) : ∃ l,openR x.log 3 = firstO x :: l:=by
  rw [openR_three]
  by_cases h1 : lastT x 1 = 0
  · by_cases h2 : lastT x 2 = 0
    · by_cases h3 : lastT x 3 = 0
      · exact absurd (show firstO x = 0 by unfold firstO;rw [if_neg (by simpa using h1),if_neg (by simpa using h2),if_neg (by simpa using h3)]) h
      · have hf : firstO x = 3:=by unfold firstO;rw [if_neg (by simpa using h1),if_neg (by simpa using h2),if_pos h3]
        exact ⟨[],by rw [if_pos h1,if_pos h2,if_neg h3,hf];rfl⟩
    · have hf : firstO x = 2:=by unfold firstO;rw [if_neg (by simpa using h1),if_pos h2]
      exact ⟨_,by rw [if_pos h1,if_neg h2,hf];rfl⟩
  · have hf : firstO x = 1:=by unfold firstO;rw [if_pos h1]
    exact ⟨_,by rw [if_neg h1,hf];rfl⟩
theorem riseK_none {x : Eng} (h : firstO x = 0) : ∀ k,riseK k x = x
  | 0 => rfl
  | k + 1 => by rw [riseK,if_pos h]
theorem riseK_keeps : ∀ (k : Nat) (x : Eng),(riseK k x).disk = x.disk ∧ (riseK k x).safe = x.safe ∧ (riseK k x).down = x.down
  | 0,x => ⟨rfl,rfl,rfl⟩
  | k + 1,x => by
    rw [riseK]
    split
    · exact ⟨rfl,rfl,rfl⟩
    · exact riseK_keeps k (stepE x (firstO x))
def startE (e : Eng) : Eng:={ e with mem:=redoN e.disk e.log e.log.length }
def upE (x : Eng) : Eng:=if firstO x = 0 then { x with down:=false } else { x with mem:=x.disk }
def upR (e : Eng) (steps : Int) : Eng × Bool:=if eOk e = true ∧ 0 ≤ steps then (if e.down = true then (upE (riseK steps.toNat (startE e)),decide (firstO (riseK steps.toNat (startE e)) = 0)) else (e,false)) else (zE,false)
theorem RiseOk.room' {x : Eng} (h : RiseOk x) : x.log.length + needAt x.log x.log.length ≤ 150:=UndL.room h
theorem RiseOk.all : ∀ (k : Nat) (x : Eng),RiseOk x → RiseOk (riseK k x)
  | 0,x,h => h
  | k + 1,x,h => by
    rw [riseK]
    split
    · exact h
    · rename_i h0
      exact RiseOk.all k _ (h.step h0).2.1
set_option maxRecDepth 100000 in
set_option maxHeartbeats 6000000 in
theorem RiseUp_calls {w0 w : World} {e : Eng} {Ad Am Al : Option Addr} {cd cm cl : Nat} (steps : Int) (hcl : e.log.length ≤ cl) (hb : Below w0.heap.size w0 w) (hr : EngC w0 e Ad Am Al) : Calls Tryz.prog 15 #[e.val Ad Am Al cd cm cl, .int .i64 steps] w (RetEB w (upR e steps).1 (upR e steps).2):=by
  have HR:=As (hr.up hb)
  clear hr hb
  obtain ⟨w1,hw1⟩ : ∃ w1,w.alloc (e.obox (.slice Ad e.disk.length cd) (.slice Am e.mem.length cm) (.slice Al e.log.length cl)) = w1:=⟨_,rfl⟩
  obtain ⟨w2,hw2⟩ : ∃ w2,w1.alloc (zE.obox (.slice none 0 0) (.slice none 0 0) (.slice none 0 0)) = w2:=⟨_,rfl⟩
  have hz1 : w1.heap.size = w.heap.size + 1:=by rw [← hw1];exact size1 _ _
  have hz2 : w2.heap.size = w.heap.size + 2:=by rw [← hw2,size1,hz1]
  have hb12 : Below w1.heap.size w1 w2:=by rw [← hw2];exact bel_alloc (Below.refl _ _) _
  have HB2 : Aside0 (Below w.heap.size w w2):=⟨by rw [← hw2, ← hw1];exact bel_alloc (bel_alloc (Below.refl _ _) _) _⟩
  have HQ2 : Aside0 (EgBox w2 w.heap.size e (.slice Ad e.disk.length cd) (.slice Am e.mem.length cm) (.slice Al e.log.length cl)):=⟨EgBox.up (by rw [← hw1];exact EgBox.mk1 _ _ _ _ _) hb12⟩
  have HP2 : Aside0 (EgBox w2 (w.heap.size + 1) zE (.slice none 0 0) (.slice none 0 0) (.slice none 0 0)):=⟨by rw [← hw2, ← hz1];exact EgBox.mk1 _ _ _ _ _⟩
  have HW2 : Aside0 ((w.alloc (e.obox (.slice Ad e.disk.length cd) (.slice Am e.mem.length cm) (.slice Al e.log.length cl))).alloc (zE.obox (.slice none 0 0) (.slice none 0 0) (.slice none 0 0)) = w2):=⟨by rw [hw1,hw2]⟩
  have HZ2:=As hz2
  clear hw1 hw2 hz1 hz2 hb12
  have x0:=HQ2.out.c0
  have x1:=HQ2.out.c1
  have x2:=HQ2.out.c2
  have x3:=HQ2.out.c3
  have x4:=HQ2.out.c4
  cases hv : eOk e
  · have HV:=As hv
    have hE : upR e steps = (zE,false):=by rw [upR,if_neg (by rw [hv];simp)]
    rw [hE]
    clear hv hE
    go_enter Tryz.func15,Tryz.ntmps15
    go_wp2_with (go_at_call 36;rw [show (w.alloc (Obj.cells #[Value.slice Ad e.disk.length cd,Value.slice Am e.mem.length cm,Value.slice Al e.log.length cl,Value.int IntKind.i64 e.safe,Value.bool e.down] 28)).alloc (Obj.cells #[Value.slice none 0 0,Value.slice none 0 0,Value.slice none 0 0,Value.int IntKind.i64 0,Value.bool false] 28) = w2 from HW2.out];refine (EngineOk_calls (cd:=cd) (cm:=cm) HV.out hcl HB2.out HR.out).mono ?_;rintro x w3 ⟨rfl,hb3⟩;have HB3:=As (bt HB2.out hb3);have HP3:=As (HP2.out.up hb3);have y0:=HP3.out.c0;have y1:=HP3.out.c1;have y2:=HP3.out.c2;have y3:=HP3.out.c3;have y4:=HP3.out.c4;have f0:=HP3.out.frz 0;have f1:=HP3.out.frz 1;have f2:=HP3.out.frz 2;have f3:=HP3.out.frz 3;have f4:=HP3.out.frz 4;clear hb3)
    obtain ⟨z0,z1,z2,z3,z4⟩:=HP3.out.empty
    exact bodyPost_ret (v:=.tuple #[zEv, .bool false]) (by simp [results,Tryz.results15,go_sem,z0,z1,z2,z3,z4]) rfl ⟨_,_,_,rfl,own_zE _ _,bel_set5 (g:=w.heap.size + 1) HB3.out (by omega) zE _ _ _⟩
  · have HV:=As hv
    have HF:=As (okF_iff.1 hv)
    clear hv
    rcases lts steps 0 with ⟨e1,b1,c1⟩ | ⟨e1,b1,c1⟩
    · have hE : upR e steps = (zE,false):=by rw [upR,if_neg (by have:=e1.out;omega)]
      rw [hE]
      clear hE
      have hl0:=e1.out
      go_enter Tryz.func15,Tryz.ntmps15
      go_wp2_with (go_at_call 36;rw [show (w.alloc (Obj.cells #[Value.slice Ad e.disk.length cd,Value.slice Am e.mem.length cm,Value.slice Al e.log.length cl,Value.int IntKind.i64 e.safe,Value.bool e.down] 28)).alloc (Obj.cells #[Value.slice none 0 0,Value.slice none 0 0,Value.slice none 0 0,Value.int IntKind.i64 0,Value.bool false] 28) = w2 from HW2.out];refine (EngineOk_calls (cd:=cd) (cm:=cm) HV.out hcl HB2.out HR.out).mono ?_;rintro x w3 ⟨rfl,hb3⟩;have HB3:=As (bt HB2.out hb3);have HP3:=As (HP2.out.up hb3);have y0:=HP3.out.c0;have y1:=HP3.out.c1;have y2:=HP3.out.c2;have y3:=HP3.out.c3;have y4:=HP3.out.c4;have f0:=HP3.out.frz 0;have f1:=HP3.out.frz 1;have f2:=HP3.out.frz 2;have f3:=HP3.out.frz 3;have f4:=HP3.out.frz 4;clear hb3)
      obtain ⟨z0,z1,z2,z3,z4⟩:=HP3.out.empty
      exact bodyPost_ret (v:=.tuple #[zEv, .bool false]) (by simp [results,Tryz.results15,go_sem,z0,z1,z2,z3,z4]) rfl ⟨_,_,_,rfl,own_zE _ _,bel_set5 (g:=w.heap.size + 1) HB3.out (by omega) zE _ _ _⟩
    · obtain ⟨n,hn⟩ : ∃ n : Nat,steps = (n : Int):=⟨steps.toNat,by have:=e1.out;omega⟩
      subst hn
      have HLG:=As (logOk_len HF.out.log)
      have hn0 : (0 : Int) ≤ (n : Int):=by omega
      cases hdn : e.down
      · have hE : upR e (n : Int) = (e,false):=by rw [upR,if_pos ⟨HV.out,e1.out⟩,if_neg (by rw [hdn];simp)]
        rw [hE]
        have HDN:=As hdn
        clear hE hdn
        go_enter Tryz.func15,Tryz.ntmps15
        go_wp2_with (first
          | (go_at_call 36;rw [show (w.alloc (Obj.cells #[Value.slice Ad e.disk.length cd,Value.slice Am e.mem.length cm,Value.slice Al e.log.length cl,Value.int IntKind.i64 e.safe,Value.bool e.down] 28)).alloc (Obj.cells #[Value.slice none 0 0,Value.slice none 0 0,Value.slice none 0 0,Value.int IntKind.i64 0,Value.bool false] 28) = w2 from HW2.out];refine (EngineOk_calls (cd:=cd) (cm:=cm) HV.out hcl HB2.out HR.out).mono ?_;rintro x w3 ⟨rfl,hb3⟩;have HX3:=As hb3;replace x0:=bc hb3 x0;replace x1:=bc hb3 x1;replace x2:=bc hb3 x2;replace x3:=bc hb3 x3;replace x4:=bc hb3 x4;clear hb3)
          | (go_at_call 38;refine (ecopied_calls (cd:=cd) (cm:=cm) (cl:=cl) (psOk_geo HF.out.disk) (psOk_geo HF.out.mem) HLG.out (bt HB2.out HX3.out) HR.out).mono ?_;rintro x w4 ⟨vd,vm,vl,rfl,ho,hb4⟩;obtain ⟨Bd,dd,Bm,dm,Bl,dl,rfl,rfl,rfl, -, -⟩:=ho.reads;have HO4:=As ho;have HX4:=As (bt HX3.out hb4);have HN4:=As (Nat.le_trans HX3.out.size (Nat.le_refl _));clear ho hb4 x0 x1 x2 x3 x4)
          | (refine wpl_box_eg (vd:=.slice Bd e.disk.length dd) (vm:=.slice Bm e.mem.length dm) (vl:=.slice Bl e.log.length dl) e ?_;intro w5 hb5 _ hq5;have HO5:=As (HO4.out.below hb5);have HX5:=As (bt HX4.out hb5);have x0:=hq5.c0;have x1:=hq5.c1;have x2:=hq5.c2;have x3:=hq5.c3;have x4:=hq5.c4;rw [HDN.out] at x4;have HP5:=As (HP2.out.up HX5.out);have y0:=HP5.out.c0;have y1:=HP5.out.c1;have y2:=HP5.out.c2;have y3:=HP5.out.c3;have y4:=HP5.out.c4;have f0:=HP5.out.frz 0;have f1:=HP5.out.frz 1;have f2:=HP5.out.frz 2;have f3:=HP5.out.frz 3;have f4:=HP5.out.frz 4;clear hb5 hq5))
        have hz:=HZ2.out
        have hn3:=HX3.out.size
        have hy:=HP5.out.set5 ⟨e.disk,e.mem,e.log,e.safe,false⟩ (.slice Bd e.disk.length dd) (.slice Bm e.mem.length dm) (.slice Bl e.log.length dl)
        have h1:=HO5.out.set5 (f:=⟨e.disk,e.mem,e.log,e.safe,false⟩) (xd:=.slice Bd e.disk.length dd) (xm:=.slice Bm e.mem.length dm) (xl:=.slice Bl e.log.length dl) HP5.out
        have h2:=bel_set5 (g:=w.heap.size + 1) (bt HB2.out HX5.out) (by omega) ⟨e.disk,e.mem,e.log,e.safe,false⟩ (.slice Bd e.disk.length dd) (.slice Bm e.mem.length dm) (.slice Bl e.log.length dl)
        have z0:=hy.c0
        have z1:=hy.c1
        have z2:=hy.c2
        have z3:=hy.c3
        have z4:=hy.c4
        simp only at z0 z1 z2 z3 z4
        exact bodyPost_ret (v:=.tuple #[.agg #[.slice Bd e.disk.length dd, .slice Bm e.mem.length dm, .slice Bl e.log.length dl, .int .i64 e.safe, .bool false], .bool false]) (by simp [results,Tryz.results15,go_sem,z0,z1,z2,z3,z4]) rfl ⟨.slice Bd e.disk.length dd, .slice Bm e.mem.length dm, .slice Bl e.log.length dl,by unfold Eng.ag;rw [HDN.out],h1.lower (by omega),h2⟩
      · obtain ⟨X,hX⟩ : ∃ X,riseK n (startE e) = X:=⟨_,rfl⟩
        have hE : upR e (n : Int) = (upE X,decide (firstO X = 0)):=by rw [upR,if_pos ⟨HV.out,e1.out⟩,if_pos hdn,Int.toNat_natCast,hX]
        rw [hE]
        obtain ⟨R,hR⟩ : ∃ R,redoN e.disk e.log e.log.length = R:=⟨_,rfl⟩
        have HRR:=As hR
        have hst : startE e = { e with mem:=R }:=by rw [startE,hR]
        have hro : RiseOk { e with mem:=R }:=by rw [← hst];exact HF.out.rise
        have HRO:=As hro
        have HRX:=As (show riseK n { e with mem:=R } = X by rw [← hst];exact hX)
        have HDN:=As hdn
        have HGD:=As (psOk_geo HF.out.disk)
        clear hE hdn hX hR hst hro
        go_enter Tryz.func15,Tryz.ntmps15
        go_wp2_with (first
          | (go_at_call 36;rw [show (w.alloc (Obj.cells #[Value.slice Ad e.disk.length cd,Value.slice Am e.mem.length cm,Value.slice Al e.log.length cl,Value.int IntKind.i64 e.safe,Value.bool e.down] 28)).alloc (Obj.cells #[Value.slice none 0 0,Value.slice none 0 0,Value.slice none 0 0,Value.int IntKind.i64 0,Value.bool false] 28) = w2 from HW2.out];refine (EngineOk_calls (cd:=cd) (cm:=cm) HV.out hcl HB2.out HR.out).mono ?_;rintro x w3 ⟨rfl,hb3⟩;have HX3:=As hb3;replace x0:=bc hb3 x0;replace x1:=bc hb3 x1;replace x2:=bc hb3 x2;replace x3:=bc hb3 x3;replace x4:=bc hb3 x4;clear hb3)
          | (go_at_call 38;refine (ecopied_calls (cd:=cd) (cm:=cm) (cl:=cl) (psOk_geo HF.out.disk) (psOk_geo HF.out.mem) HLG.out (bt HB2.out HX3.out) HR.out).mono ?_;rintro x w4 ⟨vd,vm,vl,rfl,ho,hb4⟩;obtain ⟨Bd,dd,Bm,dm,Bl,dl,rfl,rfl,rfl, -,hc⟩:=ho.reads;have HO4:=As ho;have HX4:=As (bt HX3.out hb4);have HN4:=As (Nat.le_trans HX3.out.size (Nat.le_refl _));have HC4:=As hc;have HN34:=As hb4.size;have HX43:=As hb4;clear ho hb4 hc x0 x1 x2 x3 x4)
          | (refine wpl_box_eg (vd:=.slice Bd e.disk.length dd) (vm:=.slice Bm e.mem.length dm) (vl:=.slice Bl e.log.length dl) e ?_;intro w5 hb5 hz5 hq5;have HO5:=As (HO4.out.below hb5);have HX5:=As (bt HX4.out hb5);have HC5:=As (HC4.out.up hb5);have HQ5:=As hq5;have x0:=hq5.c0;have x1:=hq5.c1;have x2:=hq5.c2;have x3:=hq5.c3;have x4:=hq5.c4;rw [HDN.out] at x4;have HB35:=As (bt HX43.out hb5);clear hb5 hq5)
          | (go_at_call 46;refine (redo_calls (w0:=w5) (c:=dd) (d:=dl) HGD.out (fun k hk => (logOk_facts HF.out.log hk).ok) HLG.out (Below.refl _ _) HC5.out.d HC5.out.l).mono ?_;rw [HRR.out];rintro x w6 ⟨v,rfl,ho,hb6⟩;obtain ⟨Bn,dn,rfl, -, -⟩:=Kd.S_reads ho;have HO6:=As (own_newmem HO5.out hb6 ho HB35.out.size);have hq6:=HQ5.out.up hb6;have HQ6:=As hq6;have HB36:=As (bt HB35.out hb6);have g1:=hq6.frz 1;have x1':=hq6.c1;have x2':=hq6.c2;clear ho hb6 hq6 x0 x1 x2 x3 x4)
          | (go_at_call 47;obtain ⟨w7,hw7⟩ : ∃ w7,w6.setCell ⟨w4.heap.size,1,none⟩ (.slice Bn R.length dn) = w7:=⟨_,rfl⟩;have hq7 : EgBox w7 w4.heap.size { e with mem:=R } (.slice Bd e.disk.length dd) (.slice Bn R.length dn) (.slice Bl e.log.length dl):=(by rw [← hw7];exact HQ6.out.set1 _);have ho7 : OwnE w7 w3.heap.size (.slice Bd e.disk.length dd) (.slice Bn R.length dn) (.slice Bl e.log.length dl) { e with mem:=R }:=(by rw [← hw7];exact HO6.out.setEg HQ6.out 1 _);have hb7 : Below w3.heap.size w3 w7:=(by rw [← hw7];exact HB36.out.setCell (p:=⟨w4.heap.size,1,none⟩) HN34.out _);have hc7:=ho7.reads';rw [hw7];refine (open_calls (w0:=w7) (c:=dl) (Below.refl _ _) hc7.l).mono ?_;rintro x w8 ⟨v,rfl,ho,hb8⟩;obtain ⟨Av,cv,rfl, -,hvc⟩:=ho.reads;have HEG0:=As (EgOwn.up ⟨⟨_,_,_,hq7,ho7⟩,hb7,HN34.out⟩ hb8);have HVC:=As hvc;clear hw7 hq7 ho7 hb7 hc7 ho hb8 hvc x1' x2' g1))
        have HX4G : Aside0 (w3.heap.size ≤ w4.heap.size):=HN34
        have hroom:=HRO.out.room'
        go_loopw [7,8] (fun l i wr => ∃ (k : Nat) (x : Eng) (A : Option Addr) (c : Nat),k ≤ n ∧ l = .slice A (openR x.log 3).length c ∧ i = .int .i64 (k : Int) ∧ Aside0 (Kd.C (Kd.int .i64) wr A (openR x.log 3).length (openR x.log 3)) ∧ Aside0 (EgOwn w3 wr w4.heap.size x) ∧ Aside0 (RiseOk x ∧ riseK (n - k) x = X) ∧ k + needAt x.log x.log.length ≤ 150) (fun _ i _ => (n - intOf i).toNat)
        case atStart => exact ⟨0,{ e with mem:=R },Av,cv,Nat.zero_le _,rfl,rfl,HVC,HEG0,⟨HRO.out,HRX.out⟩,by show 0 + needAt e.log e.log.length ≤ 150;have : e.log.length + needAt e.log e.log.length ≤ 150:=hroom;omega⟩
        case round =>
          obtain ⟨k,x,A,c,hk,rfl,rfl,HVl,HEG,HRK,hkn⟩:=hrel
          by_cases h0 : firstO x = 0
          · have hXx : X = x:=by rw [← HRK.out.2,riseK_none h0]
            have hU1 : upE X = { x with down:=false }:=by rw [hXx,upE,if_pos h0]
            have hU2 : decide (firstO X = 0) = true:=by rw [hXx];simp [h0]
            have hol : openR x.log 3 = []:=open_none h0
            rw [hol]
            have HU:=As (And.intro hU1 hU2)
            clear hXx hol hU1 hU2 h0 hkn hroom
            by_cases hlt : k < n
            all_goals
              have hx2:=bt HX3.out HEG.out.bel
              obtain ⟨vd,vm,vl,hq,ho⟩:=HEG.out.ex
              obtain ⟨Ed,n1,Em,n2,El,n3,rfl,rfl,rfl, -, -⟩:=ho.reads
              have q0:=hq.c0
              have q1:=hq.c1
              have q2:=hq.c2
              have q3:=hq.c3
              have q4:=hq.c4
              have g4:=hq.frz 4
              have hp:=HP2.out.up hx2
              have y0:=hp.c0
              have y1:=hp.c1
              have y2:=hp.c2
              have y3:=hp.c3
              have y4:=hp.c4
              have f0:=hp.frz 0
              have f1:=hp.frz 1
              have f2:=hp.frz 2
              have f3:=hp.frz 3
              have f4:=hp.frz 4
              have HQ:=As hq
              have HO:=As ho
              have HP:=As hp
              have HX:=As hx2
              have HG:=As HEG.out.ge
              clear hq ho hp hx2
              have hne1 : ¬ w4.heap.size = w.heap.size + 1:=by have:=HZ2.out;have:=HX3.out.size;have:=HX4G.out;omega
              have hne2 : ¬ w.heap.size + 1 = w4.heap.size:=fun e => hne1 e.symm
              go_wp2
              have hz:=HZ2.out
              have hn3:=HX3.out.size
              have hge:=HG.out
              have hgl:=HX4G.out
              have r1:=HO.out.setEg HQ.out 4 (.bool false)
              have p1:=HP.out.far (b:=w4.heap.size) (by omega) 4 (.bool false)
              have b1:=(bt HB2.out HX.out).setCell (p:=⟨w4.heap.size,4,none⟩) (by show w.heap.size ≤ w4.heap.size;omega) (.bool false)
              have hy:=p1.set5 { x with down:=false } (.slice Ed x.disk.length n1) (.slice Em x.mem.length n2) (.slice El x.log.length n3)
              have h1:=r1.set5 (f:={ x with down:=false }) (xd:=.slice Ed x.disk.length n1) (xm:=.slice Em x.mem.length n2) (xl:=.slice El x.log.length n3) p1
              have h2:=bel_set5 (g:=w.heap.size + 1) b1 (by omega) { x with down:=false } (.slice Ed x.disk.length n1) (.slice Em x.mem.length n2) (.slice El x.log.length n3)
              have z0:=hy.c0
              have z1:=hy.c1
              have z2:=hy.c2
              have z3:=hy.c3
              have z4:=hy.c4
              simp only at z0 z1 z2 z3 z4
              have hd1 : OwnE (Go.Proofs.YtlmlcnokiipilabGreat.set5 (wr.setCell ⟨w4.heap.size,4,none⟩ (.bool false)) (w.heap.size + 1) { x with down:=false } (.slice Ed x.disk.length n1) (.slice Em x.mem.length n2) (.slice El x.log.length n3)) w3.heap.size (.slice Ed x.disk.length n1) (.slice Em x.mem.length n2) (.slice El x.log.length n3) { x with down:=false }:=⟨h1.ex,h1.l⟩
              exact bodyPost_ret (v:=.tuple #[.agg #[.slice Ed x.disk.length n1, .slice Em x.mem.length n2, .slice El x.log.length n3, .int .i64 x.safe, .bool false], .bool true]) (by simp [results,Tryz.results15,go_sem,z0,z1,z2,z3,z4]) rfl ⟨.slice Ed x.disk.length n1, .slice Em x.mem.length n2, .slice El x.log.length n3,by rw [HU.out.1,HU.out.2],by rw [HU.out.1];exact hd1.lower (by omega),h2⟩
          · obtain ⟨rest,hopen⟩:=open_some h0
            have hlen : (openR x.log 3).length = rest.length + 1:=by rw [hopen];rfl
            have hv0 : iv (openR x.log 3) 0 = firstO x:=by rw [hopen];rfl
            have HV0:=As hv0
            have HLN:=As hlen
            by_cases hlt : k < n
            · obtain ⟨hso,hro',hnd⟩:=HRK.out.1.step h0
              have hrk : riseK (n - (k + 1)) (stepE x (firstO x)) = X:=by
                have h:=HRK.out.2
                rw [show n - k = (n - (k + 1)) + 1 by omega,riseK,if_neg h0] at h
                exact h
              obtain ⟨t,ht⟩ : ∃ t,firstO x = t:=⟨_,rfl⟩
              rw [ht] at hso hro' hnd hrk hv0
              have HSO:=As hso
              have HNX:=As (And.intro hro' hrk)
              have HND:=As (show k + 1 + needAt (stepE x t).log (stepE x t).log.length ≤ 150 by omega)
              have hk150 : k ≤ 150:=by omega
              obtain ⟨ad,rfl,g0⟩:=at_int HVl.out 0 (by omega)
              rw [hv0] at g0
              have e0 : ad.add 0 = ad:=by simp [Addr.add]
              have g0' : wr.cell? ad = some (.int .i64 t):=by rw [← e0];exact g0
              have hwr : IntKind.i64.wrap ((k : Int) + 1) = (k : Int) + 1:=by simp (disch:=omega) only [IntWalk.i64_in]
              rw [hlen]
              clear hso hro' hnd hrk hv0 hopen h0 hkn hroom ht hlen HV0 HLN e0
              go_wp2_with (first
                | (go_at_call 48;refine (undo_calls HSO.out HEG.out).mono ?_;rintro x1 w9 ⟨⟨v1,rfl⟩,hg9⟩;have HG9:=As hg9;obtain ⟨ud,um,ul,hq9,ho9⟩:=hg9.ex;obtain ⟨Ud,u1,Um,u2,Ul,u3,rfl,rfl,rfl, -,hc9⟩:=ho9.reads;have x2':=hq9.c2;have HC9:=As hc9;clear hg9 hq9 ho9 hc9 g0 g0')
                | (go_at_call 47;refine (open_calls (w0:=w9) (c:=u3) (Below.refl _ _) HC9.out.l).mono ?_;rintro x1 w10 ⟨v2,rfl,ho,hb10⟩;obtain ⟨Av2,cv2,rfl, -,hvc⟩:=ho.reads;have HEG2:=As (HG9.out.up hb10);have HVC2:=As hvc;clear ho hb10 hvc x2'))
              go_roundw
              case rel => exact ⟨k + 1,stepE x t,Av2,cv2,by omega,rfl,by go_num,HVC2,HEG2,HNX,HND.out⟩
              case measure => simp [intOf];omega
            · have hkn' : k = n:=by omega
              have hXx : X = x:=by
                have h:=HRK.out.2
                rw [hkn',Nat.sub_self] at h
                exact h.symm
              have HU:=As (show upE X = { x with mem:=x.disk } ∧ decide (firstO X = 0) = false from ⟨by rw [hXx,upE,if_neg h0],by rw [hXx];simp [h0]⟩)
              have HGX:=As (show geo x.disk from by
                have h1:=(riseK_keeps n { e with mem:=R }).1
                rw [HRX.out,hXx] at h1
                rw [h1]
                exact HGD.out)
              have hx2:=bt HX3.out HEG.out.bel
              obtain ⟨vd,vm,vl,hq,ho⟩:=HEG.out.ex
              obtain ⟨Ed,n1,Em,n2,El,n3,rfl,rfl,rfl, -,hc⟩:=ho.reads
              have q0:=hq.c0
              have HQ:=As hq
              have HO:=As ho
              have HC:=As hc
              have HEB:=As HEG.out.bel
              rw [hlen]
              clear hq ho hc hx2 hXx h0 hkn hroom hopen hv0 hlen HV0 HLN hkn'
              have hne1 : ¬ w4.heap.size = w.heap.size + 1:=by have:=HZ2.out;have:=HX3.out.size;have:=HX4G.out;omega
              have hne2 : ¬ w.heap.size + 1 = w4.heap.size:=fun e => hne1 e.symm
              go_wp2_with (go_at_call 49;refine (copies_calls (w0:=wr) (c:=n1) (geo_few HGX.out) (by have:=HGX.out.1;omega) (Below.refl _ _) HC.out.d).mono ?_;rintro x1 w9 ⟨v1,rfl,ho9,hb9⟩;obtain ⟨Cd,k1,rfl, -, -⟩:=Kd.S_reads ho9;have HO9:=As (own_newmem HO.out hb9 ho9 HEB.out.size);have hq9:=HQ.out.up hb9;have HQ9:=As hq9;have HB9:=As (bt HEB.out hb9);have hp9:=HP2.out.up (bt HX3.out HB9.out);have HP9:=As hp9;have g1:=hq9.frz 1;have q0':=hq9.c0;have q1':=hq9.c1;have q2':=hq9.c2;have q3':=hq9.c3;have q4':=hq9.c4;have y0:=hp9.c0;have y1:=hp9.c1;have y2:=hp9.c2;have y3:=hp9.c3;have y4:=hp9.c4;have f0:=hp9.frz 0;have f1:=hp9.frz 1;have f2:=hp9.frz 2;have f3:=hp9.frz 3;have f4:=hp9.frz 4;clear ho9 hb9 hq9 hp9 q0)
              have hz:=HZ2.out
              have hn3:=HX3.out.size
              have hgl:=HX4G.out
              have r1:=HO9.out.setEg HQ9.out 1 (.slice Cd x.disk.length k1)
              have p1:=HP9.out.far (b:=w4.heap.size) (by omega) 1 (.slice Cd x.disk.length k1)
              have b1:=(bt HB2.out (bt HX3.out HB9.out)).setCell (p:=⟨w4.heap.size,1,none⟩) (by show w.heap.size ≤ w4.heap.size;omega) (.slice Cd x.disk.length k1)
              have hy:=p1.set5 { x with mem:=x.disk } (.slice Ed x.disk.length n1) (.slice Cd x.disk.length k1) (.slice El x.log.length n3)
              have h1:=r1.set5 (f:={ x with mem:=x.disk }) (xd:=.slice Ed x.disk.length n1) (xm:=.slice Cd x.disk.length k1) (xl:=.slice El x.log.length n3) p1
              have h2:=bel_set5 (g:=w.heap.size + 1) b1 (by omega) { x with mem:=x.disk } (.slice Ed x.disk.length n1) (.slice Cd x.disk.length k1) (.slice El x.log.length n3)
              have z0:=hy.c0
              have z1:=hy.c1
              have z2:=hy.c2
              have z3:=hy.c3
              have z4:=hy.c4
              simp only at z0 z1 z2 z3 z4
              exact bodyPost_ret (v:=.tuple #[.agg #[.slice Ed x.disk.length n1, .slice Cd x.disk.length k1, .slice El x.log.length n3, .int .i64 x.safe, .bool x.down], .bool false]) (by simp [results,Tryz.results15,go_sem,z0,z1,z2,z3,z4]) rfl ⟨.slice Ed x.disk.length n1, .slice Cd x.disk.length k1, .slice El x.log.length n3,by rw [HU.out.1,HU.out.2],by rw [HU.out.1];exact h1.lower (by omega),h2⟩
end Go.Proofs.YtlmlcnokiipilabGreat
