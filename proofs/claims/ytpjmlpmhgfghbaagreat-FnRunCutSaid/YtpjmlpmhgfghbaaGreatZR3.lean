/- A part of the proof: what the last text of the claim says leans on this one. -/
import Derived.Test.YtpjmlpmhgfghbaaGreatZR2
import Derived.Lib.SliceRun
set_option linter.unusedVariables false
set_option linter.unusedSimpArgs false
namespace Go.Proofs.YtpjmlpmhgfghbaaGreat
theorem Core.one {e : Eng} {C : Nat → Page} {B : Nat} (h : Core e C B) {tx : Int} (ht : tx = 1 ∨ tx = 2 ∨ tx = 3) (hlast : lastT e tx ≠ 0) : e.log.length + 1 ≤ 150:=by
  have h1:=h.room e.log.length (Nat.le_refl _)
  have h2:=h.b150
  have h3 : cst e.log tx e.log.length ≥ 1:=by rw [cst,if_neg hlast];omega
  have h4 : cst e.log tx e.log.length ≤ Br e.log e.log.length:=by
    rw [Br]
    rcases ht with rfl | rfl | rfl <;> omega
  omega
theorem JM (e : Eng) (tx : Int) : (Bo e tx).log = e.log ++ [CO e tx]:=rfl
theorem OG {e : Eng} {tx : Int} : (CO e tx).kind = (Du e tx).kind ∧ (CO e tx).page = (Du e tx).page:=⟨rfl,rfl⟩
theorem Ow {e : Eng} {C : Nat → Page} {B : Nat} (_h : Core e C B) {tx : Int} {r : Rec} (hk : StepKind e.log tx r) (hlast : lastT e tx ≠ 0) : Gt (e.log ++ [r]) e.log.length:=by
  have hA:=Cn e.log [r]
  cases hk with
  | fin hU =>
    refine ⟨?_,?_,?_,?_,?_⟩
    all_goals rw [BL]
    · intro hk;simp at hk
    · intro hk;simp at hk
    · intro _;rw [Gs hA tx (Nat.le_refl _)];exact hU
    · intro _
      rw [CP tx hA]
      exact Nat.pos_of_ne_zero hlast
    · intro hk;simp at hk
  | Jq m ms hU h0 hm hkk htx =>
    refine ⟨?_,?_,?_,?_,?_⟩
    all_goals rw [BL]
    · intro hk;simp [Bq] at hk
    · intro _
      refine ⟨m,ms,?_,?_⟩
      · show U _ (rc e.log (m - 1)).tx _ = _
        rw [htx,Gs hA tx (Nat.le_refl _)]
        exact hU
      · rw [M4 (by omega)]
        rfl
    · intro hk;simp [Bq] at hk
    · intro he;simp [Bq,EI] at he
    · intro hk;simp [Bq] at hk
theorem Core.step {e : Eng} {C : Nat → Page} {B : Nat} (h : Core e C B) {tx : Int} (ht : tx = 1 ∨ tx = 2 ∨ tx = 3) (hlast : lastT e tx ≠ 0) : Core (Bo e tx) C B:=by
  have h1:=h.one ht hlast
  have hk:=EB (e:=e) h.log tx
  have hl':=hk.log h.log (by omega) h1
  have hpr:=Ow h hk hlast
  have hneed:=hk.need h.log ht h1 hlast
  have hroom:=h.room e.log.length (Nat.le_refl _)
  have hP:=F6 h.prop hpr
  have hlen : e.log.length < (e.log ++ [CO e tx]).length:=by simp
  have hA:=Cn e.log [CO e tx]
  have hgood:=h.good e.log.length h.s1 (Nat.le_refl _)
  refine (Core.snoc h (Nat.le_refl _) h.b150 hl' hpr ?_ (by omega) ?_).mem _ _
  · exact hk.ne4
  · intro p hp
    have hg:=hgood p hp
    have hrl:=h.Vn (p:=p) hp h.s1
    generalize CO e tx = r at hk hl' hpr hneed hP hlen hA ⊢
    rw [GD]
    cases hk with
    | fin hU =>
      rw [if_neg (fun hc => by simp [Cx] at hc),NR hP hlen (by rw [BL]),ES hA p (Nat.le_refl _)]
      exact CY hA.symm (fun m hm => by have:=DR hm;omega) hg
    | Jq m ms hU h0 hm hkk htx =>
      obtain ⟨m',hm',hUA⟩:=PD hl' hP hlen (by rw [BL];rfl)
      rw [BL] at hm' hUA
      have hU2:=hUA p
      rw [ES hA p (Nat.le_refl _)] at hU2
      by_cases hpg : (Bq (rc e.log (m - 1)) (Ao e.log tx e.log.length)).page = p
      · rw [if_pos hpg] at hU2
        rw [if_pos ⟨rfl,hpg,by omega⟩]
        have hg':=CY hA.symm (fun m hm => by have:=DR hm;omega) hg
        rw [hU2] at hg'
        rw [ED]
        have hw : Be (C9 (pg e.disk p) e.log p e.log.length) (Bq (rc e.log (m - 1)) (Ao e.log tx e.log.length)) = Be (C9 (pg e.disk p) e.log p e.log.length) (Bq (rc (e.log ++ [Bq (rc e.log (m - 1)) (Ao e.log tx e.log.length)]) (m' - 1)) 0):=(congrArg (Be _) hm').trans rfl
        rw [hw]
        exact IL (by omega) (by omega) hg'.2
      · rw [if_neg hpg] at hU2
        rw [if_neg (fun hc => hpg hc.2.1), ← hU2]
        exact CY hA.symm (fun m hm => by have:=DR hm;omega) hg
theorem JZ {e : Eng} {r : Rec} (hm : e.mem.length = 5) (hpg : Cx r.kind = true → 0 ≤ r.page ∧ r.page ≤ 4) (p : Nat) : pg (e.app r).mem p = if Cx r.kind = true ∧ r.page = p then doR (pg e.mem p) r (e.log.length + 1 : Nat) else pg e.mem p:=by
  unfold Eng.app
  by_cases hc : Cx r.kind = true
  · have h1:=hpg hc
    simp only [hc,if_true]
    rw [Fg (by omega)]
    by_cases e1 : r.page = p
    · have e2 : r.page.toNat = p:=by omega
      rw [if_pos e2,if_pos ⟨trivial,e1⟩,e2]
    · rw [if_neg (by omega),if_neg (fun h => e1 h.2)]
  · simp only [hc]
    rw [if_neg (fun h => by simp at h)]
    rfl
theorem LA (e : Eng) (r : Rec) : (e.app r).mem.length = e.mem.length:=by
  unfold Eng.app
  split
  · simp
  · rfl
theorem NQ {e : Eng} {C : Nat → Page} {B : Nat} (h : Core e C B) (r : Rec) {p : Nat} (hp : p < 5) : Di (e.app r) p = if Cx r.kind = true ∧ r.page = p then doR (Di e p) r (e.log.length + 1 : Nat) else Di e p:=by
  have hrl:=h.Vn (p:=p) hp h.s1
  have : Di (e.app r) p = C9 (pg e.disk p) (e.log ++ [{ r with prev:=Ao e.log r.tx e.log.length }]) p (e.log.length + 1):=by
    unfold Di Eng.app
    simp
  rw [this,GD]
  unfold Di
  by_cases hc : Cx r.kind = true ∧ r.page = p
  · rw [if_pos hc,if_pos ⟨hc.1,hc.2,by omega⟩]
    rfl
  · rw [if_neg hc,if_neg (fun h => hc ⟨h.1,h.2.1⟩)]
theorem Ia {e : Eng} (hl : AP e.log = true) (tx : Int) : Cx (Du e tx).kind = true → 0 ≤ (Du e tx).page ∧ (Du e tx).page ≤ 4:=by
  have hk:=EB (e:=e) hl tx
  intro hc
  rw [← OG.1] at hc
  rw [← OG.2]
  generalize CO e tx = r at hk hc ⊢
  cases hk with
  | fin => simp [Cx] at hc
  | Jq m ms h h0 hm hk ht =>
    have:=He hl h0 hm hk
    simp only [Bq]
    omega
theorem Tz {e : Eng} {C : Nat → Page} {B : Nat} (h : Core e C B) (hm : e.mem.length = 5) (tx : Int) (hr : ∀ p,p < 5 → pg e.mem p = Di e p) : ∀ p,p < 5 → pg (Bo e tx).mem p = Di (Bo e tx) p:=fun p hp => by
  unfold Bo
  rw [JZ hm (Ia h.log tx),NQ h _ hp,hr p hp]
theorem KG {l : List Rec} {p : Int} {n : Nat} (h : (rc l n).page = p ∧ (Cx (rc l n).kind = true ∨ (rc l n).kind = 3)) : BF l p (n + 1) = n + 1:=by rw [BF,if_pos h]
theorem FY {l : List Rec} {p : Int} {n : Nat} (h : ¬ ((rc l n).page = p ∧ (Cx (rc l n).kind = true ∨ (rc l n).kind = 3))) : BF l p (n + 1) = BF l p n:=by rw [BF,if_neg h]
theorem PL.step {e : Eng} {C : Nat → Page} {B : Nat} (h : Core e C B) (hm : e.mem.length = 5) {tx : Int} (ht : tx = 1 ∨ tx = 2 ∨ tx = 3) (hlast : lastT e tx ≠ 0) {p : Nat} (hp : p < 5) (hr : PL e p) : PL (Bo e tx) p:=by
  have h1:=h.one ht hlast
  have hk:=EB (e:=e) h.log tx
  have hl':=hk.log h.log (by omega) h1
  have hpr:=Ow h hk hlast
  have hP:=F6 h.prop hpr
  have hlen : e.log.length < (e.log ++ [CO e tx]).length:=by simp
  have hlen1 : (e.log ++ [CO e tx]).length = e.log.length + 1:=by simp
  have hA:=Cn e.log [CO e tx]
  have hM:=JZ hm (Ia h.log tx) p
  have hR:=NQ h (Du e tx) hp
  have hpath:=h.Sz hp hr.ok hr.owner hr.alt
  have hLl : (Bo e tx).log = e.log ++ [CO e tx]:=rfl
  have hds:=h.Lu p hp
  have hs1:=h.s1
  have hdisk : (Bo e tx).disk = e.disk:=rfl
  have hM : pg (Bo e tx).mem p = if Cx (CO e tx).kind = true ∧ (CO e tx).page = p then doR (pg e.mem p) (CO e tx) (e.log.length + 1 : Nat) else pg e.mem p:=hM
  have hR : Di (Bo e tx) p = if Cx (CO e tx).kind = true ∧ (CO e tx).page = p then doR (Di e p) (CO e tx) (e.log.length + 1 : Nat) else Di e p:=hR
  have hcs:=hr.cases
  generalize CO e tx = r at hk hl' hpr hP hlen hlen1 hA hM hR hLl
  cases hk with
  | fin hU =>
    have hno : ¬ (Cx (5 : Int) = true ∧ (0 : Int) = p):=fun hc => by simp [Cx] at hc
    rw [if_neg hno] at hM hR
    have hUA : UA (e.log ++ [⟨5,tx,0,0,0,0,Ao e.log tx e.log.length,0⟩]) (e.log.length + 1) p = UA e.log e.log.length p:=by
      rw [NR hP hlen (by rw [BL]),ES hA p (Nat.le_refl _)]
    have hlo : BF (e.log ++ [⟨5,tx,0,0,0,0,Ao e.log tx e.log.length,0⟩]) p (e.log.length + 1) = BF e.log p e.log.length:=by
      rw [FY (by rw [BL];simp [Cx]),Ee _ hA]
    refine ⟨by rw [hM];exact hr.ok,by rw [hM,hR];exact hr.owner,?_,?_⟩
    · rw [hM,hLl,hlen1];have:=hr.lsn;omega
    · rw [hM,hR,hLl,hlen1,hdisk,hUA,hlo]
      cases hldt : ld e.log tx e.log.length p
      · have hls : lds (e.log ++ [⟨5,tx,0,0,0,0,Ao e.log tx e.log.length,0⟩]) (e.log.length + 1) p = lds e.log e.log.length p:=by
          rw [SB (by rw [BL];rfl) (by rw [BL,GQ hA _ _ (Nat.le_refl _)];exact hldt),Ip hA p (Nat.le_refl _)]
        rw [hls]
        rcases hcs with hc | ⟨a,b,c,d⟩
        · exact .inl hc
        · exact .inr ⟨a,b,c,d.imp id (fun hz => DZ hA.symm (fun m hm => by have:=DR hm;omega) hz)⟩
      · have hhas:=Ma hldt
        have hoth : ∀ s,s ≠ tx → has e.log s e.log.length p = false:=fun s hs => GL h.log h.prop _ (Nat.le_refl _) _ _ _ (Ne.symm hs) hhas
        have hUe : UA e.log e.log.length p = []:=by
          rw [KM h.log h.prop (Nat.le_refl _) ht hoth,F,hU];rfl
        refine .inl ⟨?_,?_⟩
        · rw [Bool.eq_false_iff]
          intro hl
          obtain ⟨t,_,hlt⟩:=Lg.1 hl
          by_cases e1 : tx = t
          · subst e1
            rw [Rv (by rw [BL]) (by rw [BL];rfl)] at hlt
            cases hlt
          · rw [Lh (by rw [BL];exact e1),GQ hA _ _ (Nat.le_refl _)] at hlt
            have:=hoth t (Ne.symm e1)
            rw [Ma hlt] at this
            cases this
        · rcases hcs with hc | ⟨a,b,c,d⟩
          · exact hc.2
          · rcases d with d | d
            · exact d
            · rw [hUe] at d
              obtain ⟨m,hm,_⟩:=d
              cases hm
  | Jq m ms hU h0 hm hkk htx =>
    have hls : lds (e.log ++ [Bq (rc e.log (m - 1)) (Ao e.log tx e.log.length)]) (e.log.length + 1) p = lds e.log e.log.length p:=by
      rw [NC hl' hlen (by rw [BL];rfl) (by rw [BL];simp [Bq]),Ip hA p (Nat.le_refl _)]
    obtain ⟨m',hm',hUA⟩:=PD hl' hP hlen (by rw [BL];rfl)
    rw [BL] at hm' hUA
    have hU2:=hUA p
    rw [ES hA p (Nat.le_refl _)] at hU2
    by_cases hpg : (Bq (rc e.log (m - 1)) (Ao e.log tx e.log.length)).page = p
    · rw [if_pos hpg] at hU2
      rw [if_pos ⟨rfl,hpg⟩] at hM hR
      have hpath':=CY hA.symm (fun m hm => by have:=DR hm;omega) hpath
      rw [hU2] at hpath'
      have hw : ∀ P : Page,Be P (Bq (rc e.log (m - 1)) (Ao e.log tx e.log.length)) = Be P (Bq (rc (e.log ++ [Bq (rc e.log (m - 1)) (Ao e.log tx e.log.length)]) (m' - 1)) 0):=fun P => (congrArg (Be P) hm').trans rfl
      have hok:=Ij hpath'.2
      rw [← hw] at hok
      refine ⟨?_,?_,?_,?_⟩
      · rw [hM,ED]
        exact GI hok (by omega) (by omega)
      · rw [hM,hR,ED,ED]
        exact H9 _ hr.owner
      · rw [hM,hLl,hlen1]
        exact Int.le_refl _
      · rw [hLl,hlen1,hls,hdisk]
        rcases hcs with hc | ⟨a,b,c,d⟩
        · exact .inl ⟨hc.1,by rw [hM,hR,hc.2]⟩
        · refine .inr ⟨a,?_,?_,?_⟩
          · rw [hM,KG (by rw [BL];exact ⟨hpg, .inl rfl⟩)]
            rfl
          · left
            rw [hM]
            show _ < ((e.log.length + 1 : Nat) : Int)
            omega
          · rcases d with d | d
            · exact .inl (by rw [hM,hR,d])
            · have d':=DZ hA.symm (fun m hm => by have:=DR hm;omega) d
              rw [hU2] at d'
              obtain ⟨x,hx,hx1,hx2⟩:=d'
              rcases List.mem_cons.1 hx with rfl | hx
              · left
                have hz : ∀ P : Page,Be P (Bq (rc (e.log ++ [Bq (rc e.log (m - 1)) (Ao e.log tx e.log.length)]) (x - 1)) 0) = ⟨P.lsn,0, [0,0,0]⟩:=fun P => FL (r:=Bq (rc (e.log ++ [Bq (rc e.log (m - 1)) (Ao e.log tx e.log.length)]) (x - 1)) 0) hx1 hx2
                rw [hM,hR,ED,ED,hw,hw,hz,hz]
              · exact .inr ⟨x,hx,hx1,hx2⟩
    · rw [if_neg hpg] at hU2
      rw [if_neg (fun hc => hpg hc.2)] at hM hR
      have hlo : BF (e.log ++ [Bq (rc e.log (m - 1)) (Ao e.log tx e.log.length)]) p (e.log.length + 1) = BF e.log p e.log.length:=by
        rw [FY (by rw [BL];exact fun hc => hpg hc.1),Ee _ hA]
      refine ⟨by rw [hM];exact hr.ok,by rw [hM,hR];exact hr.owner,?_,?_⟩
      · rw [hM,hLl,hlen1];have:=hr.lsn;omega
      · rw [hM,hR,hLl,hlen1,hdisk,hls,hlo, ← hU2]
        rcases hcs with hc | ⟨a,b,c,d⟩
        · exact .inl hc
        · exact .inr ⟨a,b,c,d.imp id (fun hz => DZ hA.symm (fun m hm => by have:=DR hm;omega) hz)⟩
def Apt (M : Page) (r : Rec) : Prop:=
  (r.kind = 1 ∧ M.owner ≠ 0 ∧ 0 ≤ r.slot ∧ r.slot ≤ 2 ∧ 0 ≤ r.new ∧ r.new ≤ 9 ∧ r.old = iv M.vals r.slot.toNat) ∨
  (r.kind = 2 ∧ r.slot = -1 ∧ 0 ≤ r.new ∧ r.new ≤ 3 ∧ (M.owner = 0 ↔ r.new ≠ 0) ∧ M.vals = [0,0,0] ∧ r.old = M.owner)
theorem Apt.kind {M : Page} {r : Rec} (h : Apt M r) : r.kind = 1 ∨ r.kind = 2:=by rcases h with h | h;exact .inl h.1;exact .inr h.1
theorem Apt.chg {M : Page} {r : Rec} (h : Apt M r) : Cx r.kind = true:=by rcases h.kind with h | h <;> (rw [h];rfl)
theorem UI {M : Page} (h : Bv M = true) {k : Nat} (hk : k < 3) : 0 ≤ iv M.vals k ∧ iv M.vals k ≤ 9:=by
  rw [Cg] at h
  have:=h.2.2.2.2.2 _ (Wt (l:=M.vals) (k:=k) (by omega))
  omega
theorem Apt.old {M : Page} {r : Rec} (h : Apt M r) (hM : Bv M = true) : 0 ≤ r.old ∧ r.old ≤ (if r.slot = -1 then 3 else 9):=by
  rcases h with h | h
  · have:=UI hM (k:=r.slot.toNat) (by omega)
    rw [if_neg (by omega),h.2.2.2.2.2.2]
    exact this
  · rw [if_pos h.2.1,h.2.2.2.2.2.2]
    rw [Cg] at hM
    exact ⟨hM.2.2.1,hM.2.2.2.1⟩
theorem Wd {vs : List Int} {i : Nat} (h : i < vs.length) : vs.set i (iv vs i) = vs:=by
  apply List.ext_getElem?
  intro j
  rw [List.getElem?_set]
  split
  · rename_i e
    subst e
    simp [iv,List.getD_eq_getElem?_getD,h]
  · rfl
theorem Apt.page {M R : Page} {r : Rec} {n : Int} (ha : Apt M r) (hM : Bv M = true) (hR : Bv R = true) (ho : M.owner = R.owner) (h0 : 0 ≤ n) (h1 : n ≤ 150) :
    Bv (doR R r n) = true ∧ Bv (Be (doR R r n) (Bq r 0)) = true ∧ (Be (doR R r n) (Bq r 0)).owner = R.owner ∧ (M = R → (Be (doR R r n) (Bq r 0)).vals = R.vals):=by
  have hold:=ha.old hM
  have hR':=Cg.1 hR
  rcases ha with ⟨_,a1,a2,a3,a4,a5,a6⟩ | ⟨_,a1,a2,a3,a4,a5,a6⟩
  · rw [if_neg (by omega)] at hold
    have e1 : doR R r n = ⟨n,R.owner,R.vals.set r.slot.toNat r.new⟩:=by rw [doR,Be,if_pos a2]
    have e2 : Be (doR R r n) (Bq r 0) = ⟨n,R.owner,R.vals.set r.slot.toNat r.old⟩:=by
      rw [e1,Be,if_pos (show 0 ≤ (Bq r 0).slot from a2)]
      show (⟨n,R.owner,(R.vals.set r.slot.toNat r.new).set r.slot.toNat r.old⟩ : Page) = _
      rw [List.set_set]
    have hR0 : R.owner ≠ 0:=by rw [← ho];exact a1
    have hset : ∀ v : Int,0 ≤ v → v ≤ 9 → Bv ⟨n,R.owner,R.vals.set r.slot.toNat v⟩ = true:=fun v v0 v9 => by
      rw [Cg]
      refine ⟨h0,h1,hR'.2.2.1,hR'.2.2.2.1,by simpa using hR'.2.2.2.2.1,fun x hx => ?_⟩
      rcases Ql hx with hx | rfl
      · exact hR'.2.2.2.2.2 x hx
      · exact ⟨v0,v9,fun e => absurd e hR0⟩
    refine ⟨by rw [e1];exact hset _ a4 a5,by rw [e2];exact hset _ hold.1 hold.2,by rw [e2],fun e => ?_⟩
    rw [e2]
    show R.vals.set _ _ = R.vals
    rw [a6,e]
    exact Wd (by omega)
  · have hs : r.slot < 0:=by omega
    by_cases hn : r.new = 0
    · have hM0 : M.owner ≠ 0:=fun e => (a4.1 e) hn
      have e1 : doR R r n = ⟨n,0, [0,0,0]⟩:=by rw [doR,FL hs hn]
      have e2 : Be (doR R r n) (Bq r 0) = ⟨n,r.old, [0,0,0]⟩:=by
        rw [e1,Be,if_neg (show ¬ 0 ≤ (Bq r 0).slot by simp only [Bq];omega),if_neg (show ¬ (Bq r 0).new = 0 by simp only [Bq];rw [a6];exact hM0)]
        rfl
      have hz : ∀ o : Int,0 ≤ o → o ≤ 3 → Bv ⟨n,o, [0,0,0]⟩ = true:=fun o o0 o3 => by
        rw [Cg]
        exact ⟨h0,h1,o0,o3,rfl,fun x hx => by simp at hx;rw [hx];simp⟩
      refine ⟨by rw [e1];exact hz 0 (by omega) (by omega),by rw [e2];exact hz _ hold.1 (by rw [if_pos a1] at hold;exact hold.2),by rw [e2,a6,ho],fun e => ?_⟩
      rw [e2, ← e,a5]
    · have hM0 : M.owner = 0:=a4.2 hn
      have hRz : R.vals = [0,0,0]:=U9 hR'.2.2.2.2.1 (fun x hx => (hR'.2.2.2.2.2 x hx).2.2 (by rw [← ho];exact hM0))
      have e1 : doR R r n = ⟨n,r.new, [0,0,0]⟩:=by rw [doR,Be,if_neg (by omega),if_neg hn,hRz]
      have e2 : Be (doR R r n) (Bq r 0) = ⟨n,0, [0,0,0]⟩:=by
        rw [FL (show (Bq r 0).slot < 0 from hs) (show (Bq r 0).new = 0 by simp only [Bq];rw [a6,hM0]),e1]
      have hz : ∀ o : Int,0 ≤ o → o ≤ 3 → Bv ⟨n,o, [0,0,0]⟩ = true:=fun o o0 o3 => by
        rw [Cg]
        exact ⟨h0,h1,o0,o3,rfl,fun x hx => by simp at hx;rw [hx];simp⟩
      refine ⟨by rw [e1];exact hz _ a2 a3,by rw [e2];exact hz 0 (by omega) (by omega),by rw [e2, ← ho,hM0],fun _ => ?_⟩
      rw [e2,hRz]
theorem Core.Lc {e : Eng} {C : Nat → Page} {B : Nat} (h : Core e C B) : e.log.length ≤ B:=by
  have:=h.room e.log.length (Nat.le_refl _)
  omega
theorem Ox {l : List Rec} {r : Rec} {t : Int} (ht : t = 1 ∨ t = 2 ∨ t = 3) (hr : r.tx = t) (hU : (U (l ++ [r]) t (l.length + 1)).length ≤ (U l t l.length).length + 1) : Br (l ++ [r]) (l.length + 1) ≤ Br l l.length + 2:=by
  have hs:=JC (l:=l ++ [r]) (n:=l.length) (t:=t) (by rw [BL,hr]) ht
  rw [KC,Ps] at hs
  have e1 : cst (l ++ [r]) t (l.length + 1) ≤ (U l t l.length).length + 2:=by
    rw [cst]
    split <;> omega
  have e2 : (U l t l.length).length ≤ cst l t l.length:=by rw [cst];omega
  omega
theorem UpC.more {l : List Rec} {r : Rec} (h : UpC l) (hl : AP (l ++ [r]) = true) (hk : r.kind ≠ 6) : UpC (l ++ [r]):=by
  intro t m hm
  have hA:=Cn l [r]
  have hlen : l.length < (l ++ [r]).length:=by simp
  have hlen1 : (l ++ [r]).length = l.length + 1:=by simp
  have old : ∀ t, ∀ m ∈ Ch (l ++ [r]) t l.length,(rc (l ++ [r]) (m - 1)).kind ≠ 6:=fun t m hm => by
    rw [R4 hA t (Nat.le_refl _)] at hm
    have h1:=Eg _ m hm
    have h2:=Bb l t l.length
    rw [M4 (by omega)]
    exact h t m hm
  rw [hlen1] at hm
  by_cases e1 : (rc (l ++ [r]) l.length).tx = t
  · subst e1
    cases he : EI (rc (l ++ [r]) l.length).kind
    · rw [LK hl hlen he] at hm
      rcases List.mem_cons.1 hm with rfl | hm
      · rw [Nat.add_sub_cancel,BL];exact hk
      · exact old _ m hm
    · rw [WN rfl he] at hm;cases hm
  · rw [NW e1] at hm
    exact old t m hm
theorem Inv.chg {e : Eng} {C : Nat → Page} {B : Nat} (h : Inv e C B) (hup : e.down = false) {r : Rec} {p : Nat} (hp : p < 5) (hpg : r.page = p) (ht : r.tx = 1 ∨ r.tx = 2 ∨ r.tx = 3) (ha : Apt (pg e.mem p) r) (hnx : r.next = 0) (hfree : ∀ t,t ≠ r.tx → has e.log t e.log.length p = false) (hB : B + 3 ≤ 150) : Inv (e.app r) C (B + 3):=by
  have hc:=h.core
  have hm:=h.upm hup
  have hMp:=hm p hp
  have hle:=Bb e.log r.tx e.log.length
  have hn:=hc.Lc
  have hold:=ha.old hMp.ok
  have hs1:=hc.s1
  obtain ⟨r',hr'⟩ : ∃ r' : Rec,{ r with prev:=(Ao e.log r.tx e.log.length : Int) } = r':=⟨_,rfl⟩
  have k1 : r'.kind = r.kind:=by rw [← hr']
  have k2 : r'.tx = r.tx:=by rw [← hr']
  have k3 : r'.page = r.page:=by rw [← hr']
  have k4 : r'.slot = r.slot:=by rw [← hr']
  have k5 : r'.old = r.old:=by rw [← hr']
  have k6 : r'.new = r.new:=by rw [← hr']
  have k7 : r'.prev = Ao e.log r.tx e.log.length:=by rw [← hr']
  have k8 : r'.next = r.next:=by rw [← hr']
  have hkind : r'.kind = 1 ∨ r'.kind = 2:=by rw [k1];exact ha.kind
  have hdo : ∀ P n,doR P r' n = doR P r n:=fun P n => by rw [← hr'];rfl
  have hbk : ∀ P,Be P (Bq r' 0) = Be P (Bq r 0):=fun P => by rw [← hr'];rfl
  have hok : CU r' = true:=by
    rw [D7,k1,k2,k3,k4,k5,k6,k7,k8]
    rcases ha with ⟨a0,a1,a2,a3,a4,a5,a6⟩ | ⟨a0,a1,a2,a3,a4,a5,a6⟩
    · rw [if_neg (by omega)] at hold
      omega
    · rw [if_pos a1] at hold
      omega
  have hl' : AP (e.log ++ [r']) = true:=IQ hc.log hok (by rw [k7,k2]) (by rw [k8,hnx];omega) (.inl (by rw [k8,hnx];omega)) (by omega)
  have hA:=Cn e.log [r']
  have hlen : e.log.length < (e.log ++ [r']).length:=by simp
  have hlen1 : (e.log ++ [r']).length = e.log.length + 1:=by simp
  have hrl : rc (e.log ++ [r']) e.log.length = r':=BL _ _
  have hpr : Gt (e.log ++ [r']) e.log.length:=by
    refine ⟨?_,?_,?_,?_,?_⟩
    all_goals rw [hrl]
    · rw [k1,k5,k6]
      intro h2 hnew
      rcases ha with ha | ha
      · omega
      · rw [ha.2.2.2.2.2.2];exact ha.2.2.2.2.1.2 hnew
    · intro hk;omega
    · intro hk;omega
    · intro he;rw [Eb (by omega)] at he;cases he
    · intro _ t htn
      rw [k2] at htn
      rw [JW hA _ _ (Nat.le_refl _),k3,hpg]
      exact hfree t htn
  have hP:=F6 hc.prop hpr
  have hUA:=fun q => RU hl' hP hlen (by rw [hrl];exact hkind) q
  have hroom : e.log.length + 1 + Br (e.log ++ [r']) (e.log.length + 1) ≤ B + 3:=by
    have h1:=hc.room e.log.length (Nat.le_refl _)
    have h2:=Ox (l:=e.log) (r:=r') ht k2 (by
      have:=Tc hl' hlen (by rw [hrl];exact hkind)
      rw [hrl,k2] at this
      rw [this,List.length_cons,Gs hA _ (Nat.le_refl _)];exact Nat.le_refl _)
    omega
  have hch : Cx r'.kind = true:=by rw [k1];exact ha.chg
  have hRok:=fun q (hq : q < 5) => hc.rok (p:=q) hq hs1 (Nat.le_refl _)
  have hap:=ha.page (n:=(e.log.length + 1 : Nat)) hMp.ok (hRok p hp) hMp.owner (by omega) (by omega)
  have hapM:=ha.page (R:=pg e.mem p) (n:=(e.log.length + 1 : Nat)) hMp.ok hMp.ok rfl (by omega) (by omega)
  have hE : e.app r = { e with log:=e.log ++ [r'],mem:=e.mem.set r.page.toNat (doR (pg e.mem r.page.toNat) r (e.log.length + 1 : Nat)) }:=by
    rw [← hr',Eng.app,if_pos ha.chg]
  have hM:=fun q => JZ h.mlen (r:=r) (fun _ => by omega) q
  have hR:=fun q (hq : q < 5) => NQ hc r hq
  have hpathR:=fun q (hq : q < 5) => CY hA.symm (fun m hm => by have:=DR hm;omega) (hc.good e.log.length hs1 (Nat.le_refl _) q hq)
  have hcore : Core { e with log:=e.log ++ [r'] } C (B + 3):=by
    refine Core.snoc hc (by omega) hB hl' hpr (by omega) hroom fun q hq => ?_
    have hrq:=hc.Vn (p:=q) hq hs1
    rw [hUA q,hrl,k3,GD,k3,ES hA q (Nat.le_refl _)]
    by_cases e1 : r.page = q
    · obtain rfl : q = p:=by omega
      rw [if_pos e1,if_pos ⟨hch,e1,by omega⟩,hdo]
      refine ⟨hap.1,?_⟩
      rw [Nat.add_sub_cancel,hrl,hbk]
      rcases hMp.alt with hal | hal
      · have hv:=hap.2.2.2 hal
        have ho:=hap.2.2.1
        have hpx:=IL (k:=(e.log.length + 1 : Nat)) (by omega) (by omega) (hpathR q hq)
        rw [← ho, ← hv] at hpx
        have hls : (Be (doR (C9 (pg e.disk q) e.log q e.log.length) r (e.log.length + 1 : Nat)) (Bq r 0)).lsn = (e.log.length + 1 : Nat):=by rw [JK];rfl
        rw [show Be (doR (C9 (pg e.disk q) e.log q e.log.length) r (e.log.length + 1 : Nat)) (Bq r 0) = ⟨(e.log.length + 1 : Nat),_,_⟩ from Qe hls rfl rfl]
        exact hpx
      · exact JA (fun m hm => by rw [M4 (by have:=DR hm;omega)];exact Td hc.log (Nat.le_refl _) m hm) (DZ hA.symm (fun m hm => by have:=DR hm;omega) hal) hap.2.1 hap.2.2.1 (hpathR q hq)
    · rw [if_neg e1,if_neg (fun hx => e1 hx.2.1)]
      exact hpathR q hq
  refine ⟨?_,by rw [LA];exact h.mlen,fun hd => ?_,fun _ => ?_,fun _ q hq => ?_⟩
  · rw [hE]
    exact hcore.mem _ _
  · rw [hE] at hd
    rw [show e.down = true from hd] at hup;cases hup
  · rw [hE]
    exact (h.upc hup).more hl' (by omega)
  · have hMq:=hm q hq
    have hls : lds (e.log ++ [r']) (e.log.length + 1) q = lds e.log e.log.length q:=by
      rw [NC hl' hlen (by rw [hrl];exact Eb (by omega)) (by rw [hrl];omega),Ip hA q (Nat.le_refl _)]
    have hd:=hc.Lu q hq
    have hLl : (e.app r).log = e.log ++ [r']:=by rw [hE]
    have hdk : (e.app r).disk = e.disk:=rfl
    have hMx:=hM q
    have hRx:=hR q hq
    have hUq:=hUA q
    rw [hrl,k3,ES hA q (Nat.le_refl _)] at hUq
    by_cases e1 : r.page = q
    · obtain rfl : q = p:=by omega
      rw [if_pos ⟨ha.chg,e1⟩] at hMx hRx
      rw [if_pos e1] at hUq
      refine ⟨by rw [hMx];exact hapM.1,?_,?_,?_⟩
      · rw [hMx,hRx,ED,ED]
        exact H9 _ hMq.owner
      · rw [hMx,hLl,hlen1];exact Int.le_refl _
      · rw [hLl,hlen1,hls,hdk]
        rcases hMq.cases with hx | ⟨a,b,c,d⟩
        · exact .inl ⟨hx.1,by rw [hMx,hRx,hx.2]⟩
        · refine .inr ⟨a,?_, .inl ?_,?_⟩
          · rw [hMx,KG (by rw [hrl,k3];exact ⟨e1, .inl hch⟩)];rfl
          · rw [hMx];show _ < ((e.log.length + 1 : Nat) : Int);omega
          · rcases d with d | d
            · exact .inl (by rw [hMx,hRx,d])
            · right
              rw [hUq]
              obtain ⟨x,hx,h1,h2⟩:=DZ hA.symm (fun m hm => by have:=DR hm;omega) d
              exact ⟨x,List.mem_cons_of_mem _ hx,h1,h2⟩
    · rw [if_neg (fun hx => e1 hx.2)] at hMx hRx
      rw [if_neg e1] at hUq
      refine ⟨by rw [hMx];exact hMq.ok,by rw [hMx,hRx];exact hMq.owner,?_,?_⟩
      · rw [hMx,hLl,hlen1];have:=hMq.lsn;omega
      · rw [hMx,hRx,hLl,hlen1,hls,hdk,hUq,FY (by rw [hrl,k3];exact fun hx => e1 hx.1),Ee _ hA]
        rcases hMq.cases with hx | ⟨a,b,c,d⟩
        · exact .inl hx
        · exact .inr ⟨a,b,c,d.imp id (fun hz => DZ hA.symm (fun m hm => by have:=DR hm;omega) hz)⟩
theorem OM {l : List Rec} (hl : AP l = true) (n : Nat) : n ≤ l.length → (∀ m ∈ BD l n,(rc l (m - 1)).kind ≠ 6) → ∀ m ∈ BD l n,(rc l (m - 1)).kind = 1 ∨ (rc l (m - 1)).kind = 2 → m ∈ CW l n:=by
  induction n using Nat.strongRecOn with
  | _ n ih =>
    intro hn h6 m hm hk
    match n with
    | 0 => rw [Ck] at hm;cases hm
    | n + 1 =>
      have FF:=AB hl (k:=n) (by omega)
      have hp:=FF.prev_le
      rw [DV hp] at hm h6
      have ih':=ih (BK l (n + 1)) (by omega) (by omega) (fun x hx => h6 x (List.mem_cons_of_mem _ hx)) m
      have hk6 : (rc l n).kind ≠ 6:=by have:=h6 (n + 1) (by simp);simpa using this
      by_cases hk1 : (rc l n).kind = 1 ∨ (rc l n).kind = 2
      · rw [KS hk1 hp]
        rcases List.mem_cons.1 hm with rfl | hm
        · simp
        · exact List.mem_cons_of_mem _ (ih' hm hk)
      · rw [LV (by omega) (by omega) hk6 hp]
        rcases List.mem_cons.1 hm with rfl | hm
        · rw [Nat.add_sub_cancel] at hk;exact absurd hk hk1
        · exact ih' hm hk
theorem MG {l : List Rec} {p : Int} : ∀ {n k : Nat},k < n → BF l p n < k + 1 → ¬ ((rc l k).page = p ∧ (Cx (rc l k).kind = true ∨ (rc l k).kind = 3))
  | 0,k,hk,_ => by omega
  | n + 1,k,hk,h => by
    rw [BF] at h
    split at h
    · omega
    · rename_i hc
      rcases Nat.eq_or_lt_of_le (Nat.le_of_lt_succ hk) with rfl | hlt
      · exact hc
      · exact MG hlt h
theorem PL.calm {e : Eng} {p : Nat} (h : PL e p) : ∀ k,k < e.log.length → (pg e.mem p).lsn < (k + 1 : Nat) → ¬ SS e.log p k:=by
  intro k hk hlt
  rcases h.cases with ⟨_,h2⟩ | ⟨_,h2,_⟩
  · rw [h2] at hlt
    exact Nt hk hlt
  · intro hc
    exact MG (p:=(p : Int)) hk (by omega) ⟨hc.2, .inl hc.1⟩
theorem Inv.load {e : Eng} {C : Nat → Page} {B : Nat} (h : Inv e C B) (hup : e.down = false) {tx : Int} {p : Nat} {vals : List Int} (hp : p < 5) (ht : tx = 1 ∨ tx = 2 ∨ tx = 3) (ho : (pg e.mem p).owner ≠ 0) (hv : vals.length = 3 ∧ ∀ x ∈ vals,0 ≤ x ∧ x ≤ 9) (hfree : ∀ t,t ≠ tx → has e.log t e.log.length p = false)
    (htook : ∃ m ∈ Ch e.log tx e.log.length,(rc e.log (m - 1)).kind = 2 ∧ (rc e.log (m - 1)).page = p ∧ (rc e.log (m - 1)).new ≠ 0) (hB : B + 3 ≤ 150) :
    Inv { e with log:=e.log ++ [⟨3,tx,p,0,0,0,Ao e.log tx e.log.length,0⟩],mem:=e.mem.set p ⟨(e.log.length + 1 : Nat),(pg e.mem p).owner,vals⟩ } C (B + 3):=by
  have hc:=h.core
  have hm:=h.upm hup
  have hle:=Bb e.log tx e.log.length
  have hn:=hc.Lc
  have hs1:=hc.s1
  obtain ⟨r',hr'⟩ : ∃ r' : Rec,(⟨3,tx,p,0,0,0,Ao e.log tx e.log.length,0⟩ : Rec) = r':=⟨_,rfl⟩
  rw [hr']
  have k1 : r'.kind = 3:=by rw [← hr']
  have k2 : r'.tx = tx:=by rw [← hr']
  have k3 : r'.page = p:=by rw [← hr']
  have hok : CU r' = true:=by
    rw [← hr',D7]
    exact ⟨.inr (.inr (.inl ⟨rfl,(by show (0 : Int) ≤ (p : Int);omega),(by show (p : Int) ≤ 4;omega),rfl,rfl,rfl,rfl⟩)),(by show 1 ≤ tx;omega),(by show tx ≤ 3;omega),(by show (0 : Int) ≤ (Ao e.log tx e.log.length : Int);omega),(by show (Ao e.log tx e.log.length : Int) ≤ 150;omega)⟩
  have hl' : AP (e.log ++ [r']) = true:=IQ hc.log hok (by rw [← hr']) (by rw [← hr'];simp) (.inl (by rw [← hr'];exact Int.le_refl _)) (by omega)
  have hA:=Cn e.log [r']
  have hlen : e.log.length < (e.log ++ [r']).length:=by simp
  have hlen1 : (e.log ++ [r']).length = e.log.length + 1:=by simp
  have hrl : rc (e.log ++ [r']) e.log.length = r':=BL _ _
  have hpr : Gt (e.log ++ [r']) e.log.length:=by
    refine ⟨?_,?_,?_,?_,?_⟩
    all_goals rw [hrl]
    · intro hk;omega
    · intro hk;omega
    · intro hk;omega
    · intro he;rw [Eb (by omega)] at he;cases he
    · intro _ t htn
      rw [k2] at htn
      rw [JW hA _ _ (Nat.le_refl _),k3]
      exact hfree t htn
  have hP:=F6 hc.prop hpr
  have hUA:=fun q => Te hl' hlen (by rw [hrl];exact k1) q
  have hUA' : ∀ q,UA (e.log ++ [r']) (e.log.length + 1) q = UA e.log e.log.length q:=fun q => by rw [hUA q,ES hA q (Nat.le_refl _)]
  have hroom : e.log.length + 1 + Br (e.log ++ [r']) (e.log.length + 1) ≤ B + 3:=by
    have h1:=hc.room e.log.length (Nat.le_refl _)
    have h2:=Ox (l:=e.log) (r:=r') ht k2 (by
      have:=RS hl' hlen (by rw [hrl];exact k1)
      rw [hrl,k2] at this
      rw [this,Gs hA _ (Nat.le_refl _)];omega)
    omega
  have hno : ∀ q : Nat, ¬ (Cx r'.kind = true ∧ r'.page = (q : Int) ∧ (C9 (pg e.disk q) e.log q e.log.length).lsn < (e.log.length + 1 : Nat)):=fun q hx => by rw [k1] at hx;simp [Cx] at hx
  have hrd : ∀ q : Nat,C9 (pg e.disk q) (e.log ++ [r']) q (e.log.length + 1) = C9 (pg e.disk q) e.log q e.log.length:=fun q => by rw [GD,if_neg (hno q)]
  have hcore : Core { e with log:=e.log ++ [r'] } C (B + 3):=by
    refine Core.snoc hc (by omega) hB hl' hpr (by omega) hroom fun q hq => ?_
    rw [hUA',hrd]
    exact CY hA.symm (fun m hm => by have:=DR hm;omega) (hc.good e.log.length hs1 (Nat.le_refl _) q hq)
  refine ⟨hcore.mem _ _,by simpa using h.mlen,fun hd => ?_,fun _ => (h.upc hup).more hl' (by omega),fun _ q hq => ?_⟩
  · rw [show e.down = true from hd] at hup;cases hup
  · have hMq:=hm q hq
    have hd:=hc.Lu q hq
    have hRx : Di ({ e with log:=e.log ++ [r'],mem:=e.mem.set p ⟨(e.log.length + 1 : Nat),(pg e.mem p).owner,vals⟩ } : Eng) q = Di e q:=by
      show C9 (pg e.disk q) (e.log ++ [r']) q (e.log ++ [r']).length = _
      rw [hlen1,hrd];rfl
    have hMx : pg (e.mem.set p ⟨(e.log.length + 1 : Nat),(pg e.mem p).owner,vals⟩) q = if p = q then ⟨(e.log.length + 1 : Nat),(pg e.mem p).owner,vals⟩ else pg e.mem q:=Fg (by rw [h.mlen];exact hp)
    by_cases e1 : p = q
    · subst e1
      rw [if_pos rfl] at hMx
      have hMo:=Cg.1 hMq.ok
      have hls : lds (e.log ++ [r']) (e.log.length + 1) p = true:=by
        rw [Lg]
        refine ⟨tx,ht,?_⟩
        have:=SC hl' hlen (by rw [hrl];exact Eb (by omega)) p
        rw [hrl,k2] at this
        rw [this,k1,k3]
        simp
      refine ⟨?_,?_,?_, .inr ⟨?_,?_, .inl ?_, .inr ?_⟩⟩
      · show Bv (pg (e.mem.set p _) p) = true
        rw [hMx,Cg]
        exact ⟨by show (0 : Int) ≤ ((e.log.length + 1 : Nat) : Int);omega,by show ((e.log.length + 1 : Nat) : Int) ≤ 150;omega,hMo.2.2.1,hMo.2.2.2.1,hv.1,fun x hx => ⟨(hv.2 x hx).1,(hv.2 x hx).2,fun e => absurd e ho⟩⟩
      · rw [hRx]
        show (pg (e.mem.set p _) p).owner = _
        rw [hMx]
        exact hMq.owner
      · show (pg (e.mem.set p _) p).lsn ≤ ((e.log ++ [r']).length : Int)
        rw [hMx,hlen1]
        exact Int.le_refl _
      · show lds (e.log ++ [r']) (e.log ++ [r']).length p = true
        rw [hlen1];exact hls
      · show (pg (e.mem.set p _) p).lsn = (BF (e.log ++ [r']) p (e.log ++ [r']).length : Int)
        rw [hMx,hlen1,KG (by rw [hrl];exact ⟨k3, .inr k1⟩)]
      · show (pg e.disk p).lsn < (pg (e.mem.set p _) p).lsn
        rw [hMx]
        show _ < ((e.log.length + 1 : Nat) : Int)
        omega
      · show Po (e.log ++ [r']) (UA (e.log ++ [r']) (e.log ++ [r']).length p)
        rw [hlen1,hUA']
        refine DZ hA.symm (fun m hm => by have:=DR hm;omega) ?_
        obtain ⟨m,h1,h2,h3,h4⟩:=htook
        have hmU : m ∈ U e.log tx e.log.length:=OM hc.log _ hle (fun x hx => h.upc hup tx x hx) m h1 (.inr h2)
        have hmb:=MR hmU
        have hrec:=(AB hc.log (k:=m - 1) (by omega)).ok
        have hprop:=(hc.prop (m - 1) (by omega)).own h2 h4
        rw [D7] at hrec
        refine ⟨m,?_,by omega,hprop⟩
        rw [KM hc.log hc.prop (Nat.le_refl _) ht hfree,F,List.mem_filter]
        exact ⟨hmU,by simpa using h3⟩
    · rw [if_neg e1] at hMx
      have hls : lds (e.log ++ [r']) (e.log.length + 1) q = lds e.log e.log.length q:=by
        rw [NC hl' hlen (by rw [hrl];exact Eb (by omega)) (by rw [hrl,k3];omega),Ip hA q (Nat.le_refl _)]
      have hlo : BF (e.log ++ [r']) q (e.log.length + 1) = BF e.log q e.log.length:=by
        rw [FY (by rw [hrl,k3];omega),Ee _ hA]
      refine ⟨?_,?_,?_,?_⟩
      · show Bv (pg (e.mem.set p _) q) = true
        rw [hMx];exact hMq.ok
      · rw [hRx]
        show (pg (e.mem.set p _) q).owner = _
        rw [hMx];exact hMq.owner
      · show (pg (e.mem.set p _) q).lsn ≤ ((e.log ++ [r']).length : Int)
        rw [hMx,hlen1];have:=hMq.lsn;omega
      · rw [hRx]
        show (lds (e.log ++ [r']) (e.log ++ [r']).length q = false ∧ pg (e.mem.set p _) q = Di e q) ∨ (lds (e.log ++ [r']) (e.log ++ [r']).length q = true ∧ (pg (e.mem.set p _) q).lsn = (BF (e.log ++ [r']) q (e.log ++ [r']).length : Int) ∧ ((pg e.disk q).lsn < (pg (e.mem.set p _) q).lsn ∨ pg (e.mem.set p _) q = pg e.disk q) ∧ (pg (e.mem.set p _) q = Di e q ∨ Po (e.log ++ [r']) (UA (e.log ++ [r']) (e.log ++ [r']).length q)))
        rw [hMx,hlen1,hls,hlo,hUA']
        rcases hMq.cases with hx | ⟨a,b,c,d⟩
        · exact .inl hx
        · exact .inr ⟨a,b,c,d.imp id (fun hz => DZ hA.symm (fun m hm => by have:=DR hm;omega) hz)⟩
def FH (e : Eng) (tx : Int) : List Page:=(List.range 5).map fun p : Nat => if ld e.log tx e.log.length p = true then pg e.mem p else pg e.disk p
theorem Jy (e : Eng) (tx : Int) {p : Nat} (hp : p < 5) : pg (FH e tx) p = if ld e.log tx e.log.length p = true then pg e.mem p else pg e.disk p:=by
  simp [pg,FH,List.getD_eq_getElem?_getD,hp]
def DN (e : Eng) (tx : Int) : Eng:={ e with disk:=FH e tx,log:=e.log ++ [⟨4,tx,0,0,0,0,Ao e.log tx e.log.length,0⟩],safe:=(e.log.length + 1 : Nat) }
def PY (e : Eng) (tx : Int) (C : Nat → Page) (p : Nat) : Page:=if has e.log tx e.log.length p = true then ⟨0,(pg e.mem p).owner,(pg e.mem p).vals⟩ else C p
theorem Inv.UW {e : Eng} {C : Nat → Page} {B : Nat} (h : Inv e C B) (hup : e.down = false) {tx : Int} (ht : tx = 1 ∨ tx = 2 ∨ tx = 3) (hlast : lastT e tx ≠ 0) : Inv (DN e tx) (PY e tx C) B:=by
  have hc:=h.core
  have hm:=h.upm hup
  have hle:=Bb e.log tx e.log.length
  have h150:=hc.one ht hlast
  have hs0:=hc.s0
  have hs1:=hc.s1
  obtain ⟨r',hr'⟩ : ∃ r' : Rec,(⟨4,tx,0,0,0,0,Ao e.log tx e.log.length,0⟩ : Rec) = r':=⟨_,rfl⟩
  unfold DN
  rw [hr']
  have k1 : r'.kind = 4:=by rw [← hr']
  have k2 : r'.tx = tx:=by rw [← hr']
  have hok : CU r' = true:=by
    rw [← hr',D7]
    exact ⟨.inr (.inr (.inr (.inl ⟨.inl rfl,rfl,rfl,rfl,rfl,rfl⟩))),(by show 1 ≤ tx;omega),(by show tx ≤ 3;omega),(by show (0 : Int) ≤ (Ao e.log tx e.log.length : Int);omega),(by show (Ao e.log tx e.log.length : Int) ≤ 150;omega)⟩
  have hl' : AP (e.log ++ [r']) = true:=IQ hc.log hok (by rw [← hr']) (by rw [← hr'];simp) (.inl (by rw [← hr'];exact Int.le_refl _)) h150
  have hA:=Cn e.log [r']
  have hlen : e.log.length < (e.log ++ [r']).length:=by simp
  have hlen1 : (e.log ++ [r']).length = e.log.length + 1:=by simp
  have hrl : rc (e.log ++ [r']) e.log.length = r':=BL _ _
  have hend : EI (rc (e.log ++ [r']) e.log.length).kind = true:=by rw [hrl,k1];rfl
  have htx : (rc (e.log ++ [r']) e.log.length).tx = tx:=by rw [hrl,k2]
  have hpr : Gt (e.log ++ [r']) e.log.length:=by
    refine ⟨?_,?_,?_,?_,?_⟩
    all_goals rw [hrl]
    · intro hk;omega
    · intro hk;omega
    · intro hk;omega
    · intro _;rw [k2,CP tx hA];exact Nat.pos_of_ne_zero hlast
    · intro hk;omega
  have hP:=F6 hc.prop hpr
  have hUA : ∀ q,UA (e.log ++ [r']) (e.log.length + 1) q = if has e.log tx e.log.length q = true then [] else UA e.log e.log.length q:=fun q => by
    rw [VA hl' hP hlen (by rw [hrl];exact k1),htx,JW hA _ _ (Nat.le_refl _),ES hA q (Nat.le_refl _)]
  have hroom : e.log.length + 1 + Br (e.log ++ [r']) (e.log.length + 1) ≤ B:=by
    have h1:=hc.room e.log.length (Nat.le_refl _)
    have hs:=JC (l:=e.log ++ [r']) (n:=e.log.length) (t:=tx) htx ht
    rw [KC,Ps] at hs
    have e1 : cst (e.log ++ [r']) tx (e.log.length + 1) = 0:=by rw [cst,OH htx hend,Iq htx hend];rfl
    have e2 : 1 ≤ cst e.log tx e.log.length:=by rw [cst,if_neg hlast];omega
    omega
  have hoth : ∀ q,has e.log tx e.log.length q = true → lds (e.log ++ [r']) (e.log.length + 1) q = false:=fun q hq => by
    rw [Bool.eq_false_iff]
    intro hl
    obtain ⟨t,_,hlt⟩:=Lg.1 hl
    by_cases e1 : tx = t
    · subst e1
      rw [Rv htx hend] at hlt;cases hlt
    · rw [Lh (by rw [htx];exact e1),GQ hA _ _ (Nat.le_refl _)] at hlt
      have:=GL hc.log hc.prop _ (Nat.le_refl _) _ _ _ e1 hq
      rw [Ma hlt] at this;cases this
  have hrd : ∀ (P : Page) (q : Nat),C9 P (e.log ++ [r']) q (e.log.length + 1) = C9 P e.log q e.log.length:=fun P q => by
    rw [GD,if_neg]
    intro hx
    rw [k1] at hx
    simp [Cx] at hx
  have hRed : ∀ q : Nat,q < 5 → has e.log tx e.log.length q = true → C9 (pg (FH e tx) q) e.log q e.log.length = pg e.mem q:=fun q hq hhas => by
    rw [Jy e tx hq]
    split
    · exact II (hm q hq).calm
    · rename_i hld
      rcases (hm q hq).cases with hx | ⟨a,_⟩
      · exact hx.2.symm
      · obtain ⟨t,_,hlt⟩:=Lg.1 a
        by_cases e1 : tx = t
        · subst e1;exact absurd hlt hld
        · have:=GL hc.log hc.prop _ (Nat.le_refl _) _ _ _ e1 hhas
          rw [Ma hlt] at this;cases this
  have hRed' : ∀ q : Nat,q < 5 → has e.log tx e.log.length q = false → pg (FH e tx) q = pg e.disk q:=fun q hq hhas => by
    rw [Jy e tx hq,if_neg]
    intro hld
    rw [Ma hld] at hhas;cases hhas
  have hcore : Core ({ e with disk:=FH e tx,log:=e.log ++ [r'],safe:=(e.log.length + 1 : Nat) } : Eng) (PY e tx C) B:=by
    refine ⟨by simp [FH],fun q hq => ?_,hl',hP,by show (0 : Int) ≤ ((e.log.length + 1 : Nat) : Int);omega,by show ((e.log.length + 1 : Nat) : Int) ≤ ((e.log ++ [r']).length : Int);rw [hlen1];exact Int.le_refl _,hc.b150,fun n hn => ?_,fun k hk _ => ?_,fun q hq => ?_,fun n hs hn q hq => ?_⟩
    · show Bv (pg (FH e tx) q) = true
      rw [Jy e tx hq]
      split
      · exact (hm q hq).ok
      · exact hc.dok q hq
    · have hn : n ≤ (e.log ++ [r']).length:=hn
      show n + Br (e.log ++ [r']) n ≤ B
      rw [hlen1] at hn
      rcases Nat.lt_or_ge e.log.length n with hlt | hge
      · obtain rfl : n = e.log.length + 1:=by omega
        exact hroom
      · rw [Gj hA hge]
        exact hc.room n hge
    · have hk : k < (e.log ++ [r']).length:=hk
      rw [hlen1] at hk
      show ((k + 1 : Nat) : Int) ≤ ((e.log.length + 1 : Nat) : Int)
      omega
    · show (pg (FH e tx) q).lsn ≤ ((e.log.length + 1 : Nat) : Int)
      have h1:=hc.Lu q hq
      have h2:=(hm q hq).lsn
      rw [Jy e tx hq]
      split <;> omega
    · have hs : ((e.log.length + 1 : Nat) : Int) ≤ n:=hs
      have hn : n ≤ (e.log ++ [r']).length:=hn
      rw [hlen1] at hn
      obtain rfl : n = e.log.length + 1:=by omega
      show Ew (e.log ++ [r']) (PY e tx C q) (UA (e.log ++ [r']) (e.log.length + 1) q) (C9 (pg (FH e tx) q) (e.log ++ [r']) q (e.log.length + 1))
      rw [hUA,hrd]
      unfold PY
      cases hhas : has e.log tx e.log.length q
      · rw [if_neg (by simp),if_neg (by simp),hRed' q hq hhas]
        exact CY hA.symm (fun m hm => by have:=DR hm;omega) (hc.good e.log.length hs1 (Nat.le_refl _) q hq)
      · rw [if_pos rfl,if_pos rfl,hRed q hq hhas]
        exact ⟨(hm q hq).ok,rfl,rfl⟩
  refine ⟨hcore,h.mlen,fun hd => ?_,fun _ => (h.upc hup).more hl' (by omega),fun _ q hq => ?_⟩
  · rw [show e.down = true from hd] at hup;cases hup
  · have hMq:=hm q hq
    have hRx : Di ({ e with disk:=FH e tx,log:=e.log ++ [r'],safe:=(e.log.length + 1 : Nat) } : Eng) q = C9 (pg (FH e tx) q) e.log q e.log.length:=by
      show C9 (pg (FH e tx) q) (e.log ++ [r']) q (e.log ++ [r']).length = _
      rw [hlen1,hrd]
    cases hhas : has e.log tx e.log.length q
    · have hdq:=hRed' q hq hhas
      have hRe : C9 (pg (FH e tx) q) e.log q e.log.length = Di e q:=by rw [hdq];rfl
      have hls : lds (e.log ++ [r']) (e.log.length + 1) q = lds e.log e.log.length q:=by
        rw [SB hend (by rw [htx,GQ hA _ _ (Nat.le_refl _),Bool.eq_false_iff];intro hld;rw [Ma hld] at hhas;cases hhas),Ip hA q (Nat.le_refl _)]
      have hlo : BF (e.log ++ [r']) q (e.log.length + 1) = BF e.log q e.log.length:=by
        rw [FY (by rw [hrl,k1];simp [Cx]),Ee _ hA]
      have hUq:=hUA q
      rw [hhas,if_neg (by simp)] at hUq
      refine ⟨hMq.ok,by rw [hRx,hRe];exact hMq.owner,?_,?_⟩
      · show (pg e.mem q).lsn ≤ ((e.log ++ [r']).length : Int)
        rw [hlen1];have:=hMq.lsn;omega
      · rw [hRx,hRe]
        show (lds (e.log ++ [r']) (e.log ++ [r']).length q = false ∧ pg e.mem q = Di e q) ∨ (lds (e.log ++ [r']) (e.log ++ [r']).length q = true ∧ (pg e.mem q).lsn = (BF (e.log ++ [r']) q (e.log ++ [r']).length : Int) ∧ ((pg (FH e tx) q).lsn < (pg e.mem q).lsn ∨ pg e.mem q = pg (FH e tx) q) ∧ (pg e.mem q = Di e q ∨ Po (e.log ++ [r']) (UA (e.log ++ [r']) (e.log ++ [r']).length q)))
        rw [hlen1,hls,hlo,hUq,hdq]
        rcases hMq.cases with hx | ⟨a,b,c,d⟩
        · exact .inl hx
        · exact .inr ⟨a,b,c,d.imp id (fun hz => DZ hA.symm (fun m hm => by have:=DR hm;omega) hz)⟩
    · have hRe:=hRed q hq hhas
      refine ⟨hMq.ok,by rw [hRx,hRe],?_, .inl ⟨?_,by rw [hRx,hRe]⟩⟩
      · show (pg e.mem q).lsn ≤ ((e.log ++ [r']).length : Int)
        rw [hlen1];have:=hMq.lsn;omega
      · show lds (e.log ++ [r']) (e.log ++ [r']).length q = false
        rw [hlen1];exact hoth q hhas
def CS (e : Eng) (p : Nat) : Eng:={ e with safe:=max e.safe (pg e.mem p).lsn,disk:=e.disk.set p (pg e.mem p) }
theorem Inv.write {e : Eng} {C : Nat → Page} {B : Nat} (h : Inv e C B) (hup : e.down = false) {p : Nat} (hp : p < 5) : Inv (CS e p) C B:=by
  have hc:=h.core
  have hm:=h.upm hup
  have hs0:=hc.s0
  have hs1:=hc.s1
  have hpl:=(hm p hp).lsn
  have hD : ∀ q,pg (e.disk.set p (pg e.mem p)) q = if p = q then pg e.mem p else pg e.disk q:=fun q => Fg (by rw [hc.dlen];exact hp)
  have hcalm:=(hm p hp).calm
  have hcore : Core (CS e p) C B:=by
    refine ⟨by show (e.disk.set p _).length = 5;simpa using hc.dlen,fun q hq => ?_,hc.log,hc.prop,by show 0 ≤ max e.safe _;omega,by show max e.safe (pg e.mem p).lsn ≤ (e.log.length : Int);omega,hc.b150,hc.room,fun k hk h4 => ?_,fun q hq => ?_,fun n hs hn q hq => ?_⟩
    · show Bv (pg (e.disk.set p _) q) = true
      rw [hD]
      split
      · exact (hm p hp).ok
      · exact hc.dok q hq
    · have:=hc.done k hk h4
      show _ ≤ max e.safe _
      omega
    · show (pg (e.disk.set p _) q).lsn ≤ max e.safe _
      have:=hc.Lu q hq
      rw [hD]
      split <;> omega
    · have hs : max e.safe (pg e.mem p).lsn ≤ n:=hs
      show Ew e.log (C q) (UA e.log n q) (C9 (pg (e.disk.set p (pg e.mem p)) q) e.log q n)
      rw [hD]
      split
      · rename_i e1
        subst e1
        rw [II (fun k hk hlt => hcalm k (by have : n ≤ e.log.length:=hn;omega) hlt)]
        have hU : UA e.log e.log.length p = UA e.log n p:=QT hc.log hc.prop hn (Nat.le_refl _) fun k h1 h2 => ⟨hcalm k h2 (by omega),fun h4 => by have:=hc.done k h2 h4;omega⟩
        rw [← hU]
        exact hc.Sz hp (hm p hp).ok (hm p hp).owner (hm p hp).alt
      · exact hc.good n (by omega) hn q hq
  refine ⟨hcore,h.mlen,fun hd => ?_,h.upc,fun _ q hq => ?_⟩
  · rw [show e.down = true from hd] at hup;cases hup
  · have hMq:=hm q hq
    by_cases e1 : p = q
    · subst e1
      have hRx : Di (CS e p) p = pg e.mem p:=by
        show C9 (pg (e.disk.set p (pg e.mem p)) p) e.log p e.log.length = _
        rw [hD,if_pos rfl]
        exact II hcalm
      refine ⟨hMq.ok,by rw [hRx];rfl,hMq.lsn,?_⟩
      rw [hRx]
      rcases hMq.cases with hx | ⟨a,b,c,d⟩
      · exact .inl ⟨hx.1,rfl⟩
      · exact .inr ⟨a,b, .inr (by show _ = pg (e.disk.set p _) p;rw [hD,if_pos rfl];rfl), .inl rfl⟩
    · have hdq : pg (CS e p).disk q = pg e.disk q:=by
        show pg (e.disk.set p _) q = _
        rw [hD,if_neg e1]
      have hRx : Di (CS e p) q = Di e q:=by
        show C9 (pg (CS e p).disk q) e.log q e.log.length = _
        rw [hdq];rfl
      refine ⟨hMq.ok,by rw [hRx];exact hMq.owner,hMq.lsn,?_⟩
      rw [hRx,hdq]
      exact hMq.cases
def G8 (e : Eng) : Eng:={ e with safe:=e.log.length }
theorem Inv.force {e : Eng} {C : Nat → Page} {B : Nat} (h : Inv e C B) (hup : e.down = false) : Inv (G8 e) C B:=by
  have hc:=h.core
  have hs0:=hc.s0
  have hs1:=hc.s1
  refine ⟨⟨hc.dlen,hc.dok,hc.log,hc.prop,by show (0 : Int) ≤ (e.log.length : Int);omega,Int.le_refl _,hc.b150,hc.room,fun k hk h4 => ?_,fun q hq => ?_,fun n hs hn q hq => ?_⟩,h.mlen,fun hd => ?_,h.upc,fun hd q hq => ?_⟩
  · have:=hc.done k hk h4
    show _ ≤ (e.log.length : Int)
    omega
  · have:=hc.Lu q hq
    show (pg e.disk q).lsn ≤ (e.log.length : Int)
    omega
  · have hs : (e.log.length : Int) ≤ n:=hs
    exact hc.good n (by omega) hn q hq
  · rw [show e.down = true from hd] at hup;cases hup
  · have hMq:=h.upm hup q hq
    exact ⟨hMq.ok,hMq.owner,hMq.lsn,hMq.cases⟩
def MF (e : Eng) (left : Int) : Nat:=(max e.safe (min left e.log.length)).toNat
def JG (e : Eng) (left : Int) : Eng:={ e with mem:=e.disk,log:=e.log.take (MF e left),down:=true }
theorem Core.take {e : Eng} {C : Nat → Page} {B : Nat} (h : Core e C B) {n : Nat} (h1 : e.safe ≤ n) (h2 : n ≤ e.log.length) : Core { e with log:=e.log.take n } C B:=by
  have hA:=KL e.log n
  have hl : (e.log.take n).length = n:=by rw [List.length_take];omega
  refine ⟨h.dlen,h.dok,KD h.log n,Qb h.prop n,h.s0,by show e.safe ≤ ((e.log.take n).length : Int);rw [hl];exact h1,h.b150,fun k hk => ?_,fun k hk h4 => ?_,h.Lu,fun k hs hk q hq => ?_⟩
  · have hk : k ≤ (e.log.take n).length:=hk
    show k + Br (e.log.take n) k ≤ B
    rw [Gj hA (by omega)]
    exact h.room k (by omega)
  · have hk : k < (e.log.take n).length:=hk
    have h4 : (rc (e.log.take n) k).kind = 4:=h4
    rw [hA k (by omega)] at h4
    exact h.done k (by omega) h4
  · have hk : k ≤ (e.log.take n).length:=hk
    show Ew (e.log.take n) (C q) (UA (e.log.take n) k q) (C9 (pg e.disk q) (e.log.take n) q k)
    rw [ES hA q (by omega),Hl _ q (hA.le (by omega))]
    exact CY hA.symm (fun m hm => by have:=DR hm;omega) (h.good k hs (by omega) q hq)
theorem NA {e : Eng} {left : Int} (h0 : 0 ≤ e.safe) (h1 : e.safe ≤ e.log.length) : e.safe ≤ MF e left ∧ MF e left ≤ e.log.length:=by
  unfold MF
  omega
theorem Inv.fall {e : Eng} {C : Nat → Page} {B : Nat} (h : Inv e C B) (left : Int) : Inv (JG e left) C B:=by
  have hl:=NA (left:=left) h.core.s0 h.core.s1
  exact ⟨(h.core.take hl.1 hl.2).mem _ _,h.core.dlen,fun _ => rfl,fun hd => (by cases hd),fun hd => (by cases hd)⟩
def Jb (tx : Int) : Nat → Eng → Eng
  | 0,e => e
  | k + 1,e => Jb tx k (Bo e tx)
def DU (e : Eng) (tx : Int) : Eng:=if lastT e tx = 0 then e else Jb tx ((U e.log tx e.log.length).length + 1) e
structure Ei (e : Eng) (C : Nat → Page) (B : Nat) (tx : Int) : Prop where
  core : Core e C B
  mlen : e.mem.length = 5
  up : e.down = false
  oth : ∀ t,t ≠ tx → ∀ m ∈ Ch e.log t e.log.length,(rc e.log (m - 1)).kind ≠ 6
  upm : ∀ p,p < 5 → PL e p
theorem Ib (e : Eng) (tx : Int) : (Bo e tx).log.length = e.log.length + 1:=by rw [JM];simp
theorem Core.PZ {e : Eng} {C : Nat → Page} {B : Nat} (h : Core e C B) {tx : Int} (ht : tx = 1 ∨ tx = 2 ∨ tx = 3) (hlast : lastT e tx ≠ 0) :
    U (Bo e tx).log tx (Bo e tx).log.length = (U e.log tx e.log.length).tail ∧ (∀ t,t ≠ tx → U (Bo e tx).log t (Bo e tx).log.length = U e.log t e.log.length ∧ lastT (Bo e tx) t = lastT e t) ∧ (lastT (Bo e tx) tx = if U e.log tx e.log.length = [] then 0 else e.log.length + 1) ∧ Br (Bo e tx).log (Bo e tx).log.length + 1 = Br e.log e.log.length:=by
  have h1:=h.one ht hlast
  have hk:=EB (e:=e) h.log tx
  have hn:=hk.next h.log (by omega) h1
  have hd:=hk.need h.log ht h1 hlast
  unfold lastT
  rw [Ib,JM]
  exact ⟨hn.1,hn.2.1,hn.2.2,hd⟩
theorem Core.VZ {e : Eng} {C : Nat → Page} {B : Nat} (h : Core e C B) {tx t : Int} (hne : t ≠ tx) : Ch (Bo e tx).log t (Bo e tx).log.length = Ch e.log t e.log.length:=by
  have hk:=EB (e:=e) h.log tx
  rw [Ib,JM,NW (by rw [BL,hk.tx];exact Ne.symm hne),R4 (Cn _ _) t (Nat.le_refl _)]
theorem Ei.step {e : Eng} {C : Nat → Page} {B : Nat} {tx : Int} (h : Ei e C B tx) (ht : tx = 1 ∨ tx = 2 ∨ tx = 3) (hlast : lastT e tx ≠ 0) : Ei (Bo e tx) C B tx:=by
  refine ⟨h.core.step ht hlast,by unfold Bo;rw [LA];exact h.mlen,h.up,fun t hne m hm => ?_,fun p hp => (h.upm p hp).step h.core h.mlen ht hlast hp⟩
  rw [h.core.VZ hne] at hm
  have h1:=Eg _ m hm
  have h2:=Bb e.log t e.log.length
  rw [JM,M4 (by omega)]
  exact h.oth t hne m hm
theorem Ei.all {C : Nat → Page} {B : Nat} {tx : Int} (ht : tx = 1 ∨ tx = 2 ∨ tx = 3) : ∀ (k : Nat) (e : Eng),Ei e C B tx → lastT e tx ≠ 0 → (U e.log tx e.log.length).length = k → Ei (Jb tx (k + 1) e) C B tx ∧ lastT (Jb tx (k + 1) e) tx = 0
  | 0,e,h,hlast,hk => by
    have hs:=h.core.PZ ht hlast
    have h0:=List.eq_nil_of_length_eq_zero hk
    refine ⟨h.step ht hlast,?_⟩
    show lastT (Bo e tx) tx = 0
    rw [hs.2.2.1,if_pos h0]
  | k + 1,e,h,hlast,hk => by
    have hs:=h.core.PZ ht hlast
    have hne : U e.log tx e.log.length ≠ []:=fun h0 => by rw [h0] at hk;cases hk
    exact Ei.all ht k (Bo e tx) (h.step ht hlast) (by rw [hs.2.2.1,if_neg hne];omega) (by rw [hs.1,List.length_tail,hk];omega)
theorem Nc {e : Eng} {t : Int} (h : lastT e t = 0) : Ch e.log t e.log.length = []:=by
  rw [Ch,show Ao e.log t e.log.length = 0 from h,Ck]
theorem Inv.und {e : Eng} {C : Nat → Page} {B : Nat} (h : Inv e C B) (hup : e.down = false) (tx : Int) : Ei e C B tx:=⟨h.core,h.mlen,hup,fun t _ => h.upc hup t,h.upm hup⟩
theorem Ei.inv {e : Eng} {C : Nat → Page} {B : Nat} {tx : Int} (h : Ei e C B tx) (h0 : lastT e tx = 0) : Inv e C B:=by
  refine ⟨h.core,h.mlen,fun hd => ?_,fun _ t m hm => ?_,fun _ => h.upm⟩
  · rw [h.up] at hd;cases hd
  · by_cases e1 : t = tx
    · subst e1
      rw [Nc h0] at hm;cases hm
    · exact h.oth t e1 m hm
theorem Inv.Jq {e : Eng} {C : Nat → Page} {B : Nat} (h : Inv e C B) (hup : e.down = false) {tx : Int} (ht : tx = 1 ∨ tx = 2 ∨ tx = 3) : Inv (DU e tx) C B ∧ lastT (DU e tx) tx = 0 ∧ (DU e tx).down = false:=by
  unfold DU
  split
  · rename_i h0
    exact ⟨h,h0,hup⟩
  · rename_i h0
    have:=Ei.all ht _ e (h.und hup tx) h0 rfl
    exact ⟨this.1.inv this.2,this.2,this.1.up⟩
def AO (e : Eng) : Int:=if lastT e 1 ≠ 0 then 1 else if lastT e 2 ≠ 0 then 2 else if lastT e 3 ≠ 0 then 3 else 0
def CX : Nat → Eng → Eng
  | 0,e => e
  | k + 1,e => if AO e = 0 then e else CX k (Bo e (AO e))
def Sv (e : Eng) (steps : Nat) : Eng:=
  let x:=CX steps { e with mem:=Cj e.disk e.log e.log.length }
  if AO x = 0 then { x with down:=false } else { x with mem:=x.disk }
theorem Ht {e : Eng} (h : AO e ≠ 0) : (AO e = 1 ∨ AO e = 2 ∨ AO e = 3) ∧ lastT e (AO e) ≠ 0:=by
  unfold AO at h ⊢
  split at h
  · rename_i h1;rw [if_pos h1];exact ⟨.inl rfl,h1⟩
  · rename_i h1
    rw [if_neg h1]
    split at h
    · rename_i h2;rw [if_pos h2];exact ⟨.inr (.inl rfl),h2⟩
    · rename_i h2
      rw [if_neg h2]
      split at h
      · rename_i h3;rw [if_pos h3];exact ⟨.inr (.inr rfl),h3⟩
      · exact absurd rfl h
theorem MJ {e : Eng} (h : AO e = 0) : lastT e 1 = 0 ∧ lastT e 2 = 0 ∧ lastT e 3 = 0:=by
  unfold AO at h
  split at h
  · cases h
  · rename_i h1
    split at h
    · cases h
    · rename_i h2
      split at h
      · cases h
      · rename_i h3
        exact ⟨Decidable.not_not.1 h1,Decidable.not_not.1 h2,Decidable.not_not.1 h3⟩
theorem QH {e : Eng} (h : Br e.log e.log.length = 0) : AO e = 0:=by
  by_cases h0 : AO e = 0
  · exact h0
  · obtain ⟨h1,h2⟩:=Ht h0
    have h3 : 1 ≤ cst e.log (AO e) e.log.length:=by rw [cst,if_neg h2];omega
    rw [Br] at h
    rcases h1 with h1 | h1 | h1 <;> rw [h1] at h3 <;> omega
structure FB (e : Eng) (C : Nat → Page) (B : Nat) : Prop where
  core : Core e C B
  mlen : e.mem.length = 5
  same : ∀ p,p < 5 → pg e.mem p = Di e p
theorem FB.step {e : Eng} {C : Nat → Page} {B : Nat} (h : FB e C B) {tx : Int} (ht : tx = 1 ∨ tx = 2 ∨ tx = 3) (hlast : lastT e tx ≠ 0) : FB (Bo e tx) C B:=
  ⟨h.core.step ht hlast,by unfold Bo;rw [LA];exact h.mlen,Tz h.core h.mlen tx h.same⟩
theorem FB.all {C : Nat → Page} {B : Nat} : ∀ (k : Nat) (e : Eng),FB e C B → FB (CX k e) C B ∧ (CX k e).disk = e.disk ∧ (CX k e).safe = e.safe ∧ (CX k e).down = e.down ∧ (Br e.log e.log.length ≤ k → AO (CX k e) = 0)
  | 0,e,h => ⟨h,rfl,rfl,rfl,fun hn => QH (e:=e) (by omega)⟩
  | k + 1,e,h => by
    rw [CX]
    split
    · rename_i h0
      exact ⟨h,rfl,rfl,rfl,fun _ => h0⟩
    · rename_i h0
      obtain ⟨h1,h2⟩:=Ht h0
      obtain ⟨a,b,c,d,f⟩:=FB.all k (Bo e (AO e)) (h.step h1 h2)
      have hs:=h.core.PZ h1 h2
      exact ⟨a,b,c,d,fun hn => f (by omega)⟩
theorem Core.start {e : Eng} {C : Nat → Page} {B : Nat} (h : Core e C B) : FB { e with mem:=Cj e.disk e.log e.log.length } C B:=by
  refine ⟨h.mem _ e.down,by show (Cj e.disk e.log e.log.length).length = 5;rw [Ie];exact h.dlen,fun p hp => ?_⟩
  exact L8 h.dlen (fun k hk => (AB h.log hk).ok) p _ (Nat.le_refl _)
theorem Core.WV {e : Eng} {C : Nat → Page} {B : Nat} (h : Core e C B) (h0 : AO e = 0) (t : Int) : Ch e.log t e.log.length = []:=by
  have hz:=MJ h0
  by_cases h1 : Ch e.log t e.log.length = []
  · exact h1
  · obtain ⟨m,hm⟩:=List.exists_mem_of_ne_nil _ h1
    have hb:=Eg _ m hm
    have hle:=Bb e.log t e.log.length
    have hrec:=AB h.log (k:=m - 1) (by omega)
    have ht : t = 1 ∨ t = 2 ∨ t = 3:=by
      have hlt:=GR e.log t e.log.length
      have hF:=AB h.log (k:=Ao e.log t e.log.length - 1) (by omega)
      rcases hlt with hlt | hlt
      · omega
      · have h2:=hF.tx1
        have h3:=hF.tx3
        rw [hlt] at h2 h3
        omega
    rcases ht with rfl | rfl | rfl
    · exact Nc hz.1
    · exact Nc hz.2.1
    · exact Nc hz.2.2
theorem Core.noL {e : Eng} {C : Nat → Page} {B : Nat} (h : Core e C B) (h0 : AO e = 0) (p : Int) : lds e.log e.log.length p = false:=by
  rw [Bool.eq_false_iff]
  intro hl
  obtain ⟨t,_,hlt⟩:=Lg.1 hl
  obtain ⟨m,hm,_⟩:=UD.1 hlt
  rw [h.WV h0 t] at hm
  cases hm
theorem FB.up {e : Eng} {C : Nat → Page} {B : Nat} (h : FB e C B) (h0 : AO e = 0) : Inv { e with down:=false } C B:=by
  refine ⟨h.core.mem e.mem false,h.mlen,fun hd => (by cases hd),fun _ t m hm => ?_,fun _ p hp => ?_⟩
  · have hm : m ∈ Ch e.log t e.log.length:=hm
    rw [h.core.WV h0 t] at hm;cases hm
  · have hsm:=h.same p hp
    have hs1:=h.core.s1
    refine ⟨?_,?_,?_, .inl ⟨h.core.noL h0 p,hsm⟩⟩
    · show Bv (pg e.mem p) = true
      rw [hsm];exact h.core.rok hp hs1 (Nat.le_refl _)
    · show (pg e.mem p).owner = (Di e p).owner
      rw [hsm]
    · show (pg e.mem p).lsn ≤ (e.log.length : Int)
      rw [hsm];exact h.core.Vn hp hs1
theorem Inv.rise {e : Eng} {C : Nat → Page} {B : Nat} (h : Inv e C B) (hd : e.down = true) (k : Nat) : Inv (Sv e k) C B:=by
  obtain ⟨a,b,c,d,_⟩:=FB.all k _ h.core.start
  unfold Sv
  simp only
  split
  · rename_i h0
    exact a.up h0
  · refine ⟨a.core.mem _ _,by show (CX k _).disk.length = 5;rw [b];exact h.core.dlen,fun _ => rfl,fun hx => ?_,fun hx => ?_⟩
    · have hx : (CX k { e with mem:=Cj e.disk e.log e.log.length }).down = false:=hx
      rw [d] at hx
      rw [show e.down = false from hx] at hd;cases hd
    · have hx : (CX k { e with mem:=Cj e.disk e.log e.log.length }).down = false:=hx
      rw [d] at hx
      rw [show e.down = false from hx] at hd;cases hd
theorem Inv.Lc {e : Eng} {C : Nat → Page} {B : Nat} (h : Inv e C B) : Br e.log e.log.length ≤ 150:=by
  have h1:=h.core.room e.log.length (Nat.le_refl _)
  have h2:=h.core.b150
  omega
theorem Kw {p q : Page} : FO p q = true ↔ p = q:=by
  simp only [FO,Bool.and_eq_true,beq_iff_eq]
  constructor
  · rintro ⟨⟨h1,h2⟩,h3⟩
    exact Qe h1 h2 h3
  · rintro rfl
    exact ⟨⟨rfl,rfl⟩,rfl⟩
def Ws (e : Eng) (p : Nat) : Bool:=
  if Im e.log p 3 = true then (pg e.mem p).owner == (pg (Cj e.disk e.log e.log.length) p).owner && (pg e.mem p).lsn == BF e.log p e.log.length && (decide ((pg e.disk p).lsn < (pg e.mem p).lsn) || FO (pg e.mem p) (pg e.disk p))
  else FO (pg e.mem p) (pg (Cj e.disk e.log e.log.length) p)
def Jz (e : Eng) (p : Nat) : Bool:=
  (FE e.log p (Cf e.log 3) 0 true).2 && decide ((pg e.disk p).lsn ≤ e.safe) && (if e.down = true then FO (pg e.mem p) (pg e.disk p) else Ws e p)
def Kb (e : Eng) (n : Nat) : Bool:=H8 (Cj e.disk (e.log.take n) (e.log.take n).length) && IC (e.log.take n) (Cj e.disk (e.log.take n) (e.log.take n).length)
def I5 (e : Eng) : Nat → Nat → Bool
  | 0,_ => true
  | k + 1,n => Kb e n && I5 e k (n + 1)
def eOk (e : Eng) : Bool:=
  H8 e.disk && (H8 e.mem && (AP e.log && (inB e.safe 0 e.log.length && (Iw e.log && (I5 e (e.log.length + 1 - e.safe.toNat) e.safe.toNat && (List.range 5).all fun p => Jz e p)))))
theorem KA {e : Eng} : ∀ {k n : Nat},I5 e k n = true ↔ ∀ m,n ≤ m → m < n + k → Kb e m = true
  | 0,n => ⟨fun _ m h1 h2 => by omega,fun _ => rfl⟩
  | k + 1,n => by
    rw [I5,Bool.and_eq_true,KA]
    constructor
    · rintro ⟨h1,h2⟩ m h3 h4
      rcases Nat.eq_or_lt_of_le h3 with rfl | h3
      · exact h1
      · exact h2 m h3 (by omega)
    · intro h
      exact ⟨h n (Nat.le_refl _) (by omega),fun m h1 h2 => h m (by omega) (by omega)⟩
theorem K7 {l : List Rec} {C : Nat → Page} : ∀ {ms : List Nat} {ps : List Page},ps.length = 5 → (∀ m ∈ ms,0 ≤ (rc l (m - 1)).page ∧ (rc l (m - 1)).page < 5) → (∀ p,p < 5 → Ew l (C p) (ms.filter fun m => (rc l (m - 1)).page == (p : Int)) (pg ps p)) → F5 l ps ms = true
  | [],_,_,_,_ => rfl
  | m :: ms,ps,hl,hm,hp => by
    have h5:=hm m (by simp)
    obtain ⟨q,hq⟩ : ∃ q : Nat,(rc l (m - 1)).page = (q : Int):=⟨(rc l (m - 1)).page.toNat,by omega⟩
    have hq5 : q < 5:=by omega
    have hpq:=hp q hq5
    rw [List.filter_cons,if_pos (by rw [hq];simp)] at hpq
    have e1 : (rc l (m - 1)).page.toNat = q:=by omega
    rw [F5,e1,Ij hpq.2,Bool.true_and]
    refine K7 (C:=C) (by simpa using hl) (fun x hx => hm x (by simp [hx])) fun p hp5 => ?_
    rw [Fg (by omega)]
    by_cases e2 : q = p
    · subst e2
      rw [if_pos rfl]
      exact hpq.2
    · rw [if_neg e2]
      have hpp:=hp p hp5
      rw [List.filter_cons,if_neg (by rw [hq,beq_iff_eq];omega)] at hpp
      exact hpp
theorem Vi (l : List Rec) (p : Int) : (I4 l 3).filter (fun m => (rc l (m - 1)).page == p) = UA l l.length p:=by
  have e1 : (3 - ((2 : Nat) : Int)) = 1:=rfl
  have e2 : (3 - ((1 : Nat) : Int)) = 2:=rfl
  have e3 : (3 - ((0 : Nat) : Int)) = 3:=rfl
  rw [I4,I4,I4,I4,e1,e2,e3,List.append_nil,List.filter_append,List.filter_append]
  rfl
theorem Ue {l : List Rec} (hl : AP l = true) : ∀ m ∈ I4 l 3,0 ≤ (rc l (m - 1)).page ∧ (rc l (m - 1)).page < 5:=by
  have hU : ∀ t, ∀ m ∈ CW l (Ao l t l.length),0 ≤ (rc l (m - 1)).page ∧ (rc l (m - 1)).page < 5:=fun t m hm => by
    have h1:=MR (l:=l) (tx:=t) (n:=l.length) hm
    have h2:=He hl h1.1 h1.2 (Pz hl (Nat.le_refl _) hm)
    exact ⟨h2.2.1,h2.2.2.1⟩
  intro m hm
  rw [I4,I4,I4,I4,List.append_nil,List.mem_append,List.mem_append] at hm
  rcases hm with hm | hm | hm <;> exact hU _ m hm
theorem M9 {l : List Rec} {p : Int} : ∀ {txs : List Int} {b : Int} {ok : Bool},ok = true → (∀ t ∈ txs,t ≠ 0) → (∀ t ∈ txs, ∀ t' ∈ txs,t ≠ t' → Gr l (Ao l t l.length) p = true → Gr l (Ao l t' l.length) p = false) → txs.Nodup → (b = 0 ∨ ∀ t ∈ txs,Gr l (Ao l t l.length) p = false) →
    (FE l p txs b ok).2 = true ∧ ((FE l p txs b ok).1 = b ∧ (∀ t ∈ txs,Gr l (Ao l t l.length) p = false) ∨ ((FE l p txs b ok).1 ∈ txs ∧ Gr l (Ao l (FE l p txs b ok).1 l.length) p = true))
  | [],b,ok,hok,_,_,_,_ => ⟨hok, .inl ⟨rfl,fun t ht => by cases ht⟩⟩
  | t :: txs,b,ok,hok,hz,hone,hnd,hb => by
    rw [List.nodup_cons] at hnd
    cases hh : Gr l (Ao l t l.length) p
    · rw [FE,if_neg (by rw [hh];simp)]
      have ih:=M9 (b:=b) (ok:=ok) hok (fun x hx => hz x (by simp [hx])) (fun x hx y hy => hone x (by simp [hx]) y (by simp [hy])) hnd.2 (hb.imp id fun h x hx => h x (by simp [hx]))
      refine ⟨ih.1,ih.2.imp (fun h => ⟨h.1,fun x hx => ?_⟩) (fun h => ⟨List.mem_cons_of_mem _ h.1,h.2⟩)⟩
      rcases List.mem_cons.1 hx with rfl | hx
      · exact hh
      · exact h.2 x hx
    · have hb0 : b = 0:=by
        rcases hb with hb | hb
        · exact hb
        · have:=hb t (by simp)
          rw [hh] at this;cases this
      have hrest : ∀ x ∈ txs,Gr l (Ao l x l.length) p = false:=fun x hx => hone t (by simp) x (by simp [hx]) (fun e => hnd.1 (e ▸ hx)) hh
      rw [FE,if_pos hh]
      have ih:=M9 (b:=t) (ok:=b == 0) (by rw [hb0];rfl) (fun x hx => hz x (by simp [hx])) (fun x hx y hy => hone x (by simp [hx]) y (by simp [hy])) hnd.2 (.inr hrest)
      refine ⟨ih.1, .inr ?_⟩
      rcases ih.2 with h | h
      · rw [h.1];exact ⟨by simp,hh⟩
      · have:=hrest _ h.1
        rw [h.2] at this;cases this
theorem Hq (l : List Rec) : Cf l 3 = (if Ao l 1 l.length = 0 then [] else [1]) ++ ((if Ao l 2 l.length = 0 then [] else [2]) ++ (if Ao l 3 l.length = 0 then [] else [3])):=by
  have e1 : (3 - ((2 : Nat) : Int)) = 1:=rfl
  have e2 : (3 - ((1 : Nat) : Int)) = 2:=rfl
  have e3 : (3 - ((0 : Nat) : Int)) = 3:=rfl
  rw [Cf,Cf,Cf,Cf,e1,e2,e3,List.append_nil]
theorem Qi (l : List Rec) : (Cf l 3).Nodup:=by
  rw [Hq]
  split <;> split <;> split <;> decide
theorem M7 {l : List Rec} {t : Int} : t ∈ Cf l 3 ↔ (t = 1 ∨ t = 2 ∨ t = 3) ∧ Ao l t l.length ≠ 0:=by
  rw [Hq,List.mem_append,List.mem_append]
  constructor
  · rintro (h | h | h)
    · split at h
      · cases h
      · rename_i h1;rw [List.mem_singleton.1 h];exact ⟨.inl rfl,h1⟩
    · split at h
      · cases h
      · rename_i h1;rw [List.mem_singleton.1 h];exact ⟨.inr (.inl rfl),h1⟩
    · split at h
      · cases h
      · rename_i h1;rw [List.mem_singleton.1 h];exact ⟨.inr (.inr rfl),h1⟩
  · rintro ⟨rfl | rfl | rfl,h⟩
    · left;rw [if_neg h];simp
    · right;left;rw [if_neg h];simp
    · right;right;rw [if_neg h];simp
def lk (l : List Rec) (p : Int) : Int:=(FE l p (Cf l 3) 0 true).1
theorem Ru {l : List Rec} {p : Int} (hone : ∀ t t',t ≠ t' → has l t l.length p = true → has l t' l.length p = false) : (FE l p (Cf l 3) 0 true).2 = true ∧ ((lk l p = 0 ∧ ∀ t,(t = 1 ∨ t = 2 ∨ t = 3) → has l t l.length p = false) ∨ ((lk l p = 1 ∨ lk l p = 2 ∨ lk l p = 3) ∧ has l (lk l p) l.length p = true)):=by
  have h:=M9 (l:=l) (p:=p) (txs:=Cf l 3) (b:=0) (ok:=true) rfl (fun t ht => by have:=(M7.1 ht).1;omega) (fun t _ t' _ hne hh => hone t t' hne hh) (Qi l) (.inl rfl)
  refine ⟨h.1,h.2.imp (fun hx => ⟨hx.1,fun t ht => ?_⟩) (fun hx => ⟨(M7.1 hx.1).1,hx.2⟩)⟩
  by_cases h0 : Ao l t l.length = 0
  · rw [has,h0,Iu]
  · exact hx.2 t (M7.2 ⟨ht,h0⟩)
theorem Core.JP {e : Eng} {C : Nat → Page} {B : Nat} (h : Core e C B) (p : Int) : ∀ t t',t ≠ t' → has e.log t e.log.length p = true → has e.log t' e.log.length p = false:=fun t t' hne hh => GL h.log h.prop _ (Nat.le_refl _) t t' p hne hh
theorem Cv {ps : List Page} : H8 ps = true ↔ ps.length = 5 ∧ ∀ p,p < 5 → Bv (pg ps p) = true:=by
  simp only [H8,Bool.and_eq_true,beq_iff_eq,Bool.not_eq_true',List.any_eq_false]
  constructor
  · rintro ⟨h1,h2⟩
    refine ⟨h1,fun p hp => ?_⟩
    have:=h2 (pg ps p) (by simp [pg,List.getD_eq_getElem?_getD,h1,hp])
    simpa using this
  · rintro ⟨h1,h2⟩
    refine ⟨h1,fun x hx => ?_⟩
    obtain ⟨k,hk,rfl⟩:=List.getElem_of_mem hx
    have:=h2 k (by omega)
    simp [pg,List.getD_eq_getElem?_getD,hk] at this
    simp [this]
theorem Core.pref {e : Eng} {C : Nat → Page} {B : Nat} (h : Core e C B) {n : Nat} (h1 : e.safe ≤ n) (h2 : n ≤ e.log.length) : Kb e n = true:=by
  have ht:=h.take h1 h2
  have hl : (e.log.take n).length = n:=by rw [List.length_take];omega
  have hrd:=fun p => L8 h.dlen (fun k hk => (AB ht.log hk).ok) p n (by show n ≤ (e.log.take n).length;omega)
  have hg:=ht.good n h1 (by show n ≤ (e.log.take n).length;omega)
  rw [Kb,hl,Bool.and_eq_true]
  refine ⟨Cv.2 ⟨by rw [Ie];exact h.dlen,fun p hp => ?_⟩,?_⟩
  · rw [hrd];exact Ij (hg p hp)
  · rw [IC,Jr]
    refine K7 (C:=C) (by rw [Ie];exact h.dlen) (Ue ht.log) fun p hp => ?_
    rw [Vi,hl,hrd]
    exact hg p hp
theorem Inv.Gb {e : Eng} {C : Nat → Page} {B : Nat} (h : Inv e C B) : H8 e.mem = true:=by
  rw [Cv]
  refine ⟨h.mlen,fun p hp => ?_⟩
  cases hd : e.down
  · exact (h.upm hd p hp).ok
  · rw [h.dn hd];exact h.core.dok p hp
theorem TT (l : List Rec) (p : Int) : Im l p 3 = lds l l.length p:=UB l p
theorem Inv.ok {e : Eng} {C : Nat → Page} {B : Nat} (h : Inv e C B) : eOk e = true:=by
  have hc:=h.core
  have hs0:=hc.s0
  have hs1:=hc.s1
  have hroom:=hc.room e.log.length (Nat.le_refl _)
  have hb:=hc.b150
  simp only [eOk,Bool.and_eq_true]
  refine ⟨Cv.2 ⟨hc.dlen,hc.dok⟩,h.Gb,hc.log,DI.2 ⟨hs0,hs1⟩,?_,?_,?_⟩
  · rw [Iw,N9,decide_eq_true_eq];omega
  · rw [KA]
    intro m h1 h2
    exact hc.pref (by omega) (by omega)
  · rw [List.all_eq_true]
    intro p hp
    have hp : p < 5:=by simpa using hp
    have hrd:=L8 hc.dlen (fun k hk => (AB hc.log hk).ok) p e.log.length (Nat.le_refl _)
    simp only [Jz,Bool.and_eq_true,decide_eq_true_eq]
    refine ⟨⟨(Ru (hc.JP p)).1,hc.Lu p hp⟩,?_⟩
    split
    · rename_i hd
      rw [h.dn hd]
      exact Kw.2 rfl
    · rename_i hd
      have hM:=h.upm (by simpa using hd) p hp
      rw [Ws,hrd,TT]
      rcases hM.cases with hx | ⟨a,b,c,d⟩
      · rw [if_neg (by rw [hx.1];simp)]
        exact Kw.2 hx.2
      · rw [if_pos a]
        simp only [Bool.and_eq_true,beq_iff_eq,Bool.or_eq_true,decide_eq_true_eq]
        exact ⟨⟨hM.owner,b⟩,c.imp id Kw.2⟩
def DL (e : Eng) (tx page : Int) : Bool := !e.down && (inB tx 1 3 && (inB page 0 4 && (lk e.log page == 0 || lk e.log page == tx)))
def Bp (e : Eng) (ok : Bool) (x : Eng) : Eng × Bool:=if ok = true ∧ Iw x.log = true then (x,true) else (e,false)
def MU (e : Eng) (tx page slot val : Int) : Rec:=⟨1,tx,page,slot,iv (pg e.mem page.toNat).vals slot.toNat,val,0,0⟩
def OT (e : Eng) (tx page slot val : Int) : Bool:=DL e tx page && ((pg e.mem page.toNat).owner != 0 && (inB slot 0 2 && inB val 0 9))
def KY (e : Eng) (tx page slot val : Int) : Eng × Bool:=Bp e (OT e tx page slot val) (e.app (MU e tx page slot val))
def MV (e : Eng) (tx page table : Int) : Rec:=⟨2,tx,page, -1,(pg e.mem page.toNat).owner,table,0,0⟩
def ownB (e : Eng) (tx page table : Int) : Bool:=DL e tx page && (inB table 0 3 && (((pg e.mem page.toNat).owner == 0) != (table == 0) && EK (pg e.mem page.toNat).vals))
def Lb (e : Eng) (tx page table : Int) : Eng × Bool:=Bp e (ownB e tx page table) (e.app (MV e tx page table))
def Mr (l : List Rec) (tx page : Int) : Bool:=(Ch l tx l.length).any fun m => (rc l (m - 1)).kind == 2 && ((rc l (m - 1)).page == page && (rc l (m - 1)).new != 0)
def Kh (e : Eng) (tx page : Int) (vals : List Int) : Bool:=DL e tx page && ((pg e.mem page.toNat).owner != 0 && (EK (pg e.mem page.toNat).vals && (FC vals && Mr e.log tx page)))
def JD (e : Eng) (tx page : Int) (vals : List Int) : Eng:={ e with log:=e.log ++ [⟨3,tx,page,0,0,0,Ao e.log tx e.log.length,0⟩],mem:=e.mem.set page.toNat ⟨(e.log.length + 1 : Nat),(pg e.mem page.toNat).owner,vals⟩ }
def GN (e : Eng) (tx page : Int) (vals : List Int) : Eng × Bool:=Bp e (Kh e tx page vals) (JD e tx page vals)
def Ke (e : Eng) (tx : Int) : Bool := !e.down && (inB tx 1 3 && lastT e tx != 0)
def BN (e : Eng) (v : Evt) : Eng:=
  if v.kind = 1 then (KY e v.tx v.page v.slot v.n).1
  else if v.kind = 2 then (Lb e v.tx v.page v.n).1
  else if v.kind = 3 then (GN e v.tx v.page v.vals).1
  else if v.kind = 4 then (if Ke e v.tx = true then DN e v.tx else e)
  else if v.kind = 5 then (if Ke e v.tx = true then DU e v.tx else e)
  else if v.kind = 6 then (if e.down = false ∧ inB v.page 0 4 = true then CS e v.page.toNat else e)
  else if v.kind = 7 then (if e.down = false then G8 e else e)
  else if v.kind = 8 then (if 0 ≤ v.n then JG e v.n else e)
  else if v.kind = 9 then (if e.down = true ∧ 0 ≤ v.n then Sv e v.n.toNat else e)
  else e
def Ug (e : Eng) (v : Evt) (C : Nat → Page) : Nat → Page:=if v.kind = 4 ∧ Ke e v.tx = true then PY e v.tx C else C
theorem Gv {e : Eng} {tx : Int} : Ke e tx = true ↔ e.down = false ∧ (tx = 1 ∨ tx = 2 ∨ tx = 3) ∧ lastT e tx ≠ 0:=by
  simp only [Ke,Bool.and_eq_true,Bool.not_eq_true',DI,bne_iff_ne]
  constructor
  · rintro ⟨h1,h2,h3⟩;exact ⟨h1,by omega,h3⟩
  · rintro ⟨h1,h2,h3⟩;exact ⟨h1,by omega,h3⟩
theorem JJ {vs : List Int} : EK vs = true ↔ ∀ x ∈ vs,x = 0:=by
  simp [EK]
theorem Dv {e : Eng} {tx page : Int} : DL e tx page = true ↔ e.down = false ∧ (1 ≤ tx ∧ tx ≤ 3) ∧ (0 ≤ page ∧ page ≤ 4) ∧ (lk e.log page = 0 ∨ lk e.log page = tx):=by
  simp only [DL,Bool.and_eq_true,Bool.not_eq_true',DI,Bool.or_eq_true,beq_iff_eq]
theorem Core.free {e : Eng} {C : Nat → Page} {B : Nat} (h : Core e C B) {tx page : Int} (hl : lk e.log page = 0 ∨ lk e.log page = tx) : ∀ t,t ≠ tx → has e.log t e.log.length page = false:=by
  intro t ht
  have hall:=(Ru (h.JP page)).2
  rcases hall with hx | hx
  · by_cases h0 : Ao e.log t e.log.length = 0
    · rw [has,h0,Iu]
    · refine hx.2 t ?_
      have hlt:=GR e.log t e.log.length
      have hle:=Bb e.log t e.log.length
      have hF:=AB h.log (k:=Ao e.log t e.log.length - 1) (by omega)
      rcases hlt with hlt | hlt
      · exact absurd hlt h0
      · have h2:=hF.tx1
        have h3:=hF.tx3
        rw [hlt] at h2 h3
        omega
  · rcases hl with hl | hl
    · rw [hl] at hx;omega
    · exact h.JP page (lk e.log page) t (by rw [hl];exact Ne.symm ht) hx.2
theorem Inv.mono {e : Eng} {C : Nat → Page} {B B' : Nat} (h : Inv e C B) (hB : B ≤ B') (h150 : B' ≤ 150) : Inv e C B':=
  ⟨⟨h.core.dlen,h.core.dok,h.core.log,h.core.prop,h.core.s0,h.core.s1,h150,fun n hn => by have:=h.core.room n hn;omega,h.core.done,h.core.Lu,h.core.good⟩,h.mlen,h.dn,h.upc,h.upm⟩
theorem Vy {e : Eng} {C : Nat → Page} {B : Nat} (h : Core e C B) : Iw e.log = true:=by
  have h1:=h.room e.log.length (Nat.le_refl _)
  have h2:=h.b150
  rw [Iw,N9,decide_eq_true_eq];omega
theorem Inv.Uq {e : Eng} {C : Nat → Page} {B : Nat} (h : Inv e C B) (hB : B + 3 ≤ 150) {tx page slot val : Int} (hp : OT e tx page slot val = true) : Inv (e.app (MU e tx page slot val)) C (B + 3):=by
  simp only [OT,Bool.and_eq_true,Dv,bne_iff_ne,DI] at hp
  obtain ⟨⟨h1,h2,h3,h4⟩,h5,h6,h7⟩:=hp
  exact h.chg h1 (p:=page.toNat) (by omega) (by show page = _;omega) (by show tx = 1 ∨ tx = 2 ∨ tx = 3;omega) (.inl ⟨rfl,h5,h6.1,h6.2,h7.1,h7.2,rfl⟩) rfl (by
    have:=h.core.free h4
    rwa [show ((page.toNat : Nat) : Int) = page by omega]) hB
theorem Inv.Uw {e : Eng} {C : Nat → Page} {B : Nat} (h : Inv e C B) (hB : B + 3 ≤ 150) {tx page table : Int} (hp : ownB e tx page table = true) : Inv (e.app (MV e tx page table)) C (B + 3):=by
  simp only [ownB,Bool.and_eq_true,Dv,bne_iff_ne,DI,JJ] at hp
  obtain ⟨⟨h1,h2,h3,h4⟩,h5,h6,h7⟩:=hp
  have hok:=(Cg.1 (Cv.1 h.Gb |>.2 page.toNat (by omega))).2.2.2.2.1
  refine h.chg h1 (p:=page.toNat) (by omega) (by show page = _;omega) (by show tx = 1 ∨ tx = 2 ∨ tx = 3;omega) (.inr ⟨rfl,rfl,h5.1,h5.2,?_,U9 hok h7,rfl⟩) rfl (by
    have:=h.core.free h4
    rwa [show ((page.toNat : Nat) : Int) = page by omega]) hB
  show (pg e.mem page.toNat).owner = 0 ↔ table ≠ 0
  constructor
  · intro e1 e2
    rw [e1,e2] at h6
    exact h6 rfl
  · intro e2
    by_cases e1 : (pg e.mem page.toNat).owner = 0
    · exact e1
    · exfalso
      apply h6
      rw [beq_eq_false_iff_ne.2 e1,beq_eq_false_iff_ne.2 e2]
theorem Inv.Qs {e : Eng} {C : Nat → Page} {B : Nat} (h : Inv e C B) (hB : B + 3 ≤ 150) {tx page : Int} {vals : List Int} (hp : Kh e tx page vals = true) : Inv (JD e tx page vals) C (B + 3):=by
  simp only [Kh,Bool.and_eq_true,Dv,bne_iff_ne,JJ] at hp
  obtain ⟨⟨h1,h2,h3,h4⟩,h5,h6,h7,h8⟩:=hp
  have e1 : ((page.toNat : Nat) : Int) = page:=by omega
  have hL:=h.load (tx:=tx) (p:=page.toNat) (vals:=vals) h1 (by omega) (by omega) h5 ?_ (by rw [e1];exact h.core.free h4) ?_ hB
  · rw [e1] at hL
    exact hL
  · simp only [FC,Bool.and_eq_true,beq_iff_eq,Bool.not_eq_true',List.any_eq_false] at h7
    refine ⟨h7.1,fun x hx => ?_⟩
    have:=h7.2 x hx
    simp [inB] at this
    exact this
  · rw [e1]
    simp only [Mr,List.any_eq_true,Bool.and_eq_true,beq_iff_eq,bne_iff_ne] at h8
    obtain ⟨m,h8,h9⟩:=h8
    exact ⟨m,h8,h9⟩
theorem Inv.change {e x : Eng} {C : Nat → Page} {B : Nat} (h : Inv e C B) (hB : B + 3 ≤ 150) {ok : Bool} (hx : ok = true → Inv x C (B + 3)) : Inv (Bp e ok x).1 C (B + 3):=by
  unfold Bp
  split
  · rename_i hc;exact hx hc.1
  · exact h.mono (by omega) hB
theorem Inv.play {e : Eng} {C : Nat → Page} {B : Nat} (h : Inv e C B) (hB : B + 3 ≤ 150) (v : Evt) : Inv (BN e v) (Ug e v C) (B + 3):=by
  have hid:=h.mono (show B ≤ B + 3 by omega) hB
  have hle : B ≤ B + 3:=by omega
  unfold BN Ug
  by_cases k4 : v.kind = 4
  · rw [if_neg (by omega),if_neg (by omega),if_neg (by omega),if_pos k4]
    cases ho : Ke e v.tx
    · rw [if_neg (by simp),if_neg (by simp)];exact hid
    · rw [if_pos rfl,if_pos ⟨k4,rfl⟩]
      obtain ⟨h1,h2,h3⟩:=Gv.1 ho
      exact (h.UW h1 h2 h3).mono hle hB
  have h4 : ¬ (v.kind = 4 ∧ Ke e v.tx = true):=fun hx => k4 hx.1
  rw [if_neg h4]
  by_cases k1 : v.kind = 1
  · rw [if_pos k1];exact h.change hB (h.Uq hB)
  rw [if_neg k1]
  by_cases k2 : v.kind = 2
  · rw [if_pos k2];exact h.change hB (h.Uw hB)
  rw [if_neg k2]
  by_cases k3 : v.kind = 3
  · rw [if_pos k3];exact h.change hB (h.Qs hB)
  rw [if_neg k3,if_neg k4]
  by_cases k5 : v.kind = 5
  · rw [if_pos k5]
    split
    · rename_i ho
      obtain ⟨h1,h2,h3⟩:=Gv.1 ho
      exact (h.Jq h1 h2).1.mono hle hB
    · exact hid
  rw [if_neg k5]
  by_cases k6 : v.kind = 6
  · rw [if_pos k6]
    split
    · rename_i hw
      have:=DI.1 hw.2
      exact (h.write hw.1 (by omega)).mono hle hB
    · exact hid
  rw [if_neg k6]
  by_cases k7 : v.kind = 7
  · rw [if_pos k7]
    split
    · rename_i hd;exact (h.force hd).mono hle hB
    · exact hid
  rw [if_neg k7]
  by_cases k8 : v.kind = 8
  · rw [if_pos k8]
    split
    · exact (h.fall _).mono hle hB
    · exact hid
  rw [if_neg k8]
  by_cases k9 : v.kind = 9
  · rw [if_pos k9]
    split
    · rename_i hr;exact (h.rise hr.1 _).mono hle hB
    · exact hid
  rw [if_neg k9]
  exact hid
def newP : Page:=⟨0,0, [0,0,0]⟩
def newE : Eng:=⟨List.replicate 5 newP,List.replicate 5 newP, [],0,false⟩
theorem Nv {p : Nat} (h : p < 5) : pg (List.replicate 5 newP) p = newP:=by
  match p,h with
  | 0,_ => rfl
  | 1,_ => rfl
  | 2,_ => rfl
  | 3,_ => rfl
  | 4,_ => rfl
theorem Vv : Inv newE (fun _ => newP) 0:=by
  have hU : ∀ p : Int,UA [] 0 p = []:=fun p => by simp [UA,F,U,Ao,D6]
  have hok : Bv newP = true:=by decide
  refine ⟨⟨rfl,fun p hp => ?_,rfl,fun k hk => ?_,Int.le_refl _,Int.le_refl _,by omega,fun n hn => ?_,fun k hk => ?_,fun p hp => ?_,fun n _ hn p hp => ?_⟩,rfl,fun hd => rfl,fun _ t m hm => ?_,fun _ p hp => ⟨?_,?_,?_, .inl ⟨?_,?_⟩⟩⟩
  · show Bv (pg (List.replicate 5 newP) p) = true
    rw [Nv hp];exact hok
  · cases hk
  · obtain rfl : n = 0:=Nat.le_zero.1 hn
    show 0 + Br [] 0 ≤ 0
    simp [Br,cst,U,Ao,D6]
  · cases hk
  · show (pg (List.replicate 5 newP) p).lsn ≤ 0
    rw [Nv hp];exact Int.le_refl _
  · obtain rfl : n = 0:=Nat.le_zero.1 hn
    show Ew [] newP (UA [] 0 p) (C9 (pg (List.replicate 5 newP) p) [] p 0)
    rw [hU,Nv hp]
    exact ⟨hok,rfl,rfl⟩
  · simp [Ch,newE,Ao,Ck] at hm
  · show Bv (pg (List.replicate 5 newP) p) = true
    rw [Nv hp];exact hok
  · rfl
  · show (pg (List.replicate 5 newP) p).lsn ≤ 0
    rw [Nv hp];exact Int.le_refl _
  · simp [newE,lds,ld,Ao,KE]
  · rfl
def runE (e : Eng) : List Evt → Eng
  | [] => e
  | v :: vs => runE (BN e v) vs
def VK (e : Eng) (C : Nat → Page) : List Evt → Nat → Page
  | [] => C
  | v :: vs => VK (BN e v) (Ug e v C) vs
theorem Inv.run : ∀ {vs : List Evt} {e : Eng} {C : Nat → Page} {B : Nat},Inv e C B → B + 3 * vs.length ≤ 150 → Inv (runE e vs) (VK e C vs) (B + 3 * vs.length)
  | [],e,C,B,h,_ => h
  | v :: vs,e,C,B,h,hB => by
    rw [List.length_cons] at hB
    have:=Inv.run (h.play (by omega) v) (vs:=vs) (by omega)
    rw [List.length_cons,show B + 3 * (vs.length + 1) = B + 3 + 3 * vs.length by omega]
    exact this
open Go.RowKit Go.Proofs.YtpjmlpmhgfghbaaGreatW.PrintWords Go.Proofs.YtpjmlpmhgfghbaaGreatW.PrintLast Go.Proofs.YtpjmlpmhgfghbaaGreatW.PrintMore
abbrev OwnRs (w : World) (base : Nat) (v : Value) (l : List Rec) : Prop:=Kd.R C8 98 w base (fun _ => True) v l
def VQ (w : World) (l : List Rec) (e : Ending) (w' : World) : Prop := ∃ v,e = .returned v ∧ OwnRs w' w.heap.size v l ∧ Below w.heap.size w w'
theorem GU : (Tryz.prog.info? 98).map (fun i => (i.zero,i.size,i.bytes)) = some (some (.agg #[.int .i64 0, .int .i64 0, .int .i64 0, .int .i64 0, .int .i64 0, .int .i64 0, .int .i64 0, .int .i64 0]),8,64):=by kernel_rfl
theorem Et : Tryz.prog.underlying 26 = some (.slice 98):=Tryz.underlying26
theorem SH (w : World) (base : Nat) (ok : Nat → Prop) (r : Rec) : C8.M w base ok r r.cells:=
  ⟨[.int .i64 r.kind], [.int .i64 r.tx, .int .i64 r.page, .int .i64 r.slot, .int .i64 r.old, .int .i64 r.new, .int .i64 r.prev, .int .i64 r.next],rfl,rfl,⟨[.int .i64 r.tx], [.int .i64 r.page, .int .i64 r.slot, .int .i64 r.old, .int .i64 r.new, .int .i64 r.prev, .int .i64 r.next],rfl,rfl,⟨[.int .i64 r.page], [.int .i64 r.slot, .int .i64 r.old, .int .i64 r.new, .int .i64 r.prev, .int .i64 r.next],rfl,rfl,⟨[.int .i64 r.slot], [.int .i64 r.old, .int .i64 r.new, .int .i64 r.prev, .int .i64 r.next],rfl,rfl,⟨[.int .i64 r.old], [.int .i64 r.new, .int .i64 r.prev, .int .i64 r.next],rfl,rfl,⟨[.int .i64 r.new], [.int .i64 r.prev, .int .i64 r.next],rfl,rfl,⟨[.int .i64 r.prev], [.int .i64 r.next],rfl,rfl,rfl⟩⟩⟩⟩⟩⟩⟩
theorem IY {w w1 : World} {base : Nat} {ok : Nat → Prop} {r : Rec} {cs : List Value} (h : C8.K w r cs) : C8.M w1 base ok r cs:=by
  rw [OC h]
  exact SH _ _ _ r
section
variable {ops : Array Oper} {rest : List Oper} {o : Oper} {a : Act} {Q : Exit → Act → World → Prop}
theorem Je {w0 W : World} {v : Value} {xs ys : List Rec} {A : Option Addr} {c : Nat} (hgd : o.guard = none) (s x : Operand)
    (ho : o.op = .call { callee:=.builtin .append,args:=#[s,x],argTypes:=#[26,26] }) (hs : a.eval s = v) (hx : a.eval x = .slice A ys.length c)
    (HO : OwnRs W w0.heap.size v xs) (HR : Kd.C C8 W A ys.length ys) (HB : Below w0.heap.size w0 W) (hl : xs.length + ys.length ≤ 1000)
    (h : ∀ v1 w1,OwnRs w1 w0.heap.size v1 (xs ++ ys) → Below w0.heap.size w0 w1 → W.grownBy w1 v.ownBlock → wpList Tryz.prog ops Q rest (a.put o.dst v1) w1) :
    wpList Tryz.prog ops Q (o :: rest) a W:=
  Kd.Oh C8 (Rr:=C8.K W) w0.heap.size hgd s x 26 98 _ 64 ho Et GU rfl (by decide) (by decide) v xs ys A ys.length c (fun _ => True) (fun _ => False) hs hx HO HR (fun _ _ hk => IY hk) (fun _ hk => hk.elim) (fun _ _ => trivial) HB HB.size (by omega) (fun v1 w1 h1 h2 h3 _ => h v1 w1 h1 h2 h3)
end
theorem rs_empty {W : World} {g base : Nat} (hg : g = W.heap.size) (hb : base ≤ W.heap.size) : OwnRs (W.alloc (.cells #[] 98)) base (.slice (some ⟨g,0,none⟩) 0 0) []:=⟨fun _ _ => trivial, [],own_none' _ 8 hg hb,Reps.none _ _⟩
theorem Sq (W : World) (base : Nat) : OwnRs W base (.slice none 0 0) []:=Kd.Vd _ _ _ _ _
set_option maxRecDepth 100000 in
set_option maxHeartbeats 2000000 in
theorem Lv {w0 w : World} {A : Option Addr} {c : Nat} {l : List Rec} (hl : l.length ≤ 150) (hb : Below w0.heap.size w0 w) (hr : Kd.C C8 w0 A l.length l) : Calls Tryz.prog 90 #[.slice A l.length c] w (VQ w l):=by
  have HR:=As (BM hr hb)
  have hq : ∀ (w : World) (a : Option Addr) (n c n' c' : Nat),(binOp .eql 26 (.slice a n c) (.slice none n' c')).run Tryz.prog w = .ok (.bool a.isNone) w:=fun w a n c n' c' => Go.Lib.run_eql_slice_nil w _ _ a n c n' c' Et
  clear hr hb
  cases A with
  | none =>
    have hn : l = []:=by
      cases l with
      | nil => rfl
      | cons r t => obtain ⟨ad,h,_⟩:=Cb HR.out 0 (by simp);cases h
    subst hn
    go_enter Tryz.func90,Tryz.ntmps90
    go_wp2
    go_ret
    exact ⟨_,rfl,Sq _ _,by go_grown⟩
  | some ad =>
    go_enter Tryz.func90,Tryz.ntmps90
    go_wp2_with (at_builtin;(refine Je (w0:=w) (xs := []) rfl (.tmp 5) (.tmp 6) rfl rfl rfl (rs_empty rfl (Nat.le_refl _)) (BM HR.out (Ah (Below.refl _ _) _)) (Ah (Below.refl _ _) _) (by simp;omega) ?_);intro v1 w1 hO hb1 _;have HO:=As hO;have HB:=As hb1;clear hO hb1)
    go_ret
    exact ⟨_,rfl,HO.out,HB.out⟩
structure AU (w : World) (base : Nat) (vd vm vl : Value) (e : Eng) : Prop where
  ex : ∃ okd okm : Nat → Prop,(∀ k,okd k → okm k → False) ∧ CB w base okd vd e.disk ∧ CB w base okm vm e.mem
  l : OwnRs w base vl e.log
section
variable {w w1 : World} {base : Nat} {vd vm vl : Value} {e : Eng}
theorem AU.below (h : AU w base vd vm vl e) (hb : Below w.heap.size w w1) : AU w1 base vd vm vl e:=by
  obtain ⟨⟨okd,okm,h1,h2,h3⟩,h4⟩:=h
  exact ⟨⟨okd,okm,h1,Kd.Bu h2 hb,Kd.Bu h3 hb⟩,Kd.Cm h4 hb⟩
theorem AU.lower {b' : Nat} (h : AU w base vd vm vl e) (hb : b' ≤ base) : AU w b' vd vm vl e:=by
  obtain ⟨⟨okd,okm,h1,h2,h3⟩,h4⟩:=h
  exact ⟨⟨okd,okm,h1,Kd.E8 h2 hb,Kd.E8 h3 hb⟩,Kd.Gu h4 hb⟩
theorem L6 : ∀ q,q ∈ 81 :: Dw.E → q = 81 ∨ q = 3:=by decide
theorem AU.set (h : AU w base vd vm vl e) {g t : Nat} {cells : Array Value} (hb : w.heap[g]? = some (.cells cells t (0,0))) (h1 : t ≠ 81) (h2 : t ≠ 3) (h3 : t ≠ 98) (j : Nat) (u : Value) : AU (w.setCell ⟨g,j,none⟩ u) base vd vm vl e:=by
  obtain ⟨⟨okd,okm,ha,hx,hy⟩,hz⟩:=h
  have hp : ∀ q,q ∈ 81 :: Dw.E → q ≠ t:=fun q hq => by rcases L6 q hq with rfl | rfl;exact Ne.symm h1;exact Ne.symm h2
  have hr : ∀ q,q ∈ 98 :: C8.E → q ≠ t:=fun q hq => by
    have : q = 98:=by simpa [C8,Kd.iso,Kd.pair,Kd.int,Kd.scalar] using hq
    rw [this];exact Ne.symm h3
  exact ⟨⟨okd,okm,ha,Kd.QU hx hb hp j u,Kd.QU hy hb hp j u⟩,Kd.VX hz hb hr j u⟩
theorem AU.reads (h : AU w base vd vm vl e) : ∃ Ad cd Am cm Al cl,vd = .slice Ad e.disk.length cd ∧ vm = .slice Am e.mem.length cm ∧ vl = .slice Al e.log.length cl ∧ e.log.length ≤ cl ∧ DF w e Ad Am Al:=by
  obtain ⟨⟨okd,okm,_,hx,hy⟩,hz⟩:=h
  obtain ⟨Ad,cd,h1,_,h2⟩:=Kd.CJ hx
  obtain ⟨Am,cm,h3,_,h4⟩:=Kd.CJ hy
  obtain ⟨Al,cl,h5,h6,h7⟩:=Kd.DK hz
  exact ⟨Ad,cd,Am,cm,Al,cl,h1,h3,h5,h6,h2,h4,h7⟩
theorem AU.mk2 {w0 : World} {ps qs : List Page} {l : List Rec} (hd : CB w0 base (fun _ => True) vd ps) (hm : CB w1 w0.heap.size (fun _ => True) vm qs) (hb : Below w0.heap.size w0 w1) (hbase : base ≤ w0.heap.size) (hl : OwnRs w1 base vl l) {s : Int} {d : Bool} : AU w1 base vd vm vl ⟨ps,qs,l,s,d⟩:=
  ⟨⟨fun k => True ∧ k < w0.heap.size,fun k => w0.heap.size ≤ k,fun k h1 h2 => by omega,Kd.Ep hd hb,Kd.E8 (Kd.Dh (Kd.Dy hm) (fun k hk => hk.2.1)) hbase⟩,hl⟩
end
def RV (w : World) (e : Eng) (x : Ending) (w' : World) : Prop := ∃ vd vm vl,x = .returned (e.ag vd vm vl) ∧ AU w' w.heap.size vd vm vl e ∧ Below w.heap.size w w'
end Go.Proofs.YtpjmlpmhgfghbaaGreat
namespace Go.Proofs.YtpjmlpmhgfghbaaGreat
open Go.RowKit Go.Proofs.YtpjmlpmhgfghbaaGreatW.PrintWords Go.Proofs.YtpjmlpmhgfghbaaGreatW.PrintLast Go.Proofs.YtpjmlpmhgfghbaaGreatW.PrintMore
def TwoPs (w : World) (base : Nat) (vd vm : Value) (ps qs : List Page) : Prop := ∃ okd okm : Nat → Prop,(∀ k,okd k → okm k → False) ∧ CB w base okd vd ps ∧ CB w base okm vm qs
theorem TwoPs.below {w w1 : World} {base : Nat} {vd vm : Value} {ps qs : List Page} (h : TwoPs w base vd vm ps qs) (hb : Below w.heap.size w w1) : TwoPs w1 base vd vm ps qs:=by
  obtain ⟨okd,okm,h1,h2,h3⟩:=h
  exact ⟨okd,okm,h1,Kd.Bu h2 hb,Kd.Bu h3 hb⟩
theorem TwoPs.mk {w0 w1 : World} {base : Nat} {vd vm : Value} {ps qs : List Page} (hd : CB w0 base (fun _ => True) vd ps) (hm : CB w1 w0.heap.size (fun _ => True) vm qs) (hb : Below w0.heap.size w0 w1) (hbase : base ≤ w0.heap.size) : TwoPs w1 base vd vm ps qs:=
  ⟨fun k => True ∧ k < w0.heap.size,fun k => w0.heap.size ≤ k,fun k h1 h2 => by omega,Kd.Ep hd hb,Kd.E8 (Kd.Dh (Kd.Dy hm) (fun k hk => hk.2.1)) hbase⟩
theorem TwoPs.eng {w : World} {base : Nat} {vd vm vl : Value} {e : Eng} (h : TwoPs w base vd vm e.disk e.mem) (hl : OwnRs w base vl e.log) : AU w base vd vm vl e:=⟨h,hl⟩
def Sl2 (i s j t : Nat) (p : Value → Value → World → Prop) (l : Array Bool) (a : Act) (w : World) : Prop:=l.getD i false = true → l.getD j false = true → p (a.tmps.getD s undef) (a.tmps.getD t undef) w
theorem Bc {k i s j t d : Nat} {p : Value → Value → World → Prop} (h1 : (d == s) = false) (h2 : (d == t) = false) (h3 : (k == i) = false) (h4 : (k == j) = false) : Keeps (Sl2 i s j t p) k (some d):=fun l a v w => by
  have h1 : d ≠ s:=by simpa using h1
  have h2 : d ≠ t:=by simpa using h2
  have h3 : k ≠ i:=by simpa using h3
  have h4 : k ≠ j:=by simpa using h4
  have e1 : (a.put (some d) v).tmps.getD s undef = a.tmps.getD s undef:=by simp [Act.put,h1]
  have e2 : (a.put (some d) v).tmps.getD t undef = a.tmps.getD t undef:=by simp [Act.put,h2]
  have e3 : (l.setIfInBounds k true).getD i false = l.getD i false:=getD_set_ne false h3
  have e4 : (l.setIfInBounds k true).getD j false = l.getD j false:=getD_set_ne false h4
  rw [Sl2,Sl2,e1,e2,e3,e4]
theorem LY {n i s j t : Nat} {p : Value → Value → World → Prop} {a : Act} {w : World} : Sl2 i s j t p (lsd n []) a w:=fun h => by
  rw [JQ] at h
  simp [Array.getD] at h
def zE : Eng:=⟨[], [], [],0,false⟩
abbrev Az (w : World) (g : Nat) (e : Eng) (vd vm vl : Value) : World:=((((w.setCell ⟨g,0,none⟩ vd).setCell ⟨g,1,none⟩ vm).setCell ⟨g,2,none⟩ vl).setCell ⟨g,3,none⟩ (.int .i64 e.safe)).setCell ⟨g,4,none⟩ (.bool e.down)
theorem Ai.Az {w : World} {g : Nat} {q : Eng} {ud um ul : Value} (h : Ai w g q ud um ul) (e : Eng) (vd vm vl : Value) : Ai (Az w g e vd vm vl) g e vd vm vl:=(((((h.set0 vd).set1 vm).set2 vl).Cu e.safe).Wh e.down)
theorem Ai.blk {w : World} {g : Nat} {q : Eng} {ud um ul : Value} (h : Ai w g q ud um ul) : w.heap[g]? = some (.cells #[ud,um,ul, .int .i64 q.safe, .bool q.down] 28 (0,0)):=h
theorem AU.Az {w : World} {b g : Nat} {vd vm vl xd xm xl ud um ul : Value} {e q f : Eng} (h : AU w b vd vm vl e) (hg : Ai w g q ud um ul) : AU (Az w g f xd xm xl) b vd vm vl e:=by
  have n1 : 28 ≠ 81:=by decide
  have n2 : 28 ≠ 3:=by decide
  have n3 : 28 ≠ 98:=by decide
  exact ((((h.set hg.blk n1 n2 n3 0 xd).set (hg.set0 xd).blk n1 n2 n3 1 xm).set ((hg.set0 xd).set1 xm).blk n1 n2 n3 2 xl).set (((hg.set0 xd).set1 xm).set2 xl).blk n1 n2 n3 3 _).set ((((hg.set0 xd).set1 xm).set2 xl).Cu f.safe).blk n1 n2 n3 4 _
theorem Ak {w0 w : World} {g : Nat} (h : Below w0.heap.size w0 w) (hg : w0.heap.size ≤ g) (e : Eng) (vd vm vl : Value) : Below w0.heap.size w0 (Go.Proofs.YtpjmlpmhgfghbaaGreat.Az w g e vd vm vl):=((((h.setCell (p:=⟨g,0,none⟩) hg _).setCell (p:=⟨g,1,none⟩) hg _).setCell (p:=⟨g,2,none⟩) hg _).setCell (p:=⟨g,3,none⟩) hg _).setCell (p:=⟨g,4,none⟩) hg _
set_option maxRecDepth 100000 in
set_option maxHeartbeats 8000000 in
theorem AV {w0 w : World} {e : Eng} {Ad Am Al : Option Addr} {cd cm cl : Nat} (hd : geo e.disk) (hm : geo e.mem) (hl : e.log.length ≤ 150) (hb : Below w0.heap.size w0 w) (hr : DF w0 e Ad Am Al) : Calls Tryz.prog 38 #[e.val Ad Am Al cd cm cl] w (RV w e):=by
  have HR:=As (hr.up hb)
  have HD:=As hd
  have HM:=As hm
  have HL:=As hl
  clear hr hb hd hm hl
  obtain ⟨w1,hw1⟩ : ∃ w1,w.alloc (e.obox (.slice Ad e.disk.length cd) (.slice Am e.mem.length cm) (.slice Al e.log.length cl)) = w1:=⟨_,rfl⟩
  obtain ⟨w2,hw2⟩ : ∃ w2,w1.alloc (zE.obox (.slice none 0 0) (.slice none 0 0) (.slice none 0 0)) = w2:=⟨_,rfl⟩
  have hz1 : w1.heap.size = w.heap.size + 1:=by rw [← hw1];exact BA _ _
  have hz2 : w2.heap.size = w.heap.size + 2:=by rw [← hw2,BA,hz1]
  have hb12 : Below w1.heap.size w1 w2:=by rw [← hw2];exact Ah (Below.refl _ _) _
  have HB2 : Ac (Below w.heap.size w w2):=⟨by rw [← hw2, ← hw1];exact Ah (Ah (Below.refl _ _) _) _⟩
  have HQ2 : Ac (Ai w2 w.heap.size e (.slice Ad e.disk.length cd) (.slice Am e.mem.length cm) (.slice Al e.log.length cl)):=⟨Ai.up (by rw [← hw1];exact Ai.mk1 _ _ _ _ _) hb12⟩
  have HP2 : Ac (Ai w2 (w.heap.size + 1) zE (.slice none 0 0) (.slice none 0 0) (.slice none 0 0)):=⟨by rw [← hw2, ← hz1];exact Ai.mk1 _ _ _ _ _⟩
  have HW2 : Ac ((w.alloc (e.obox (.slice Ad e.disk.length cd) (.slice Am e.mem.length cm) (.slice Al e.log.length cl))).alloc (zE.obox (.slice none 0 0) (.slice none 0 0) (.slice none 0 0)) = w2):=⟨by rw [hw1,hw2]⟩
  have HZ2:=As hz2
  clear hw1 hw2 hz1 hz2 hb12
  go_enter Tryz.func38,Tryz.ntmps38
  go_wp2
  rw [show (w.alloc (Obj.cells #[Value.slice Ad e.disk.length cd,Value.slice Am e.mem.length cm,Value.slice Al e.log.length cl,Value.int IntKind.i64 e.safe,Value.bool e.down] 28)).alloc (Obj.cells #[Value.slice none 0 0,Value.slice none 0 0,Value.slice none 0 0,Value.int IntKind.i64 0,Value.bool false] 28) = w2 from HW2.out]
  refine AX (fun lx a wx => (Below w.heap.size w wx ∧ w.heap.size + 2 ≤ wx.heap.size ∧ Ai wx w.heap.size e (.slice Ad e.disk.length cd) (.slice Am e.mem.length cm) (.slice Al e.log.length cl) ∧ Ai wx (w.heap.size + 1) zE (.slice none 0 0) (.slice none 0 0) (.slice none 0 0)) ∧ (Sl 2 5 (fun v wx => EA wx (w.heap.size + 2) v e.disk) lx a wx ∧ (Sl2 2 5 5 8 (fun v u wx => TwoPs wx (w.heap.size + 2) v u e.disk e.mem) lx a wx ∧ Sl 8 11 (fun v wx => OwnRs wx (w.heap.size + 2) v e.log) lx a wx))) 14 rfl (by kernel_rfl) (⟨⟨Aj HB2.out,by have:=HZ2.out;show _ ≤ w2.heap.size;omega,HQ2.out.up (Aj (Below.refl _ _)),HP2.out.up (Aj (Below.refl _ _))⟩,AZ,LY,AZ⟩) (fun HT => ?_)
  refine Ae (i:=0) (v:=?_) HT rfl (by kernel_rfl) rfl (kA Aa (kA (Ab rfl rfl) (kA (Bc rfl rfl rfl rfl) (Ab rfl rfl)))) (by rfl) (fun _ _ _ h => h) (fun lx ax wx hS => ?_) ?_;rotate_left;(obtain ⟨⟨-, -,hq, -⟩, -⟩:=hS;have x0:=hq.c0;have x1:=hq.c1;have x2:=hq.c2;have x3:=hq.c3;have x4:=hq.c4;clear hq;go_simp;with_reducible rfl);rotate_left;simp only [sc0,sc1]
  refine Ae (i:=1) (v:=?_) HT rfl (by kernel_rfl) rfl (kA Aa (kA (Ab rfl rfl) (kA (Bc rfl rfl rfl rfl) (Ab rfl rfl)))) (by rfl) (fun _ _ _ h => h) (fun lx ax wx hS => ?_) ?_;rotate_left;(obtain ⟨⟨-, -,hq, -⟩, -⟩:=hS;have x0:=hq.c0;have x1:=hq.c1;have x2:=hq.c2;have x3:=hq.c3;have x4:=hq.c4;clear hq;go_simp;with_reducible rfl);rotate_left;simp only [sc0,sc1]
  refine Ae (i:=3) (v:=?_) HT rfl (by kernel_rfl) rfl (kA Aa (kA (Ab rfl rfl) (kA (Bc rfl rfl rfl rfl) (Ab rfl rfl)))) (by rfl) (fun _ _ _ h => h) (fun lx ax wx hS => ?_) ?_;rotate_left;(obtain ⟨⟨-, -,hq, -⟩, -⟩:=hS;have x0:=hq.c0;have x1:=hq.c1;have x2:=hq.c2;have x3:=hq.c3;have x4:=hq.c4;clear hq;go_simp;with_reducible rfl);rotate_left;simp only [sc0,sc1]
  refine Ae (i:=4) (v:=?_) HT rfl (by kernel_rfl) rfl (kA Aa (kA (Ab rfl rfl) (kA (Bc rfl rfl rfl rfl) (Ab rfl rfl)))) (by rfl) (fun _ _ _ h => h) (fun lx ax wx hS => ?_) ?_;rotate_left;(obtain ⟨⟨-, -,hq, -⟩, -⟩:=hS;have x0:=hq.c0;have x1:=hq.c1;have x2:=hq.c2;have x3:=hq.c3;have x4:=hq.c4;clear hq;go_simp;with_reducible rfl);rotate_left;simp only [sc0,sc1]
  refine Ae (i:=6) (v:=?_) HT rfl (by kernel_rfl) rfl (kA Aa (kA (Ab rfl rfl) (kA (Bc rfl rfl rfl rfl) (Ab rfl rfl)))) (by rfl) (fun _ _ _ h => h) (fun lx ax wx hS => ?_) ?_;rotate_left;(obtain ⟨⟨-, -,hq, -⟩, -⟩:=hS;have x0:=hq.c0;have x1:=hq.c1;have x2:=hq.c2;have x3:=hq.c3;have x4:=hq.c4;clear hq;go_simp;with_reducible rfl);rotate_left;simp only [sc0,sc1]
  refine Ae (i:=7) (v:=?_) HT rfl (by kernel_rfl) rfl (kA Aa (kA (Ab rfl rfl) (kA (Bc rfl rfl rfl rfl) (Ab rfl rfl)))) (by rfl) (fun _ _ _ h => h) (fun lx ax wx hS => ?_) ?_;rotate_left;(obtain ⟨⟨-, -,hq, -⟩, -⟩:=hS;have x0:=hq.c0;have x1:=hq.c1;have x2:=hq.c2;have x3:=hq.c3;have x4:=hq.c4;clear hq;go_simp;with_reducible rfl);rotate_left;simp only [sc0,sc1]
  refine Ae (i:=9) (v:=?_) HT rfl (by kernel_rfl) rfl (kA Aa (kA (Ab rfl rfl) (kA (Bc rfl rfl rfl rfl) (Ab rfl rfl)))) (by rfl) (fun _ _ _ h => h) (fun lx ax wx hS => ?_) ?_;rotate_left;(obtain ⟨⟨-, -,hq, -⟩, -⟩:=hS;have x0:=hq.c0;have x1:=hq.c1;have x2:=hq.c2;have x3:=hq.c3;have x4:=hq.c4;clear hq;go_simp;with_reducible rfl);rotate_left;simp only [sc0,sc1]
  refine Ae (i:=10) (v:=?_) HT rfl (by kernel_rfl) rfl (kA Aa (kA (Ab rfl rfl) (kA (Bc rfl rfl rfl rfl) (Ab rfl rfl)))) (by rfl) (fun _ _ _ h => h) (fun lx ax wx hS => ?_) ?_;rotate_left;(obtain ⟨⟨-, -,hq, -⟩, -⟩:=hS;have x0:=hq.c0;have x1:=hq.c1;have x2:=hq.c2;have x3:=hq.c3;have x4:=hq.c4;clear hq;go_simp;with_reducible rfl);rotate_left;simp only [sc0,sc1]
  refine Ae (i:=11) (v:=?_) HT rfl (by kernel_rfl) rfl (kA Aa (kA (Ab rfl rfl) (kA (Bc rfl rfl rfl rfl) (Ab rfl rfl)))) (by rfl) (fun _ _ _ h => h) (fun lx ax wx hS => ?_) ?_;rotate_left;(obtain ⟨⟨-, -,hq, -⟩, -⟩:=hS;have x0:=hq.c0;have x1:=hq.c1;have x2:=hq.c2;have x3:=hq.c3;have x4:=hq.c4;clear hq;go_simp;with_reducible rfl);rotate_left;simp only [sc0,sc1]
  refine Ae (i:=12) (v:=?_) HT rfl (by kernel_rfl) rfl (kA Aa (kA (Ab rfl rfl) (kA (Bc rfl rfl rfl rfl) (Ab rfl rfl)))) (by rfl) (fun _ _ _ h => h) (fun lx ax wx hS => ?_) ?_;rotate_left;(obtain ⟨⟨-, -,hq, -⟩, -⟩:=hS;have x0:=hq.c0;have x1:=hq.c1;have x2:=hq.c2;have x3:=hq.c3;have x4:=hq.c4;clear hq;go_simp;with_reducible rfl);rotate_left;simp only [sc0,sc1]
  refine BR (i:=2) (f:=49) (args:=#[.slice Ad e.disk.length cd]) (fun v => ∃ A1 c1,v = .slice A1 e.disk.length c1) rfl (by kernel_rfl) rfl Tryz.func49 (by kernel_rfl) rfl rfl (by rfl) (by simp only [List.map_toArray,List.map_cons,List.map_nil];rfl) (fun wx hS => (EF (Fv HD.out) (by have:=HD.out.1;omega) hS.1.1 HR.out.d).mono (by rintro x w6 ⟨v,rfl,ho,hb⟩;obtain ⟨A1,c1,rfl, -, -⟩:=Kd.CJ ho;exact ⟨_,rfl,⟨A1,c1,rfl⟩,⟨bj hS.1.1 hb,Nat.le_trans hS.1.2.1 hb.size,hS.1.2.2.1.up hb,hS.1.2.2.2.up hb⟩,fun _ => Kd.E8 ho hS.1.2.1,fun _ h => (AA h (by kernel_rfl)).elim,fun h => (AA h (by kernel_rfl)).elim⟩)) (fun vx hg => ?_);simp only [sc0,sc1]
  obtain ⟨Bd,dd,rfl⟩:=hg
  refine BR (i:=5) (f:=49) (args:=#[.slice Am e.mem.length cm]) (fun v => ∃ A1 c1,v = .slice A1 e.mem.length c1) rfl (by kernel_rfl) rfl Tryz.func49 (by kernel_rfl) rfl rfl (by rfl) (by simp only [List.map_toArray,List.map_cons,List.map_nil];rfl) (fun wx hS => (EF (Fv HM.out) (by have:=HM.out.1;omega) hS.1.1 HR.out.m).mono (by rintro x w6 ⟨v,rfl,ho,hb⟩;obtain ⟨A1,c1,rfl, -, -⟩:=Kd.CJ ho;exact ⟨_,rfl,⟨A1,c1,rfl⟩,⟨bj hS.1.1 hb,Nat.le_trans hS.1.2.1 hb.size,hS.1.2.2.1.up hb,hS.1.2.2.2.up hb⟩,fun _ => Kd.Bu (hS.2.1 (by kernel_rfl)) hb,fun _ _ => TwoPs.mk (hS.2.1 (by kernel_rfl)) ho hb hS.1.2.1,fun h => (AA h (by kernel_rfl)).elim⟩)) (fun vx hg => ?_);simp only [sc0,sc1]
  obtain ⟨Bm,dm,rfl⟩:=hg
  refine BR (i:=8) (f:=90) (args:=#[.slice Al e.log.length cl]) (fun v => ∃ A1 c1,v = .slice A1 e.log.length c1) rfl (by kernel_rfl) rfl Tryz.func90 (by kernel_rfl) rfl rfl (by rfl) (by simp only [List.map_toArray,List.map_cons,List.map_nil];rfl) (fun wx hS => (Lv HL.out hS.1.1 HR.out.l).mono (by rintro x w6 ⟨v,rfl,ho,hb⟩;obtain ⟨A1,c1,rfl, -, -⟩:=Kd.DK ho;exact ⟨_,rfl,⟨A1,c1,rfl⟩,⟨bj hS.1.1 hb,Nat.le_trans hS.1.2.1 hb.size,hS.1.2.2.1.up hb,hS.1.2.2.2.up hb⟩,fun _ => Kd.Bu (hS.2.1 (by kernel_rfl)) hb,fun _ _ => (hS.2.2.1 (by kernel_rfl) (by kernel_rfl)).below hb,fun _ => Kd.Gu ho hS.1.2.1⟩)) (fun vx hg => ?_);simp only [sc0,sc1]
  obtain ⟨Bl,dl,rfl⟩:=hg
  refine Ae (i:=13) (v:=?_) HT rfl (by kernel_rfl) rfl (kA Aa (kA (Ab rfl rfl) (kA (Bc rfl rfl rfl rfl) (Ab rfl rfl)))) (by rfl) (fun _ _ _ h => h) (fun lx ax wx hS => ?_) ?_;rotate_left;(go_simp;with_reducible rfl);rotate_left;simp only [sc0,sc1]
  refine BQ (i:=14) (by kernel_rfl) rfl (fun wx hS => ?_)
  obtain ⟨⟨h1,h2, -,hy⟩, -,hs2,hs3⟩:=hS
  have ho : AU wx (w.heap.size + 2) (.slice Bd e.disk.length dd) (.slice Bm e.mem.length dm) (.slice Bl e.log.length dl) e:=TwoPs.eng (hs2 (by kernel_rfl) (by kernel_rfl)) (hs3 (by kernel_rfl))
  clear hs2 hs3
  have y0:=hy.c0
  have y1:=hy.c1
  have y2:=hy.c2
  have y3:=hy.c3
  have y4:=hy.c4
  have f0:=hy.frz 0
  have f1:=hy.frz 1
  have f2:=hy.frz 2
  have f3:=hy.frz 3
  have f4:=hy.frz 4
  refine Bh (w1:=Go.Proofs.YtpjmlpmhgfghbaaGreat.Az wx (w.heap.size + 1) e (.slice Bd e.disk.length dd) (.slice Bm e.mem.length dm) (.slice Bl e.log.length dl)) rfl (by rfl) (by go_simp) ?_
  have hy2:=hy.Az e (.slice Bd e.disk.length dd) (.slice Bm e.mem.length dm) (.slice Bl e.log.length dl)
  have ho2:=ho.Az (f:=e) (xd:=.slice Bd e.disk.length dd) (xm:=.slice Bm e.mem.length dm) (xl:=.slice Bl e.log.length dl) hy
  have h3:=Ak (g:=w.heap.size + 1) h1 (by omega) e (.slice Bd e.disk.length dd) (.slice Bm e.mem.length dm) (.slice Bl e.log.length dl)
  have z0:=hy2.c0
  have z1:=hy2.c1
  have z2:=hy2.c2
  have z3:=hy2.c3
  have z4:=hy2.c4
  refine BB (by kernel_rfl) ?_
  go_wp2
  exact bodyPost_ret (v:=e.ag (.slice Bd e.disk.length dd) (.slice Bm e.mem.length dm) (.slice Bl e.log.length dl)) (by simp [results,Tryz.results38,go_sem,z0,z1,z2,z3,z4]) rfl ⟨_,_,_,rfl,ho2.lower (by omega),h3⟩
def OI (w : World) (e : Ending) (w' : World) : Prop:=e = .returned (.bool true) ∧ Below w.heap.size w w'
theorem Ld (x : Int) : (x != x) = false:=by simp
theorem Pq (x : Int) : (x == x) = true:=by simp
theorem UR (x : Bool) : (x == x) = true:=by simp
set_option maxHeartbeats 4000000 in
theorem P6 {w0 w1 w : World} {A B : Option Addr} {c d : Nat} {xs : List Int} (hb : Below w0.heap.size w0 w) (hr : Kd.C (Kd.int .i64) w0 A xs.length xs) (hb1 : Below w1.heap.size w1 w) (hr2 : Kd.C (Kd.int .i64) w1 B xs.length xs) : Calls Tryz.prog 128 #[.slice A xs.length c, .slice B xs.length d] w (OI w):=by
  have HR:=As (BM hr hb)
  have HR2:=As (BM hr2 hb1)
  have hm:=(D5 hr).2
  have hne:=Ld xs.length
  clear hr hb hr2 hb1
  go_enter Tryz.func128,Tryz.ntmps128
  go_wp2
  go_loopw [5] (fun i wr => ∃ k : Nat,k ≤ xs.length ∧ i = .int .i64 (k : Int) ∧ Ac (Below w.heap.size w wr)) (fun i _ => (xs.length - intOf i).toNat)
  case atStart => exact ⟨0,Nat.zero_le _,rfl,⟨Below.refl _ _⟩⟩
  case round =>
    obtain ⟨k,hk,rfl,HW⟩:=hrel
    by_cases hlt : k < xs.length
    · obtain ⟨ad,rfl,g0⟩:=Dk (BM HR.out HW.out) k hlt
      obtain ⟨bd,rfl,h0⟩:=Dk (BM HR2.out HW.out) k hlt
      have G0:=As g0
      have H0:=As h0
      have hni:=Ld (iv xs k)
      clear g0 h0
      go_wp2
      refine Bj (fun w' => Below wr.heap.size wr w') rfl rfl (by kernel_rfl) (Aj (Below.refl _ _)) (fun HT => ?_)
      repeat (first
        | (refine BX (fun wx hS => ?_))
        | (refine BH HT rfl (by rfl) (fun _ _ _ h => h) ?_;simp only [sc0,sc1])
        | (refine BV (v:=?_) HT rfl (by rfl) (fun _ _ _ h => h) (fun wx hS => ?_) ?_;rotate_left;(have g0:=bc hS G0.out;have h0:=bc hS H0.out;go_simp;with_reducible rfl);rotate_left;simp only [sc0,sc1]))
      have HX:=As (bj HW.out hS)
      clear hS
      go_wp2
      go_roundw
      case rel => exact ⟨k + 1,by omega,by go_num,HX⟩
      case measure => simp [intOf];omega
    · have HE:=As (show k = xs.length by omega)
      go_wp2
      go_ret
      exact ⟨rfl,HW.out⟩
set_option maxRecDepth 100000 in
set_option maxHeartbeats 4000000 in
theorem P5 {w0 w1 w : World} {A B : Option Addr} {c d : Nat} {p : Page} (hb : Below w0.heap.size w0 w) (hr : Kd.C (Kd.int .i64) w0 A p.vals.length p.vals) (hb1 : Below w1.heap.size w1 w) (hr2 : Kd.C (Kd.int .i64) w1 B p.vals.length p.vals) : Calls Tryz.prog 74 #[p.val A c,p.val B d] w (OI w):=by
  have HR:=As (BM hr hb)
  have HR2:=As (BM hr2 hb1)
  have HW:=As (bj (Pw w p A c) ((Below.refl _ _).alloc (Nat.le_refl _) (p.box B d)))
  have h1:=Pq p.lsn
  have h2:=Pq p.owner
  clear hr hb hr2 hb1
  go_enter Tryz.func74,Tryz.ntmps74
  go_wp2_with (first | (go_at_call 128;refine (P6 HW.out HR.out HW.out HR2.out).mono ?_;rintro x w9 ⟨rfl,hb9⟩;have HX:=As (bj HW.out hb9);clear hb9))
  go_ret
  exact ⟨rfl,HX.out⟩
set_option maxRecDepth 100000 in
set_option maxHeartbeats 4000000 in
theorem Kg {w0 w1 w : World} {A B : Option Addr} {c d : Nat} {xs : List Page} (hb : Below w0.heap.size w0 w) (hr : Kd.C Dw w0 A xs.length xs) (hb1 : Below w1.heap.size w1 w) (hr2 : Kd.C Dw w1 B xs.length xs) : Calls Tryz.prog 34 #[.slice A xs.length c, .slice B xs.length d] w (OI w):=by
  have HR:=As (BM hr hb)
  have HR2:=As (BM hr2 hb1)
  have hm:=(D5 hr).2
  have hne:=Ld xs.length
  clear hr hb hr2 hb1
  go_enter Tryz.func34,Tryz.ntmps34
  go_wp2
  go_loopw [5] (fun i wr => ∃ k : Nat,k ≤ xs.length ∧ i = .int .i64 (k : Int) ∧ Ac (Below w.heap.size w wr)) (fun i _ => (xs.length - intOf i).toNat)
  case atStart => exact ⟨0,Nat.zero_le _,rfl,⟨Below.refl _ _⟩⟩
  case round =>
    obtain ⟨k,hk,rfl,HW⟩:=hrel
    by_cases hlt : k < xs.length
    · obtain ⟨ad,A2,c2,rfl,QP, -,g2⟩:=Fz (BM HR.out HW.out) k hlt
      obtain ⟨bd,B2,d2,rfl,QP2, -,h2⟩:=Fz (BM HR2.out HW.out) k hlt
      have G2:=As g2
      have H2:=As h2
      have HQ:=As QP
      have HQ2:=As QP2
      clear g2 h2 QP QP2
      go_wp2
      refine Bj (fun w' => Below wr.heap.size wr w') rfl rfl (by kernel_rfl) (Aj (Below.refl _ _)) (fun HT => ?_)
      repeat (first
        | (refine BX (fun wx hS => ?_))
        | ((with_reducible refine BI (f:=74) rfl ?_);refine BJ (v:=.bool true) (args:=#[(pg xs k).val A2 c2,(pg xs k).val B2 d2]) HT rfl Tryz.func74 (by kernel_rfl) rfl rfl (by rfl) (fun _ _ _ h => h) (by simp only [List.map_toArray,List.map_cons,List.map_nil];rfl) (fun wx hS => (P5 hS G2.out hS H2.out).mono fun _ _ h => ⟨h.1,bj hS h.2⟩) ?_;simp only [sc0,sc1])
        | (refine BH HT rfl (by rfl) (fun _ _ _ h => h) ?_;simp only [sc0,sc1])
        | (refine BV (v:=?_) HT rfl (by rfl) (fun _ _ _ h => h) (fun wx hS => ?_) ?_;rotate_left;(obtain ⟨x0,x1,x2⟩:=HQ.out.up hS;obtain ⟨y0,y1,y2⟩:=HQ2.out.up hS;go_simp;with_reducible rfl);rotate_left;simp only [sc0,sc1]))
      have HX:=As (bj HW.out hS)
      clear hS
      go_wp2
      go_roundw
      case rel => exact ⟨k + 1,by omega,by go_num,HX⟩
      case measure => simp [intOf];omega
    · have HE:=As (show k = xs.length by omega)
      go_wp2
      go_ret
      exact ⟨rfl,HW.out⟩
set_option maxRecDepth 100000 in
set_option maxHeartbeats 4000000 in
theorem OZ {w0 w1 w : World} {A B : Option Addr} {c d : Nat} {xs : List Rec} (hb : Below w0.heap.size w0 w) (hr : Kd.C C8 w0 A xs.length xs) (hb1 : Below w1.heap.size w1 w) (hr2 : Kd.C C8 w1 B xs.length xs) : Calls Tryz.prog 35 #[.slice A xs.length c, .slice B xs.length d] w (OI w):=by
  have HR:=As (BM hr hb)
  have HR2:=As (BM hr2 hb1)
  have hm:=(D5 hr).2
  have hne:=Ld xs.length
  clear hr hb hr2 hb1
  go_enter Tryz.func35,Tryz.ntmps35
  go_wp2
  go_loopw [5] (fun i wr => ∃ k : Nat,k ≤ xs.length ∧ i = .int .i64 (k : Int) ∧ Ac (Below w.heap.size w wr)) (fun i _ => (xs.length - intOf i).toNat)
  case atStart => exact ⟨0,Nat.zero_le _,rfl,⟨Below.refl _ _⟩⟩
  case round =>
    obtain ⟨k,hk,rfl,HW⟩:=hrel
    by_cases hlt : k < xs.length
    · obtain ⟨ad,rfl,QP⟩:=Cb (BM HR.out HW.out) k hlt
      obtain ⟨bd,rfl,QP2⟩:=Cb (BM HR2.out HW.out) k hlt
      have HQ:=As QP
      have HQ2:=As QP2
      clear QP QP2
      go_wp2
      refine Bj (fun w' => Below wr.heap.size wr w') rfl rfl (by kernel_rfl) (Aj (Below.refl _ _)) (fun HT => ?_)
      repeat (first
        | (refine BX (fun wx hS => ?_))
        | (refine BH HT rfl (by rfl) (fun _ _ _ h => h) ?_;simp only [sc0,sc1])
        | (refine BV (v:=?_) HT rfl (by rfl) (fun _ _ _ h => h) (fun wx hS => ?_) ?_;rotate_left;(obtain ⟨x0,x1,x2,x3,x4,x5,x6,x7⟩:=HQ.out.up hS;obtain ⟨y0,y1,y2,y3,y4,y5,y6,y7⟩:=HQ2.out.up hS;go_simp;with_reducible rfl);rotate_left;simp only [sc0,sc1]))
      have HX:=As (bj HW.out hS)
      clear hS
      go_wp2
      go_roundw
      case rel => exact ⟨k + 1,by omega,by go_num,HX⟩
      case measure => simp [intOf];omega
    · have HE:=As (show k = xs.length by omega)
      go_wp2
      go_ret
      exact ⟨rfl,HW.out⟩
set_option maxRecDepth 100000 in
set_option maxHeartbeats 8000000 in
theorem GK {w0 w1 w : World} {e : Eng} {Ad Am Al Bd Bm Bl : Option Addr} {cd cm cl dd dm dl : Nat} (hb : Below w0.heap.size w0 w) (hr : DF w0 e Ad Am Al) (hb1 : Below w1.heap.size w1 w) (hr2 : DF w1 e Bd Bm Bl) : Calls Tryz.prog 10 #[e.val Ad Am Al cd cm cl,e.val Bd Bm Bl dd dm dl] w (OI w):=by
  have HR:=As (hr.up hb)
  have HR2:=As (hr2.up hb1)
  have h1:=Pq e.safe
  have h2:=UR e.down
  clear hr hb hr2 hb1
  obtain ⟨w2,hw2⟩ : ∃ w2,w.alloc (e.obox (.slice Ad e.disk.length cd) (.slice Am e.mem.length cm) (.slice Al e.log.length cl)) = w2:=⟨_,rfl⟩
  obtain ⟨w3,hw3⟩ : ∃ w3,w2.alloc (e.obox (.slice Bd e.disk.length dd) (.slice Bm e.mem.length dm) (.slice Bl e.log.length dl)) = w3:=⟨_,rfl⟩
  have HW3 : Ac ((w.alloc (e.obox (.slice Ad e.disk.length cd) (.slice Am e.mem.length cm) (.slice Al e.log.length cl))).alloc (e.obox (.slice Bd e.disk.length dd) (.slice Bm e.mem.length dm) (.slice Bl e.log.length dl)) = w3):=⟨by rw [hw2,hw3]⟩
  have HX : Ac (Below w.heap.size w w3):=⟨by rw [← hw3, ← hw2];exact Ah (Ah (Below.refl _ _) _) _⟩
  have hz : w2.heap.size = w.heap.size + 1:=by rw [← hw2,BA]
  have hq1 : Ai w3 w.heap.size e (.slice Ad e.disk.length cd) (.slice Am e.mem.length cm) (.slice Al e.log.length cl):=by
    have : Ai w2 w.heap.size e (.slice Ad e.disk.length cd) (.slice Am e.mem.length cm) (.slice Al e.log.length cl):=by rw [← hw2];exact Ai.mk1 _ _ _ _ _
    rw [← hw3]
    exact this.up (Ah (Below.refl _ _) _)
  have hq2 : Ai w3 (w.heap.size + 1) e (.slice Bd e.disk.length dd) (.slice Bm e.mem.length dm) (.slice Bl e.log.length dl):=by
    rw [← hw3, ← hz]
    exact Ai.mk1 _ _ _ _ _
  have x0:=hq1.c0
  have x1:=hq1.c1
  have x2:=hq1.c2
  have x3:=hq1.c3
  have x4:=hq1.c4
  have y0:=hq2.c0
  have y1:=hq2.c1
  have y2:=hq2.c2
  have y3:=hq2.c3
  have y4:=hq2.c4
  clear hw2 hw3 hz hq1 hq2
  go_enter Tryz.func10,Tryz.ntmps10
  go_wp2_with (first | (go_at_call 34;rw [HW3.out];refine (Kg (c:=cd) (d:=dd) HX.out HR.out.d HX.out HR2.out.d).mono ?_;rintro x w9 ⟨rfl,hb9⟩;have HX:=As (bj HX.out hb9);replace x0:=bc hb9 x0;replace x1:=bc hb9 x1;replace x2:=bc hb9 x2;replace x3:=bc hb9 x3;replace x4:=bc hb9 x4;replace y0:=bc hb9 y0;replace y1:=bc hb9 y1;replace y2:=bc hb9 y2;replace y3:=bc hb9 y3;replace y4:=bc hb9 y4;clear hb9) | (go_at_call 34;refine (Kg (c:=cm) (d:=dm) HX.out HR.out.m HX.out HR2.out.m).mono ?_;rintro x w9 ⟨rfl,hb9⟩;have HX:=As (bj HX.out hb9);replace x0:=bc hb9 x0;replace x1:=bc hb9 x1;replace x2:=bc hb9 x2;replace x3:=bc hb9 x3;replace x4:=bc hb9 x4;replace y0:=bc hb9 y0;replace y1:=bc hb9 y1;replace y2:=bc hb9 y2;replace y3:=bc hb9 y3;replace y4:=bc hb9 y4;clear hb9) | (go_at_call 35;refine (OZ (c:=cl) (d:=dl) HX.out HR.out.l HX.out HR2.out.l).mono ?_;rintro x w9 ⟨rfl,hb9⟩;have HX:=As (bj HX.out hb9);replace x0:=bc hb9 x0;replace x1:=bc hb9 x1;replace x2:=bc hb9 x2;replace x3:=bc hb9 x3;replace x4:=bc hb9 x4;replace y0:=bc hb9 y0;replace y1:=bc hb9 y1;replace y2:=bc hb9 y2;replace y3:=bc hb9 y3;replace y4:=bc hb9 y4;clear hb9))
  go_ret
  exact ⟨rfl,HX.out⟩
structure Wrote (w W : World) (S : Nat → Prop) : Prop where
  os : W.os = w.os
  tape : W.tape = w.tape
  output : W.output = w.output
  kept : Kept w W S
section
variable {w W W2 : World} {S S2 : Nat → Prop}
theorem Wrote.refl (w : World) (S : Nat → Prop) : Wrote w w S:=⟨rfl,rfl,rfl,Kept.refl _ _⟩
theorem Wrote.of_below (h : Below w.heap.size w W) (S : Nat → Prop) : Wrote w W S:=⟨h.os,h.tape,h.output,Kept.of_below h S⟩
theorem Wrote.CG (h : Wrote w W S) (k : Wrote W W2 S2) (hs : ∀ k,S2 k → S k ∨ w.heap.size ≤ k) : Wrote w W2 S:=⟨k.os.trans h.os,k.tape.trans h.tape,k.output.trans h.output,h.kept.CG k.kept hs⟩
theorem Wrote.setCell (h : Wrote w W S) {p : Addr} (hp : S p.block ∨ w.heap.size ≤ p.block) (u : Value) : Wrote w (W.setCell p u) S:=⟨h.os,h.tape,h.output,h.kept.setCell hp u⟩
theorem Wrote.bel {N : Nat} (h : Wrote w W S) (hS : ∀ k,S k → N ≤ k) (hN : N ≤ w.heap.size) : Below N w W:=⟨h.os,h.tape,h.output,h.kept.1,fun k hk => h.kept.2 k (by omega) (fun hs => by have:=hS k hs;omega)⟩
end
abbrev RI (w : World) (b : Nat) (ok : Nat → Prop) (v : Value) (xs : List Int) : Prop:=(Kd.int .i64).R 3 w b ok v xs
theorem RI.cell {w : World} {b : Nat} {ok : Nat → Prop} {g n cap : Nat} {xs : List Int} (h : RI w b ok (.slice (some ⟨g,0,none⟩) n cap) xs) {i : Nat} (hi : i < n) : w.cell? ⟨g,i,none⟩ = some (.int .i64 (iv xs i)) ∧ w.frozen? ⟨g,i,none⟩ = false:=by
  have h1:=Kd.VI 0 h (i : Int) (by omega) (by omega)
  rw [Int.toNat_natCast] at h1
  have hn:=(Kd.DT h).1
  have e : TB 0 xs (i : Int) = iv xs i:=by simp [TB,iv]
  rw [e] at h1
  exact h1
theorem RI.put {w : World} {b : Nat} {ok : Nat → Prop} {g n cap : Nat} {xs : List Int} (h : RI w b ok (.slice (some ⟨g,0,none⟩) n cap) xs) (i : Nat) (x : Int) : RI (w.setCell ⟨g,i,none⟩ (.int .i64 x)) b ok (.slice (some ⟨g,0,none⟩) n cap) (xs.set i x):=by
  obtain rfl : n = xs.length:=(Kd.DT h).1
  have:=(Kd.WH h (i : Int) x).1
  rw [Int.toNat_natCast] at this
  exact this
theorem RI.len {w : World} {b : Nat} {ok : Nat → Prop} {v : Value} {xs : List Int} (h : RI w b ok v xs) : xs.length ≤ 9223372036854775807:=by
  obtain ⟨A,c,rfl, -,hc⟩:=Kd.DK h
  exact (D5 hc).2
end Go.Proofs.YtpjmlpmhgfghbaaGreat
namespace Go.Proofs.YtpjmlpmhgfghbaaGreat
open Go.RowKit Go.Proofs.YtpjmlpmhgfghbaaGreatW.PrintWords Go.Proofs.YtpjmlpmhgfghbaaGreatW.PrintLast Go.Proofs.YtpjmlpmhgfghbaaGreatW.PrintMore
def CR (w : World) (g : Nat) (A : Option Addr) (n c : Nat) (p : Int) : Prop:=w.heap[g]? = some (.cells #[.slice A n c, .int .i64 p] 91 (0,0))
section
variable {w w1 : World} {g n c : Nat} {A : Option Addr} {p : Int}
theorem CR.c0 (h : CR w g A n c p) : w.cell? ⟨g,0,none⟩ = some (.slice A n c):=by unfold CR at h;simp [World.cell?,h]
theorem CR.c1 (h : CR w g A n c p) : w.cell? ⟨g,1,none⟩ = some (.int .i64 p):=by unfold CR at h;simp [World.cell?,h]
theorem CR.frz (h : CR w g A n c p) (k : Nat) : w.frozen? ⟨g,k,none⟩ = false:=by unfold CR at h;simp [World.frozen?,h]
theorem CR.lt (h : CR w g A n c p) : g < w.heap.size:=(Array.getElem?_eq_some_iff.1 h).1
theorem CR.up (h : CR w g A n c p) (hb : Below w.heap.size w w1) : CR w1 g A n c p:=(hb.block g h.lt).trans h
theorem CR.set1 (h : CR w g A n c p) (x : Int) : CR (w.setCell ⟨g,1,none⟩ (.int .i64 x)) g A n c x:=heap_setCell_same h _
end
theorem xor_i64 (a b : Nat) (ha : a < 4611686018427387904) (hb : b < 4611686018427387904) : bits .xor .i64 (a : Int) (b : Int) = ((a ^^^ b : Nat) : Int):=by
  have hx : a ^^^ b < 2 ^ 62:=Nat.xor_lt_two_pow (by omega) (by omega)
  have h1 : (BitVec.ofInt 64 (a : Int)).toNat = a:=by
    rw [BitVec.ofInt_natCast,BitVec.toNat_ofNat];exact Nat.mod_eq_of_lt (by omega)
  have h2 : (BitVec.ofInt 64 (b : Int)).toNat = b:=by
    rw [BitVec.ofInt_natCast,BitVec.toNat_ofNat];exact Nat.mod_eq_of_lt (by omega)
  show IntKind.i64.wrap ((BitVec.ofInt 64 (a : Int) ^^^ BitVec.ofInt 64 (b : Int)).toNat : Int) = _
  rw [BitVec.toNat_xor,h1,h2,IntWalk.i64_in _ ⟨by omega,by omega⟩]
theorem Vg {x m : Int} (h0 : 0 ≤ x) (h1 : x < 4611686018427387904) (hm : 1 ≤ m) : 0 ≤ (bits .xor .i64 x (x / 64)).tmod m ∧ (bits .xor .i64 x (x / 64)).tmod m < m:=by
  obtain ⟨n,rfl⟩ : ∃ n : Nat,x = n:=⟨x.toNat,by omega⟩
  have hd : ((n : Int) / 64) = ((n / 64 : Nat) : Int):=by omega
  rw [hd,xor_i64 _ _ (by omega) (by omega),Int.tmod_eq_emod_of_nonneg (by omega)]
  exact ⟨Int.emod_nonneg _ (by omega),Int.emod_lt_of_pos _ (by omega)⟩
theorem T9 {w : World} {A : Option Addr} {n : Nat} {xs : List Int} (h : Kd.C (Kd.int .u8) w A n xs) (i : Nat) (h1 : i < n) : ∃ ad,A = some ad ∧ w.cell? (ad.add i) = some (.int .u8 (iv xs i)):=by
  obtain ⟨ad,c,e,_,hK,hc0⟩:=Kd.R7 h 0 (i : Int) (by omega) (by omega)
  have hc : ∀ j u,c[j]? = some u → w.cell? (ad.add (i * 1 + j)) = some u:=hc0
  obtain rfl : c = [.int .u8 (iv xs i)]:=hK
  have:=hc 0 _ rfl
  rw [Nat.mul_one,Nat.add_zero] at this
  exact ⟨ad,e,this⟩
def Bytes (xs : List Int) : Prop := ∀ x ∈ xs,0 ≤ x ∧ x ≤ 255
theorem Bytes.at {xs : List Int} (h : Bytes xs) {i : Nat} (hi : i < xs.length) : 0 ≤ iv xs i ∧ iv xs i ≤ 255:=by
  have e : iv xs i = xs[i]:=by simp [iv,List.getD_eq_getElem?_getD,hi]
  rw [e]
  exact h _ (List.getElem_mem hi)
def VE (w : World) (g : Nat) (A : Option Addr) (n c : Nat) (p m : Int) (x : Ending) (w' : World) : Prop := ∃ k : Int,x = .returned (.int .i64 k) ∧ (1 ≤ m → 0 ≤ k ∧ k < m) ∧ CR w' g A n c (p + 1) ∧ Wrote w w' (fun j => j = g)
set_option maxRecDepth 100000 in
set_option maxHeartbeats 8000000 in
theorem IJ {wB w : World} {g c : Nat} {A : Option Addr} {xs : List Int} {p m : Int} (hp0 : 0 ≤ p) (hp1 : p ≤ 1000000) (hm0 : 1 ≤ m) (hm1 : m ≤ 1000) (hn : xs.length ≤ 2000) (hx : Bytes xs) (hb : Below wB.heap.size wB w) (hg : wB.heap.size ≤ g) (hr : Kd.C (Kd.int .u8) wB A xs.length xs) (hq : CR w g A xs.length c p) : Calls Tryz.prog 30 #[.pointer (some ⟨g,0,none⟩), .int .i64 m] w (VE w g A xs.length c p m):=by
  have hwr : IntKind.i64.wrap (p + 1) = p + 1:=by simp (disch:=omega) only [IntWalk.i64_in]
  have hm2 : decide (m < 1) = false:=by simp;omega
  have r0:=hq.c0
  have r1:=hq.c1
  have f1:=hq.frz 1
  have HQ:=As (hq.set1 (p + 1))
  have HW:=As ((Wrote.refl w (fun j => j = g)).setCell (p:=⟨g,1,none⟩) (.inl rfl) (.int .i64 (p + 1)))
  have HR:=As (BM hr (hb.setCell (p:=⟨g,1,none⟩) hg (.int .i64 (p + 1))))
  have s0:=HQ.out.c0
  have s1:=HQ.out.c1
  clear hr hb hq
  by_cases h0 : xs.length = 0
  · have h1 : ((xs.length : Int) == 0) = true:=by simp [h0]
    go_enter Tryz.func30,Tryz.ntmps30
    go_wp2
    go_ret
    exact ⟨0,rfl,fun _ => ⟨Int.le_refl _,by show (0 : Int) < m;omega⟩,HQ.out,HW.out⟩
  · have h1 : ((xs.length : Int) == 0) = false:=by rw [beq_eq_false_iff_ne];omega
    have hn0 : (0 : Int) < (xs.length : Int):=by omega
    have hsub : IntKind.i64.wrap (p + 1 - 1) = p:=by rw [Int.add_sub_cancel];simp (disch:=omega) only [IntWalk.i64_in]
    obtain ⟨k,rfl⟩ : ∃ k : Nat,p = k:=⟨p.toNat,by omega⟩
    by_cases hlt : k < xs.length
    · obtain ⟨ad,rfl,x0⟩:=T9 HR.out k hlt
      have hk:=hx.at hlt
      have hlt2 : decide ((k : Int) < (xs.length : Int)) = true:=by simp;omega
      go_enter Tryz.func30,Tryz.ntmps30
      go_wp2
      go_ret
      exact ⟨_,rfl,fun _ => ⟨Int.emod_nonneg _ (by omega),Int.emod_lt_of_pos _ (by omega)⟩,HQ.out,HW.out⟩
    · have hlt2 : decide ((k : Int) < (xs.length : Int)) = false:=by simp;omega
      obtain ⟨i1,hi1⟩ : ∃ i1 : Nat,(k : Int) % (xs.length : Int) = i1:=⟨(k % xs.length),by simp⟩
      have hi1' : i1 < xs.length:=by have:=Int.emod_lt_of_pos (k : Int) hn0;omega
      obtain ⟨i2,hi2⟩ : ∃ i2 : Nat,((k : Int) * 7 + 3) % (xs.length : Int) = i2:=⟨((k * 7 + 3) % xs.length),by simp⟩
      have hi2' : i2 < xs.length:=by have:=Int.emod_lt_of_pos ((k : Int) * 7 + 3) hn0;omega
      obtain ⟨ad,rfl,x1⟩:=T9 HR.out i1 hi1'
      obtain ⟨_,h,x2⟩:=T9 HR.out i2 hi2'
      injection h with h
      subst h
      have hb1:=hx.at hi1'
      have hb2:=hx.at hi2'
      obtain ⟨u1,hu1⟩ : ∃ u1,iv xs i1 = u1:=⟨_,rfl⟩
      obtain ⟨u2,hu2⟩ : ∃ u2,iv xs i2 = u2:=⟨_,rfl⟩
      rw [hu1] at x1 hb1
      rw [hu2] at x2 hb2
      have hi1n : (i1 : Int) < (xs.length : Int):=by omega
      have hi2n : (i2 : Int) < (xs.length : Int):=by omega
      have hm1' : (k : Int).tmod (xs.length : Int) = i1:=by rw [Int.tmod_eq_emod_of_nonneg (by omega),hi1]
      have hm2' : ((k : Int) * 7 + 3).tmod (xs.length : Int) = i2:=by rw [Int.tmod_eq_emod_of_nonneg (by omega),hi2]
      obtain ⟨dv,hdv⟩ : ∃ dv : Int,(k : Int) / (xs.length : Int) = dv:=⟨_,rfl⟩
      have hd0 : 0 ≤ dv:=by rw [← hdv];exact Int.ediv_nonneg (by omega) (by omega)
      have hd1 : dv ≤ 1000000:=by rw [← hdv];exact Int.le_trans (Int.ediv_le_self _ (by omega)) hp1
      have hdt : (k : Int).tdiv (xs.length : Int) = dv:=by rw [Int.tdiv_eq_ediv_of_nonneg (by omega),hdv]
      have hw0 : IntKind.i64.wrap ((k : Int) * 7) = (k : Int) * 7:=by simp (disch:=omega) only [IntWalk.i64_in]
      have hw1 : IntKind.i64.wrap ((k : Int) * 7 + 3) = (k : Int) * 7 + 3:=by simp (disch:=omega) only [IntWalk.i64_in]
      have hw2 : IntKind.i64.wrap (u1 * 131) = u1 * 131:=by simp (disch:=omega) only [IntWalk.i64_in]
      have hw3 : IntKind.i64.wrap (u2 * 1117) = u2 * 1117:=by simp (disch:=omega) only [IntWalk.i64_in]
      have hw4 : IntKind.i64.wrap (u1 * 131 + u2 * 1117) = u1 * 131 + u2 * 1117:=by simp (disch:=omega) only [IntWalk.i64_in]
      have hw5 : IntKind.i64.wrap ((k : Int) * 29) = (k : Int) * 29:=by simp (disch:=omega) only [IntWalk.i64_in]
      have hw6 : IntKind.i64.wrap (u1 * 131 + u2 * 1117 + (k : Int) * 29) = u1 * 131 + u2 * 1117 + (k : Int) * 29:=by simp (disch:=omega) only [IntWalk.i64_in]
      have hw7 : IntKind.i64.wrap (dv * 53) = dv * 53:=by simp (disch:=omega) only [IntWalk.i64_in]
      have hw8 : IntKind.i64.wrap (u1 * 131 + u2 * 1117 + (k : Int) * 29 + dv * 53) = u1 * 131 + u2 * 1117 + (k : Int) * 29 + dv * 53:=by simp (disch:=omega) only [IntWalk.i64_in]
      clear hu1 hu2
      go_enter Tryz.func30,Tryz.ntmps30
      go_wp2
      refine Bj (fun w' => Below (w.setCell ⟨g,1,none⟩ (.int .i64 ((k : Int) + 1))).heap.size (w.setCell ⟨g,1,none⟩ (.int .i64 ((k : Int) + 1))) w') rfl rfl (by kernel_rfl) (Aj (Below.refl _ _)) (fun HT => ?_)
      repeat (first
        | (refine BX (fun wx hS => ?_))
        | (refine BH HT rfl (by rfl) (fun _ _ _ h => h) ?_;simp only [sc0,sc1])
        | (refine BV (v:=?_) HT rfl (by rfl) (fun _ _ _ h => h) (fun wx hS => ?_) ?_;rotate_left;(have s0:=bc hS s0;have s1:=bc hS s1;have x1:=bc hS x1;have x2:=bc hS x2;go_simp;with_reducible rfl);rotate_left;simp only [sc0,sc1]))
      have HX:=As hS
      clear hS
      go_wp2
      go_ret
      exact ⟨_,rfl,fun h => Vg (by omega) (by omega) h,HQ.out.up HX.out,HW.out.CG (Wrote.of_below HX.out (fun j => j = g)) (fun _ h => .inl h)⟩
end Go.Proofs.YtpjmlpmhgfghbaaGreat
namespace Go.Proofs.YtpjmlpmhgfghbaaGreat
open Go.RowKit Go.Proofs.YtpjmlpmhgfghbaaGreatW.PrintWords Go.Proofs.YtpjmlpmhgfghbaaGreatW.PrintLast Go.Proofs.YtpjmlpmhgfghbaaGreatW.PrintMore
def Ec (w : World) (g : Nat) (e : Eng) (vd vm vl : Value) : Prop:=w.heap[g]? = some (.cells #[vd,vm,vl, .int .i64 e.safe, .bool e.down] 40 (0,0))
section
variable {w w1 : World} {g : Nat} {e : Eng} {vd vm vl : Value}
theorem Ec.c0 (h : Ec w g e vd vm vl) : w.cell? ⟨g,0,none⟩ = some vd:=by unfold Ec at h;simp [World.cell?,h]
theorem Ec.c1 (h : Ec w g e vd vm vl) : w.cell? ⟨g,1,none⟩ = some vm:=by unfold Ec at h;simp [World.cell?,h]
theorem Ec.c2 (h : Ec w g e vd vm vl) : w.cell? ⟨g,2,none⟩ = some vl:=by unfold Ec at h;simp [World.cell?,h]
theorem Ec.c3 (h : Ec w g e vd vm vl) : w.cell? ⟨g,3,none⟩ = some (.int .i64 e.safe):=by unfold Ec at h;simp [World.cell?,h]
theorem Ec.c4 (h : Ec w g e vd vm vl) : w.cell? ⟨g,4,none⟩ = some (.bool e.down):=by unfold Ec at h;simp [World.cell?,h]
theorem Ec.lt (h : Ec w g e vd vm vl) : g < w.heap.size:=(Array.getElem?_eq_some_iff.1 h).1
theorem Ec.up (h : Ec w g e vd vm vl) (hb : Below w.heap.size w w1) : Ec w1 g e vd vm vl:=(hb.block g h.lt).trans h
theorem Ec.mk1 (w : World) (e : Eng) (vd vm vl : Value) : Ec (w.alloc (.cells #[vd,vm,vl, .int .i64 e.safe, .bool e.down] 40)) w.heap.size e vd vm vl:=by
  show (w.heap.push _)[w.heap.size]? = _
  simp
end
end Go.Proofs.YtpjmlpmhgfghbaaGreat
namespace Go.Proofs.YtpjmlpmhgfghbaaGreat
open Go.RowKit Go.Proofs.YtpjmlpmhgfghbaaGreatW.PrintWords Go.Proofs.YtpjmlpmhgfghbaaGreatW.PrintLast Go.Proofs.YtpjmlpmhgfghbaaGreatW.PrintMore
theorem take_set {α : Type} {xs ys : List α} {k : Nat} {x : α} (h : ys.take k = xs.take k) (hl : ys.length = xs.length) (hk : xs[k]? = some x) : (ys.set k x).take (k + 1) = xs.take (k + 1):=by
  have hlt : k < xs.length:=(List.getElem?_eq_some_iff.1 hk).1
  rw [List.take_add_one,List.take_add_one,hk,List.getElem?_set_self (by omega),List.take_set_of_le (Nat.le_refl _),h]
def Un (i : Nat) (p : World → Prop) (l : Array Bool) (_a : Act) (w : World) : Prop:=l.getD i false = false → p w
theorem Af {j i : Nat} {d : Option Nat} {p : World → Prop} (h : (j == i) = false) : Keeps (Un i p) j d:=fun l a v w => by
  have h : j ≠ i:=by simpa using h
  have e : (l.setIfInBounds j true).getD i false = l.getD i false:=getD_set_ne false h
  rw [Un,Un,e]
def Pre (i7 i6 s : Nat) (p : World → Prop) (q : Value → World → Prop) (l : Array Bool) (a : Act) (w : World) : Prop:=l.getD i7 false = false → p w ∧ (l.getD i6 false = true → q (a.tmps.getD s undef) w)
theorem Ap {j i7 i6 s d : Nat} {p : World → Prop} {q : Value → World → Prop} (h1 : (d == s) = false) (h2 : (j == i6) = false) (h3 : (j == i7) = false) : Keeps (Pre i7 i6 s p q) j (some d):=fun l a v w => by
  have h1 : d ≠ s:=by simpa using h1
  have h2 : j ≠ i6:=by simpa using h2
  have h3 : j ≠ i7:=by simpa using h3
  have e1 : (a.put (some d) v).tmps.getD s undef = a.tmps.getD s undef:=by simp [Act.put,h1]
  have e2 : (l.setIfInBounds j true).getD i6 false = l.getD i6 false:=getD_set_ne false h2
  have e3 : (l.setIfInBounds j true).getD i7 false = l.getD i7 false:=getD_set_ne false h3
  rw [Pre,Pre,e1,e2,e3]
theorem F7 {n i7 i6 s : Nat} {p : World → Prop} {q : Value → World → Prop} {a : Act} {w : World} (h : p w) : Pre i7 i6 s p q (lsd n []) a w:=fun _ => ⟨h,fun h => by
  rw [JQ] at h
  simp [Array.getD] at h⟩
theorem wpOp_step {P : Program} {ops : Array Oper} {Q : Exit → Act → World → Prop} {K : Act → World → Prop} {i : Nat} {o : Oper} {a : Act} {w : World} (hi : ops.toList[i]? = some o) (h : if Region.wanted o (yielded ops a.tmps) = true then Oper.wp P o a w K Q else K (a.put o.dst undef) w) : wpOp P ops Q i K a w:=by
  have hi' : ops[i]? = some o:=by rw [← Array.getElem?_toList];exact hi
  unfold Go.wpOp
  simp only [hi']
  split
  · rename_i hw
    rw [if_pos hw] at h
    exact .inl h
  · rename_i hw
    rw [if_neg hw] at h
    exact h
theorem EO : ∀ q,q ∈ 81 :: Dw.E → q ≠ 98:=by decide
theorem GA {w : World} {b : Nat} {v : Value} {l : List Rec} (h : OwnRs w b v l) : ∀ k,v.ownBlock = some k → ∃ cells,w.heap[k]? = some (.cells cells 98 (0,0)):=fun k hk => by
  obtain ⟨inner,ho⟩:=Kd.Ko h
  exact Df ho k hk
theorem AU.logged {w w1 : World} {base : Nat} {vd vm vl v1 : Value} {e : Eng} {l' : List Rec} (h : AU w base vd vm vl e) (hg : w.grownBy w1 vl.ownBlock) (hl : OwnRs w1 base v1 l') : AU w1 base vd vm v1 { e with log:=l' }:=by
  obtain ⟨⟨okd,okm,ha,hx,hy⟩,hz⟩:=h
  exact ⟨⟨okd,okm,ha,Kd.LC hx (GA hz) EO hg,Kd.LC hy (GA hz) EO hg⟩,hl⟩
theorem Ai.Wp {w : World} {b g : Nat} {q : Eng} {ud um ul v : Value} {l : List Rec} (h : Ai w g q ud um ul) (hl : OwnRs w b v l) : some g ≠ v.ownBlock:=fun e => by
  obtain ⟨cells,hc⟩:=GA hl g e.symm
  have h1 : w.heap[g]? = _:=h
  rw [hc] at h1
  injection h1 with h1
  injection h1 with _ h2
  exact absurd h2 (by decide)
theorem Ai.grown {w w1 : World} {b g : Nat} {q : Eng} {ud um ul v : Value} {l : List Rec} (h : Ai w g q ud um ul) (hl : OwnRs w b v l) (hg : w.grownBy w1 v.ownBlock) : Ai w1 g q ud um ul:=(hg.block g h.lt (h.Wp hl)).trans h
theorem Ry {w w1 : World} {row : Option Nat} (hg : w.grownBy w1 row) : Kept w w1 (fun k => some k = row):=⟨hg.size,fun k hk hn => hg.block k hk hn⟩
theorem UG (w : World) (g j : Nat) (u : Value) : Kept w (w.setCell ⟨g,j,none⟩ u) (fun k => k = g):=⟨by simp,fun k _ hn => Below.heap_setCell w ⟨g,j,none⟩ u k hn⟩
theorem R6 {W : World} {B : Nat} {r : Rec} (h : G5 W ⟨B,0,none⟩ r) : Kd.C C8 W (some ⟨B,0,none⟩) 1 [r]:=by
  obtain ⟨c0,c1,c2,c3,c4,c5,c6,c7⟩:=h
  simp only [Nat.zero_add] at c1 c2 c3 c4 c5 c6 c7
  refine ⟨rfl,by omega,fun _ => ⟨⟨B,0,none⟩,rfl,fun j p hj => ?_⟩⟩
  obtain ⟨rfl,rfl⟩ : j = 0 ∧ p = r:=by
    cases j with
    | zero => simp at hj;exact ⟨rfl,hj.symm⟩
    | succ j => simp at hj
  refine ⟨p.cells,rfl,Kd.K_of_M _ (SH W 0 (fun _ => True) p),fun i u hi => ?_⟩
  have hlt : i < 8:=(List.getElem?_eq_some_iff.1 hi).1
  have hadd : (⟨B,0,none⟩ : Addr).add (0 * C8.sz + i) = ⟨B,i,none⟩:=by
    unfold Addr.add
    split
    · rename_i h0
      simp only [Nat.zero_mul,Nat.zero_add] at h0
      rw [h0]
    · simp
  rw [hadd]
  match i,hlt,hi with
  | 0,_,hi => cases hi;exact c0
  | 1,_,hi => cases hi;exact c1
  | 2,_,hi => cases hi;exact c2
  | 3,_,hi => cases hi;exact c3
  | 4,_,hi => cases hi;exact c4
  | 5,_,hi => cases hi;exact c5
  | 6,_,hi => cases hi;exact c6
  | 7,_,hi => cases hi;exact c7
def Dj (r : Rec) (k : Int) : Rec:={ r with prev:=k }
def Db (w : World) (g : Nat) (r : Rec) : Prop:=w.heap[g]? = some (.cells #[.int .i64 r.kind, .int .i64 r.tx, .int .i64 r.page, .int .i64 r.slot, .int .i64 r.old, .int .i64 r.new, .int .i64 r.prev, .int .i64 r.next] 98 (0,0))
theorem Db.mk1 (w : World) (r : Rec) : Db (w.alloc r.box) w.heap.size r:=by
  show (w.heap.push _)[w.heap.size]? = _
  simp
theorem Db.lt {w : World} {g : Nat} {r : Rec} (h : Db w g r) : g < w.heap.size:=(Array.getElem?_eq_some_iff.1 h).1
theorem Db.up {w w1 : World} {g : Nat} {r : Rec} (h : Db w g r) (hb : Below w.heap.size w w1) : Db w1 g r:=(hb.block g h.lt).trans h
theorem Db.at {w : World} {g : Nat} {r : Rec} (h : Db w g r) : G5 w ⟨g,0,none⟩ r:=Blk.recAt (t:=98) h
theorem Db.frz {w : World} {g : Nat} {r : Rec} (h : Db w g r) (k : Nat) : w.frozen? ⟨g,k,none⟩ = false:=by unfold Db at h;simp [World.frozen?,h]
theorem Db.EY {w : World} {g : Nat} {r : Rec} (h : Db w g r) (k : Int) : Db (w.setCell ⟨g,6,none⟩ (.int .i64 k)) g (Dj r k):=heap_setCell_same h _
def WG (w0 w : World) (g : Nat) (vd vm vl : Value) (E : Eng) (n : Int) (x : Ending) (w' : World) : Prop := ∃ vl',x = .returned (.int .i64 n) ∧ Ai w' g E vd vm vl' ∧ AU w' w0.heap.size vd vm vl' E ∧ Below w0.heap.size w0 w' ∧ Kept w w' (fun k => k = g ∨ some k = vl.ownBlock)
set_option maxRecDepth 100000 in
set_option maxHeartbeats 8000000 in
theorem K3 {w0 w : World} {g : Nat} {vd vm vl : Value} {e : Eng} (r : Rec) (hl : e.log.length ≤ 150) (hb : Below w0.heap.size w0 w) (hg : w0.heap.size ≤ g) (hq : Ai w g e vd vm vl) (hr : AU w w0.heap.size vd vm vl e) : Calls Tryz.prog 111 #[ptr g,r.val] w (WG w0 w g vd vm vl { e with log:=e.log ++ [Dj r (Ao e.log r.tx e.log.length)] } ((e.log.length : Int) + 1)):=by
  obtain ⟨Ad,cd,Am,cm,Al,cl,rfl,rfl,rfl,hcl,hrd⟩:=hr.reads
  have HR:=As hrd
  have HO:=As hr
  have HB:=As hb
  have HQ:=As hq
  have HL:=As hl
  have HG:=As hg
  obtain ⟨w1,hw1⟩ : ∃ w1,w.alloc r.box = w1:=⟨_,rfl⟩
  have HW1:=As hw1
  have HB1 : Ac (Below w.heap.size w w1):=⟨by rw [← hw1];exact Ah (Below.refl _ _) _⟩
  have HRB : Ac (Db w1 w.heap.size r):=⟨by rw [← hw1];exact Db.mk1 _ _⟩
  have hgl : g < w.heap.size:=hq.lt
  have hne : w.heap.size ≠ g:=by omega
  obtain ⟨ln,hln⟩ : ∃ ln : Nat,Ao e.log r.tx e.log.length = ln:=⟨_,rfl⟩
  have HLN:=As hln
  rw [hln]
  clear hw1 hrd hr hb hq hl hg hln
  have hq1:=HQ.out.up HB1.out
  have x2:=hq1.c2
  have r1:=HRB.out.at.c1
  simp only [Nat.zero_add] at r1
  clear hq1
  go_enter Tryz.func111,Tryz.ntmps111
  go_wp2
  rw [HW1.out]
  refine AX (fun lx a wx => Below w1.heap.size w1 wx) 8 rfl (by kernel_rfl) (Aj (Below.refl _ _)) (fun HT => ?_)
  refine Ae (i:=0) (v:=?_) HT rfl (by kernel_rfl) rfl (Aa) (by rfl) (fun _ _ _ h => h) (fun lx ax wx hS => ?_) ?_;rotate_left;(replace x2:=bc hS x2;replace r1:=bc hS r1;go_simp;with_reducible rfl);rotate_left;simp only [sc0,sc1]
  refine Ae (i:=1) (v:=?_) HT rfl (by kernel_rfl) rfl (Aa) (by rfl) (fun _ _ _ h => h) (fun lx ax wx hS => ?_) ?_;rotate_left;(replace x2:=bc hS x2;replace r1:=bc hS r1;go_simp;with_reducible rfl);rotate_left;simp only [sc0,sc1]
  refine Ae (i:=2) (v:=?_) HT rfl (by kernel_rfl) rfl (Aa) (by rfl) (fun _ _ _ h => h) (fun lx ax wx hS => ?_) ?_;rotate_left;(replace x2:=bc hS x2;replace r1:=bc hS r1;go_simp;with_reducible rfl);rotate_left;simp only [sc0,sc1]
  refine Ae (i:=3) (v:=?_) HT rfl (by kernel_rfl) rfl (Aa) (by rfl) (fun _ _ _ h => h) (fun lx ax wx hS => ?_) ?_;rotate_left;(replace x2:=bc hS x2;replace r1:=bc hS r1;go_simp;with_reducible rfl);rotate_left;simp only [sc0,sc1]
  refine Ae (i:=4) (v:=?_) HT rfl (by kernel_rfl) rfl (Aa) (by rfl) (fun _ _ _ h => h) (fun lx ax wx hS => ?_) ?_;rotate_left;(replace x2:=bc hS x2;replace r1:=bc hS r1;go_simp;with_reducible rfl);rotate_left;simp only [sc0,sc1]
  refine Ae (i:=5) (v:=?_) HT rfl (by kernel_rfl) rfl (Aa) (by rfl) (fun _ _ _ h => h) (fun lx ax wx hS => ?_) ?_;rotate_left;(replace x2:=bc hS x2;replace r1:=bc hS r1;go_simp;with_reducible rfl);rotate_left;simp only [sc0,sc1]
  refine Jw (i:=6) (f:=107) (v:=.int .i64 ln) (args:=#[.slice Al e.log.length cl, .int .i64 r.tx]) HT rfl (by kernel_rfl) rfl Tryz.func107 (by kernel_rfl) rfl rfl (Aa) (by rfl) (fun _ _ _ h => h) (by simp only [List.map_toArray,List.map_cons,List.map_nil];rfl) (fun lx ax wx hS => (HLN.out ▸ IV r.tx (bj HB1.out hS) HR.out.l : Calls Tryz.prog 107 #[.slice Al e.log.length cl, .int .i64 r.tx] wx fun e w' => e = .returned (.int .i64 ln) ∧ Below wx.heap.size wx w').mono fun _ _ h => ⟨h.1,bj hS h.2⟩) ?_;simp only [sc0,sc1]
  refine Ae (i:=7) (v:=?_) HT rfl (by kernel_rfl) rfl (Aa) (by rfl) (fun _ _ _ h => h) (fun lx ax wx hS => ?_) ?_;rotate_left;(go_simp;with_reducible rfl);rotate_left;simp only [sc0,sc1]
  refine BQ (i:=8) (by kernel_rfl) rfl (fun wx hS => ?_)
  have hrb:=HRB.out.up hS
  have p6:=hrb.at.c6
  simp only [Nat.zero_add] at p6
  have f6:=hrb.frz 6
  refine Bh (w1:=wx.setCell ⟨w.heap.size,6,none⟩ (.int .i64 ln)) rfl (by rfl) (by go_simp) ?_
  refine BB (by kernel_rfl) ?_
  obtain ⟨w2,hw2⟩ : ∃ w2,wx.setCell ⟨w.heap.size,6,none⟩ (.int .i64 ln) = w2:=⟨_,rfl⟩
  have hb2 : Below w.heap.size w w2:=by rw [← hw2];exact (bj HB1.out hS).setCell (p:=⟨w.heap.size,6,none⟩) (Nat.le_refl _) _
  have hrb2 : Db w2 w.heap.size (Dj r ln):=by rw [← hw2];exact hrb.EY ln
  rw [hw2]
  have HB2:=As hb2
  have HRB2:=As hrb2
  have HQ2:=As (HQ.out.up hb2)
  have HO2:=As (HO.out.below hb2)
  clear hS hrb p6 f6 hw2 hb2 hrb2 x2 r1
  go_wp2
  obtain ⟨l',hl'⟩ : ∃ l',e.log ++ [Dj r ln] = l':=⟨_,rfl⟩
  have HLL:=As hl'
  have hll : l'.length = e.log.length + 1:=by rw [← hl'];simp
  have HLE:=As hll
  have hB02 : Below w0.heap.size w0 w2:=bj HB.out HB2.out
  have HB02:=As hB02
  clear hl' hll hB02
  refine AX (fun lx a wx => (Below w0.heap.size w0 wx ∧ Kept w2 wx (fun k => some k = (Value.slice Al e.log.length cl).ownBlock) ∧ Ai wx g e (.slice Ad e.disk.length cd) (.slice Am e.mem.length cm) (.slice Al e.log.length cl) ∧ Db wx w.heap.size (Dj r ln)) ∧ (Pre 7 6 19 (fun wx => Below w2.heap.size w2 wx) (fun v wx => ∃ B,v = .slice (some ⟨B,0,none⟩) 1 1 ∧ Kd.C C8 wx (some ⟨B,0,none⟩) 1 [Dj r ln]) lx a wx ∧ Sl 7 20 (fun v wx => ∃ A1 c1,v = .slice A1 (e.log.length + 1) c1 ∧ AU wx w0.heap.size (.slice Ad e.disk.length cd) (.slice Am e.mem.length cm) v { e with log:=l' }) lx a wx)) 8 rfl (by kernel_rfl) (⟨⟨Aj HB02.out,Kept.of_below (Aj (Below.refl _ _)) _,HQ2.out.up (Aj (Below.refl _ _)),HRB2.out.up (Aj (Below.refl _ _))⟩,F7 (Aj (Below.refl _ _)),AZ⟩) (fun HT => ?_)
  refine Ae (i:=0) (v:=?_) HT rfl (by kernel_rfl) rfl (kA Aa (kA (Ap rfl rfl rfl) (Ab rfl rfl))) (by rfl) (fun _ _ _ h => h) (fun lx ax wx hS => ?_) ?_;rotate_left;(obtain ⟨⟨-, -,hq,hrb⟩, -⟩:=hS;have x2:=hq.c2;obtain ⟨z0,z1,z2,z3,z4,z5,z6,z7⟩:=hrb.at;simp only [Nat.zero_add] at z1 z2 z3 z4 z5 z6 z7;clear hq hrb;go_simp;with_reducible rfl);rotate_left;simp only [sc0,sc1]
  refine Ae (i:=1) (v:=?_) HT rfl (by kernel_rfl) rfl (kA Aa (kA (Ap rfl rfl rfl) (Ab rfl rfl))) (by rfl) (fun _ _ _ h => h) (fun lx ax wx hS => ?_) ?_;rotate_left;(obtain ⟨⟨-, -,hq,hrb⟩, -⟩:=hS;have x2:=hq.c2;obtain ⟨z0,z1,z2,z3,z4,z5,z6,z7⟩:=hrb.at;simp only [Nat.zero_add] at z1 z2 z3 z4 z5 z6 z7;clear hq hrb;go_simp;with_reducible rfl);rotate_left;simp only [sc0,sc1]
  refine Ae (i:=2) (v:=?_) HT rfl (by kernel_rfl) rfl (kA Aa (kA (Ap rfl rfl rfl) (Ab rfl rfl))) (by rfl) (fun _ _ _ h => h) (fun lx ax wx hS => ?_) ?_;rotate_left;(obtain ⟨⟨-, -,hq,hrb⟩, -⟩:=hS;have x2:=hq.c2;obtain ⟨z0,z1,z2,z3,z4,z5,z6,z7⟩:=hrb.at;simp only [Nat.zero_add] at z1 z2 z3 z4 z5 z6 z7;clear hq hrb;go_simp;with_reducible rfl);rotate_left;simp only [sc0,sc1]
  refine Ae (i:=3) (v:=?_) HT rfl (by kernel_rfl) rfl (kA Aa (kA (Ap rfl rfl rfl) (Ab rfl rfl))) (by rfl) (fun _ _ _ h => h) (fun lx ax wx hS => ?_) ?_;rotate_left;(obtain ⟨⟨-, -,hq,hrb⟩, -⟩:=hS;have x2:=hq.c2;obtain ⟨z0,z1,z2,z3,z4,z5,z6,z7⟩:=hrb.at;simp only [Nat.zero_add] at z1 z2 z3 z4 z5 z6 z7;clear hq hrb;go_simp;with_reducible rfl);rotate_left;simp only [sc0,sc1]
  refine Ae (i:=4) (v:=?_) HT rfl (by kernel_rfl) rfl (kA Aa (kA (Ap rfl rfl rfl) (Ab rfl rfl))) (by rfl) (fun _ _ _ h => h) (fun lx ax wx hS => ?_) ?_;rotate_left;(obtain ⟨⟨-, -,hq,hrb⟩, -⟩:=hS;have x2:=hq.c2;obtain ⟨z0,z1,z2,z3,z4,z5,z6,z7⟩:=hrb.at;simp only [Nat.zero_add] at z1 z2 z3 z4 z5 z6 z7;clear hq hrb;go_simp;with_reducible rfl);rotate_left;simp only [sc0,sc1]
  refine Ae (i:=5) (v:=?_) HT rfl (by kernel_rfl) rfl (kA Aa (kA (Ap rfl rfl rfl) (Ab rfl rfl))) (by rfl) (fun _ _ _ h => h) (fun lx ax wx hS => ?_) ?_;rotate_left;(obtain ⟨⟨-, -,hq,hrb⟩, -⟩:=hS;have x2:=hq.c2;obtain ⟨z0,z1,z2,z3,z4,z5,z6,z7⟩:=hrb.at;simp only [Nat.zero_add] at z1 z2 z3 z4 z5 z6 z7;clear hq hrb;go_simp;with_reducible rfl);rotate_left;simp only [sc0,sc1]
  refine AQ [6] (by kernel_rfl) (fun i hi wx hS => ?_)
  obtain rfl:=List.mem_singleton.1 hi
  refine Bw (w1:=wx.alloc (Dj r ln).box) (.slice (some ⟨wx.heap.size,0,none⟩) 1 1) rfl rfl (by rfl) (by go_simp) ?_
  have hbx : Below wx.heap.size wx (wx.alloc (Dj r ln).box):=Ah (Below.refl _ _) _
  refine ⟨⟨⟨bj hS.1.1 hbx,hS.1.2.1.CG (Kept.of_below hbx (fun _ => False)) (fun k hk => hk.elim),hS.1.2.2.1.up hbx,hS.1.2.2.2.up hbx⟩,fun h => ⟨bj (hS.2.1 (by kernel_rfl)).1 hbx,fun _ => ⟨wx.heap.size,rfl,R6 (Gh wx (Dj r ln))⟩⟩,fun h => (AA h (by kernel_rfl)).elim⟩,?_⟩
  clear hS hbx
  simp only [sc0,sc1]
  refine AQ [7] (by kernel_rfl) (fun i hi w3 hS => ?_)
  obtain rfl:=List.mem_singleton.1 hi
  obtain ⟨⟨h1,h2,h3,h4⟩,hpre, -⟩:=hS
  obtain ⟨hb3,hq3⟩:=hpre (by kernel_rfl)
  obtain ⟨B,hB,hC⟩:=hq3 (by kernel_rfl)
  have hB : Value.slice (some ⟨wx.heap.size,0,none⟩) 1 1 = .slice (some ⟨B,0,none⟩) 1 1:=hB
  obtain rfl : wx.heap.size = B:=by simpa using hB
  have ho3:=HO2.out.below hb3
  refine wpOp_step rfl (Kd.Cs C8 (Rr:=C8.K w3) w0.heap.size (by rfl) (.tmp 17) (.tmp 19) 26 98 _ 64 rfl Et GU rfl (by decide) (by decide) (.slice Al e.log.length cl) e.log [Dj r ln] (some ⟨wx.heap.size,0,none⟩) 1 1 (fun _ => True) (fun _ => False) rfl rfl ho3.l hC (fun _ _ hk => IY hk) (fun _ hk => hk.elim) (fun _ _ => trivial) h1 h1.size (by have:=HL.out;omega) (fun v1 w4 hown hb4 hg4 _ => ?_))
  rw [HLL.out] at hown
  obtain ⟨A1,c1,rfl, -, -⟩:=Kd.DK hown
  rw [HLE.out] at hown ⊢
  simp only [Co,sc0,sc1]
  have hrb4 : Db w4 w.heap.size (Dj r ln):=(hg4.block _ h4.lt (fun e => by have:=Kd.U7 HO.out.l w.heap.size e.symm;omega)).trans h4
  refine ⟨⟨⟨hb4,h2.CG (Ry hg4) (fun k hk => .inl hk),h3.grown ho3.l hg4,hrb4⟩,fun h => (AA (by kernel_rfl) h).elim,fun _ => ⟨A1,c1,rfl,(show AU w4 w0.heap.size (.slice Ad e.disk.length cd) (.slice Am e.mem.length cm) (.slice A1 (e.log.length + 1) c1) { e with log:=l' } from ho3.logged hg4 hown)⟩⟩,?_⟩
  clear h1 h2 h3 h4 hpre hb3 hq3 hB hC ho3 hown hb4 hg4 hrb4
  refine BQ (i:=8) (by kernel_rfl) rfl (fun w5 hS => ?_)
  obtain ⟨⟨h1,h2,h3,h4⟩, -,hpost⟩:=hS
  obtain ⟨A2,c2,hA,ho5⟩:=hpost (by kernel_rfl)
  have hA : Value.slice A1 (e.log.length + 1) c1 = .slice A2 (e.log.length + 1) c2:=hA
  obtain ⟨rfl,rfl⟩ : A1 = A2 ∧ c1 = c2:=by simpa using hA
  have x2:=h3.c2
  have f2:=h3.frz 2
  refine Bw (w1:=w5) (ptr g) rfl rfl (by rfl) (by go_simp) ?_
  simp only [sc0,sc1]
  refine Ky (i:=9) (by kernel_rfl) ?_
  refine Bw (w1:=w5) (.pointer (some ⟨g,2,none⟩)) rfl rfl (by rfl) (by go_simp) ?_
  simp only [sc0,sc1]
  refine Ky (i:=10) (by kernel_rfl) ?_
  refine Bh (w1:=w5.setCell ⟨g,2,none⟩ (.slice A1 (e.log.length + 1) c1)) rfl (by rfl) (by go_simp) ?_
  refine BB (by kernel_rfl) ?_
  have hq6 : Ai (w5.setCell ⟨g,2,none⟩ (.slice A1 (e.log.length + 1) c1)) g { e with log:=l' } (.slice Ad e.disk.length cd) (.slice Am e.mem.length cm) (.slice A1 (e.log.length + 1) c1):=h3.set2 _
  have ho6 : AU (w5.setCell ⟨g,2,none⟩ (.slice A1 (e.log.length + 1) c1)) w0.heap.size (.slice Ad e.disk.length cd) (.slice Am e.mem.length cm) (.slice A1 (e.log.length + 1) c1) { e with log:=l' }:=ho5.set h3.blk (by decide) (by decide) (by decide) 2 _
  have hb6 : Below w0.heap.size w0 (w5.setCell ⟨g,2,none⟩ (.slice A1 (e.log.length + 1) c1)):=h1.setCell (p:=⟨g,2,none⟩) HG.out _
  have hk6 : Kept w2 (w5.setCell ⟨g,2,none⟩ (.slice A1 (e.log.length + 1) c1)) (fun k => k = g ∨ some k = (Value.slice Al e.log.length cl).ownBlock):=(h2.mono (fun k hk => .inr hk)).CG (UG w5 g 2 _) (fun k hk => .inl (.inl hk))
  obtain ⟨w6,hw6⟩ : ∃ w6,w5.setCell ⟨g,2,none⟩ (.slice A1 (e.log.length + 1) c1) = w6:=⟨_,rfl⟩
  rw [hw6] at hq6 ho6 hb6 hk6 ⊢
  have HQ6:=As hq6
  have HO6:=As ho6
  have HB6:=As hb6
  have HK6:=As hk6
  clear h1 h2 h3 h4 hpost hA ho5 x2 f2 ho6 hb6 hk6 hw6
  have x2:=hq6.c2
  clear hq6
  go_wp2
  go_ret
  have hk0 : Kept w w2 (fun k => k = g ∨ some k = (Value.slice Al e.log.length cl).ownBlock):=Kept.of_below HB2.out _
  exact ⟨_,rfl,by rw [HLL.out];exact HQ6.out,by rw [HLL.out];exact HO6.out,HB6.out,hk0.CG HK6.out (fun k hk => .inl hk)⟩
def Ff (P : Page) (r : Rec) (n : Int) : Bool:=Bv P && (CU r && (Cx r.kind && (decide (P.lsn < n) && (decide (n ≤ 150) && Bv (doR P r n)))))
structure J6 (e : Eng) (tx : Int) : Prop where
  log : AP e.log = true
  geo : geo e.mem
  t1 : 1 ≤ tx
  t3 : tx ≤ 3
  Vu : e.log.length + 1 ≤ 150
  may : Cx (CO e tx).kind = true → Ff (pg e.mem (CO e tx).page.toNat) (CO e tx) (e.log.length + 1 : Nat) = true
  log' : AP (e.log ++ [CO e tx]) = true
  room : e.log.length + 1 + Br (e.log ++ [CO e tx]) (e.log.length + 1) ≤ 150
structure Sim (ps qs : List Page) : Prop where
  l : ps.length = 5
  l' : qs.length = 5
  lsn : ∀ p,p < 5 → 0 ≤ (pg qs p).lsn ∧ (pg qs p).lsn ≤ 150
  owner : ∀ p,p < 5 → (pg qs p).owner = (pg ps p).owner
  vals : ∀ p,p < 5 → (pg qs p).vals = (pg ps p).vals
theorem Tt {P Q : Page} (r : Rec) (ho : Q.owner = P.owner) (hv : Q.vals = P.vals) : (Be Q r).owner = (Be P r).owner ∧ (Be Q r).vals = (Be P r).vals:=by
  unfold Be
  split
  · exact ⟨ho,by simp only;rw [hv]⟩
  · split
    · exact ⟨rfl,rfl⟩
    · exact ⟨rfl,hv⟩
theorem LP {l : List Rec} : ∀ {ms : List Nat} {ps qs : List Page},(∀ m ∈ ms,0 ≤ (rc l (m - 1)).page ∧ (rc l (m - 1)).page < 5) → Sim ps qs → F5 l ps ms = true → F5 l qs ms = true
  | [],_,_,_,_,_ => rfl
  | m :: ms,ps,qs,hm,hs,h => by
    have h5:=hm m (by simp)
    rw [F5,Bool.and_eq_true] at h ⊢
    have hp : (rc l (m - 1)).page.toNat < 5:=by omega
    have hw:=Tt (Bq (rc l (m - 1)) 0) (hs.owner _ hp) (hs.vals _ hp)
    have hl:=hs.lsn _ hp
    refine ⟨?_,LP (fun x hx => hm x (by simp [hx])) ⟨by simpa using hs.l,by simpa using hs.l',fun p hp5 => ?_,fun p hp5 => ?_,fun p hp5 => ?_⟩ h.2⟩
    · have h1:=GI (k:=(pg qs (rc l (m - 1)).page.toNat).lsn) h.1 hl.1 hl.2
      rw [← hw.1, ← hw.2] at h1
      rw [← JK (pg qs (rc l (m - 1)).page.toNat) (Bq (rc l (m - 1)) 0)] at h1
      exact h1
    · rw [Fg (by rw [hs.l'];exact hp)]
      split
      · rw [JK];exact hl
      · exact hs.lsn p hp5
    · rw [Fg (by rw [hs.l'];exact hp),Fg (by rw [hs.l];exact hp)]
      split
      · exact hw.1
      · exact hs.owner p hp5
    · rw [Fg (by rw [hs.l'];exact hp),Fg (by rw [hs.l];exact hp)]
      split
      · exact hw.2
      · exact hs.vals p hp5
theorem Jp {l l' : List Rec} {n : Nat} (h : Agree l l' n) : ∀ {ms : List Nat} {ps : List Page},(∀ m ∈ ms,0 < m ∧ m ≤ n) → F5 l ps ms = F5 l' ps ms
  | [],_,_ => rfl
  | m :: ms,ps,hm => by
    have:=hm m (by simp)
    rw [F5,F5,h (m - 1) (by omega),Jp h (fun x hx => hm x (by simp [hx]))]
structure Py (e : Eng) (ms : List Nat) : Prop where
  log : AP e.log = true
  mem : H8 e.mem = true
  lsn : ∀ p,p < 5 → (pg e.mem p).lsn ≤ e.log.length
  und : F5 e.log e.mem ms = true
  room : e.log.length + Br e.log e.log.length ≤ 150
theorem Py.one {e : Eng} {ms : List Nat} (h : Py e ms) {tx : Int} (ht : tx = 1 ∨ tx = 2 ∨ tx = 3) (hlast : lastT e tx ≠ 0) : e.log.length + 1 ≤ 150:=by
  have h1:=h.room
  have h3 : cst e.log tx e.log.length ≥ 1:=by rw [cst,if_neg hlast];omega
  have h4 : cst e.log tx e.log.length ≤ Br e.log e.log.length:=by
    rw [Br]
    rcases ht with rfl | rfl | rfl <;> omega
  omega
theorem Py.FN {e : Eng} {tx : Int} {rest : List Nat} (h : Py e (U e.log tx e.log.length ++ rest)) (ht : tx = 1 ∨ tx = 2 ∨ tx = 3) (hlast : lastT e tx ≠ 0) : J6 e tx:=by
  have h1:=h.one ht hlast
  have hk:=EB (e:=e) h.log tx
  have hl':=hk.log h.log (by omega) h1
  have hn:=hk.need h.log ht h1 hlast
  have hr:=h.room
  refine ⟨h.log,Ay h.mem,by omega,by omega,h1,fun hc => ?_,hl',by omega⟩
  have hok:=hk.ok h.log (by omega)
  have hund:=h.und
  have hmem:=Cv.1 h.mem
  have hls:=h.lsn
  generalize CO e tx = r at hk hok hc ⊢
  cases hk with
  | fin hU => simp [Cx] at hc
  | Jq m ms hU h0 hm hkk htx =>
    have hrec:=He h.log h0 hm hkk
    rw [hU,List.cons_append,F5,Bool.and_eq_true] at hund
    have hp : (rc e.log (m - 1)).page.toNat < 5:=by omega
    have hl5:=hls _ hp
    simp only [Ff,Bool.and_eq_true,decide_eq_true_eq]
    refine ⟨hmem.2 _ hp,hok,hc,?_,by omega,?_⟩
    · show (pg e.mem (rc e.log (m - 1)).page.toNat).lsn < ((e.log.length + 1 : Nat) : Int)
      omega
    · rw [ED]
      exact GI hund.1 (by omega) (by omega)
theorem Py.step {e : Eng} {tx : Int} {rest : List Nat} (h : Py e (U e.log tx e.log.length ++ rest)) (ht : tx = 1 ∨ tx = 2 ∨ tx = 3) (hlast : lastT e tx ≠ 0) (hrest : ∀ m ∈ rest,0 < m ∧ m ≤ e.log.length ∧ 0 ≤ (rc e.log (m - 1)).page ∧ (rc e.log (m - 1)).page < 5) : Py (Bo e tx) ((U e.log tx e.log.length).tail ++ rest):=by
  have h1:=h.one ht hlast
  have hk:=EB (e:=e) h.log tx
  have hl':=hk.log h.log (by omega) h1
  have hn:=hk.need h.log ht h1 hlast
  have hr:=h.room
  have hmem:=Cv.1 h.mem
  have hso:=h.FN ht hlast
  have hM:=fun p => JZ hmem.1 (Ia h.log tx) p
  have hA:=Cn e.log [CO e tx]
  have hLl : (Bo e tx).log = e.log ++ [CO e tx]:=rfl
  have hM : ∀ p : Nat,pg (Bo e tx).mem p = if Cx (CO e tx).kind = true ∧ (CO e tx).page = (p : Int) then doR (pg e.mem p) (CO e tx) (e.log.length + 1 : Nat) else pg e.mem p:=hM
  have hml : (Bo e tx).mem.length = 5:=by unfold Bo;rw [LA];exact hmem.1
  have hUr : ∀ m ∈ U e.log tx e.log.length,0 < m ∧ m ≤ e.log.length ∧ 0 ≤ (rc e.log (m - 1)).page ∧ (rc e.log (m - 1)).page < 5:=fun m hm => by
    have h2:=MR hm
    have h3:=He h.log h2.1 h2.2 (Pz h.log (Nat.le_refl _) hm)
    exact ⟨h2.1,h2.2,h3.2.1,h3.2.2.1⟩
  have hpage : ∀ p : Nat,p < 5 → Bv (pg (Bo e tx).mem p) = true:=fun p hp => by
    rw [hM p]
    split
    · rename_i hc
      have:=hso.may hc.1
      simp only [Ff,Bool.and_eq_true,decide_eq_true_eq] at this
      rw [show (CO e tx).page.toNat = p by omega] at this
      exact this.2.2.2.2.2
    · exact hmem.2 p hp
  refine ⟨by rw [hLl];exact hl',Cv.2 ⟨hml,hpage⟩,fun p hp => ?_,?_,by rw [hLl];simp only [List.length_append,List.length_singleton];omega⟩
  · rw [hM p,hLl]
    simp only [List.length_append,List.length_singleton]
    split
    · exact Int.le_refl _
    · have:=h.lsn p hp;omega
  · have hund:=h.und
    rw [hLl]
    generalize CO e tx = r at hk hl' hn hA hM
    cases hk with
    | fin hU =>
      rw [hU,List.nil_append] at hund
      rw [hU,List.tail_nil,List.nil_append,Jp hA (fun m hm => by have:=hrest m hm;omega)]
      refine LP (fun m hm => (hrest m hm).2.2) ⟨hmem.1,hml,fun p hp => ?_,fun p hp => ?_,fun p hp => ?_⟩ hund
      · have:=Cg.1 (hpage p hp);exact ⟨this.1,this.2.1⟩
      · rw [hM p,if_neg (fun hc => by simp [Cx] at hc)]
      · rw [hM p,if_neg (fun hc => by simp [Cx] at hc)]
    | Jq m ms hU h0 hm hkk htx =>
      rw [hU,List.cons_append,F5,Bool.and_eq_true] at hund
      rw [hU] at hUr
      have hmr:=hUr m (by simp)
      have hmp : (rc e.log (m - 1)).page.toNat < 5:=by omega
      rw [hU,List.tail_cons,Jp hA (fun x hx => by
        rcases List.mem_append.1 hx with hx | hx
        · have:=hUr x (by simp [hx]);omega
        · have:=hrest x hx;omega)]
      refine LP (fun x hx => ?_) ⟨by simpa using hmem.1,hml,fun p hp => ?_,fun p hp => ?_,fun p hp => ?_⟩ hund.2
      · rcases List.mem_append.1 hx with hx | hx
        · exact (hUr x (by simp [hx])).2.2
        · exact (hrest x hx).2.2
      · have:=Cg.1 (hpage p hp);exact ⟨this.1,this.2.1⟩
      · rw [hM p,Fg (by rw [hmem.1];exact hmp)]
        by_cases e1 : (rc e.log (m - 1)).page.toNat = p
        · rw [if_pos ⟨rfl,by show (rc e.log (m - 1)).page = _;omega⟩,if_pos e1, ← e1];rfl
        · rw [if_neg (fun hc => e1 (by have h2 : (rc e.log (m - 1)).page = (p : Int):=hc.2;omega)),if_neg e1]
      · rw [hM p,Fg (by rw [hmem.1];exact hmp)]
        by_cases e1 : (rc e.log (m - 1)).page.toNat = p
        · rw [if_pos ⟨rfl,by show (rc e.log (m - 1)).page = _;omega⟩,if_pos e1, ← e1];rfl
        · rw [if_neg (fun hc => e1 (by have h2 : (rc e.log (m - 1)).page = (p : Int):=hc.2;omega)),if_neg e1]
theorem IE (l : List Rec) : I4 l 3 = U l 1 l.length ++ (U l 2 l.length ++ U l 3 l.length):=by
  have e1 : (3 - ((2 : Nat) : Int)) = 1:=rfl
  have e2 : (3 - ((1 : Nat) : Int)) = 2:=rfl
  have e3 : (3 - ((0 : Nat) : Int)) = 3:=rfl
  rw [I4,I4,I4,I4,e1,e2,e3,List.append_nil]
  rfl
def F4 (e : Eng) : Prop:=Py e (I4 e.log 3)
theorem JR {e : Eng} {t : Int} (h : lastT e t = 0) : U e.log t e.log.length = []:=by rw [U,show Ao e.log t e.log.length = 0 from h,D6]
theorem F4.step {e : Eng} (h : F4 e) (h0 : AO e ≠ 0) : J6 e (AO e) ∧ F4 (Bo e (AO e)) ∧ Br (Bo e (AO e)).log (Bo e (AO e)).log.length + 1 = Br e.log e.log.length:=by
  obtain ⟨ht,hlast⟩:=Ht h0
  have hlt:=h
  unfold F4 at h ⊢
  obtain ⟨rest,hrest,hr2,hr3⟩ : ∃ rest,I4 e.log 3 = U e.log (AO e) e.log.length ++ rest ∧ (∀ m ∈ rest, ∃ t,m ∈ U e.log t e.log.length) ∧ ∀ l' : List Rec,(∀ t,t ≠ AO e → U l' t l'.length = U e.log t e.log.length) → I4 l' 3 = U l' (AO e) l'.length ++ rest:=by
    rw [IE]
    by_cases h1 : lastT e 1 = 0
    · by_cases h2 : lastT e 2 = 0
      · by_cases h3 : lastT e 3 = 0
        · exact absurd (show AO e = 0 by unfold AO;rw [if_neg (by simpa using h1),if_neg (by simpa using h2),if_neg (by simpa using h3)]) h0
        · have hf : AO e = 3:=by unfold AO;rw [if_neg (by simpa using h1),if_neg (by simpa using h2),if_pos h3]
          rw [hf,JR h1,JR h2]
          refine ⟨[],by simp,fun m hm => (by cases hm),fun l' hl => ?_⟩
          rw [IE,hl 1 (by decide),hl 2 (by decide),JR h1,JR h2];simp
      · have hf : AO e = 2:=by unfold AO;rw [if_neg (by simpa using h1),if_pos h2]
        rw [hf,JR h1]
        refine ⟨U e.log 3 e.log.length,by simp,fun m hm => ⟨3,hm⟩,fun l' hl => ?_⟩
        rw [IE,hl 1 (by decide),hl 3 (by decide),JR h1];simp
    · have hf : AO e = 1:=by unfold AO;rw [if_pos h1]
      rw [hf]
      refine ⟨U e.log 2 e.log.length ++ U e.log 3 e.log.length,rfl,fun m hm => ?_,fun l' hl => ?_⟩
      · rcases List.mem_append.1 hm with hm | hm
        · exact ⟨2,hm⟩
        · exact ⟨3,hm⟩
      · rw [IE,hl 2 (by decide),hl 3 (by decide)]
  rw [hrest] at h
  have h1:=h.one ht hlast
  have hk:=EB (e:=e) h.log (AO e)
  have hn:=hk.next h.log (by omega) h1
  have hd:=hk.need h.log ht h1 hlast
  have hlen : (Bo e (AO e)).log.length = e.log.length + 1:=Ib _ _
  have hLl : (Bo e (AO e)).log = e.log ++ [CO e (AO e)]:=rfl
  refine ⟨h.FN ht hlast,?_,by rw [hlen,hLl];exact hd⟩
  rw [hr3 (Bo e (AO e)).log (fun t hne => by rw [hlen,hLl];exact (hn.2.1 t hne).1)]
  rw [show U (Bo e (AO e)).log (AO e) (Bo e (AO e)).log.length = (U e.log (AO e) e.log.length).tail by rw [hlen,hLl];exact hn.1]
  refine h.step ht hlast fun m hm => ?_
  obtain ⟨t,hmt⟩:=hr2 m hm
  have h2:=MR hmt
  have h3:=He h.log h2.1 h2.2 (Pz h.log (Nat.le_refl _) hmt)
  exact ⟨h2.1,h2.2,h3.2.1,h3.2.2.1⟩
structure OkF (e : Eng) : Prop where
  disk : H8 e.disk = true
  mem : H8 e.mem = true
  log : AP e.log = true
  s0 : 0 ≤ e.safe
  s1 : e.safe ≤ e.log.length
  fits : Iw e.log = true
  pref : ∀ n : Nat,e.safe ≤ n → n ≤ e.log.length → Kb e n = true
  page : ∀ p,p < 5 → Jz e p = true
theorem Fh {e : Eng} : eOk e = true ↔ OkF e:=by
  simp only [eOk,Bool.and_eq_true,DI,KA,List.all_eq_true,List.mem_range]
  constructor
  · rintro ⟨h1,h2,h3,⟨h4,h5⟩,h6,h7,h8⟩
    exact ⟨h1,h2,h3,h4,h5,h6,fun n ha hb => h7 n (by omega) (by omega),h8⟩
  · rintro ⟨h1,h2,h3,h4,h5,h6,h7,h8⟩
    exact ⟨h1,h2,h3,⟨h4,h5⟩,h6,fun n ha hb => h7 n (by omega) (by omega),h8⟩
theorem OkF.Lu {e : Eng} (h : OkF e) {p : Nat} (hp : p < 5) : (pg e.disk p).lsn ≤ e.safe:=by
  have:=h.page p hp
  simp only [Jz,Bool.and_eq_true,decide_eq_true_eq] at this
  exact this.1.2
theorem OkF.rise {e : Eng} (h : OkF e) : F4 { e with mem:=Cj e.disk e.log e.log.length }:=by
  have hp:=h.pref e.log.length h.s1 (Nat.le_refl _)
  have hd:=Cv.1 h.disk
  rw [Kb,List.take_length,Bool.and_eq_true,IC,Jr] at hp
  have hf:=h.fits
  rw [Iw,N9,decide_eq_true_eq] at hf
  refine ⟨h.log,hp.1,fun p hp5 => ?_,hp.2,hf⟩
  show (pg (Cj e.disk e.log e.log.length) p).lsn ≤ (e.log.length : Int)
  rw [L8 hd.1 (fun k hk => (AB h.log hk).ok) p _ (Nat.le_refl _)]
  have h1:=M0 (P:=pg e.disk p) (l:=e.log) (p:=p) e.log.length
  have h2:=h.Lu hp5
  have h3:=h.s1
  omega
def MQ (tx : Int) : Nat → Eng → Prop
  | 0,e => lastT e tx = 0 ∧ AP e.log = true
  | k + 1,e => lastT e tx ≠ 0 ∧ J6 e tx ∧ MQ tx k (Bo e tx)
theorem Ei.FN {e : Eng} {C : Nat → Page} {B : Nat} {tx : Int} (h : Ei e C B tx) (ht : tx = 1 ∨ tx = 2 ∨ tx = 3) (hlast : lastT e tx ≠ 0) : J6 e tx:=by
  have h1:=h.core.one ht hlast
  have hk:=EB (e:=e) h.core.log tx
  have hl':=hk.log h.core.log (by omega) h1
  have hn:=hk.need h.core.log ht h1 hlast
  have hr:=h.core.room e.log.length (Nat.le_refl _)
  have hb:=h.core.b150
  have hs:=fun p hp => (h.step ht hlast).upm p hp
  have hps : H8 e.mem = true:=Cv.2 ⟨h.mlen,fun p hp => (h.upm p hp).ok⟩
  refine ⟨h.core.log,Ay hps,by omega,by omega,h1,fun hc => ?_,hl',by omega⟩
  have hok:=hk.ok h.core.log (by omega)
  have hpg:=Ia h.core.log tx hc
  have hpn : (Du e tx).page.toNat < 5:=by omega
  have hmem:=JZ h.mlen (Ia h.core.log tx) (Du e tx).page.toNat
  rw [if_pos ⟨hc,by omega⟩] at hmem
  have hs1:=(hs _ hpn).ok
  rw [show pg (Bo e tx).mem (Du e tx).page.toNat = _ from hmem] at hs1
  have hl:=(h.upm _ hpn).lsn
  simp only [Ff,Bool.and_eq_true,decide_eq_true_eq]
  refine ⟨(h.upm _ hpn).ok,hok,hc,?_,by omega,hs1⟩
  show (pg e.mem (Du e tx).page.toNat).lsn < ((e.log.length + 1 : Nat) : Int)
  omega
theorem Ei.Uf {C : Nat → Page} {B : Nat} {tx : Int} (ht : tx = 1 ∨ tx = 2 ∨ tx = 3) : ∀ (k : Nat) (e : Eng),Ei e C B tx → lastT e tx ≠ 0 → (U e.log tx e.log.length).length = k → MQ tx (k + 1) e
  | 0,e,h,hlast,hk => by
    have hs:=h.core.PZ ht hlast
    have h0:=List.eq_nil_of_length_eq_zero hk
    refine ⟨hlast,h.FN ht hlast,?_,(h.step ht hlast).core.log⟩
    show lastT (Bo e tx) tx = 0
    rw [hs.2.2.1,if_pos h0]
  | k + 1,e,h,hlast,hk => by
    have hs:=h.core.PZ ht hlast
    have hne : U e.log tx e.log.length ≠ []:=fun h0 => by rw [h0] at hk;cases hk
    exact ⟨hlast,h.FN ht hlast,Ei.Uf ht k (Bo e tx) (h.step ht hlast) (by rw [hs.2.2.1,if_neg hne];omega) (by rw [hs.1,List.length_tail,hk];omega)⟩
def VS (w : World) (p : Page) (x : Ending) (w' : World) : Prop := ∃ v,x = .returned (.tuple #[p.own v, .bool true]) ∧ AR w' w.heap.size v p.vals ∧ Below w.heap.size w w'
set_option maxRecDepth 100000 in
set_option maxHeartbeats 8000000 in
theorem R3 {w0 w : World} {A : Option Addr} {c : Nat} {p : Page} {r : Rec} {n : Int} (hv : Ff p r n = true) (hb : Below w0.heap.size w0 w) (hr : Kd.C (Kd.int .i64) w0 A p.vals.length p.vals) : Calls Tryz.prog 166 #[p.val A c,r.val, .int .i64 n] w (VS w (doR p r n)):=by
  have HR:=As (BM hr hb)
  simp only [Ff,Bool.and_eq_true,decide_eq_true_eq] at hv
  obtain ⟨v1,v2,v3,v4,v5,v6⟩:=hv
  have HV1:=As v1
  have HV2:=As v2
  have HV3:=As v3
  have HV6:=As v6
  have hp3:=(Cg.1 v1).2.2.2.2.1
  have HP3L:=As hp3
  have hslot:=(GY v2 v3)
  have HSL:=As (show r.slot < p.vals.length by rw [hp3];omega)
  clear hr hb v1 v2 v3 v6 hp3 hslot
  obtain ⟨W1,hW1⟩ : ∃ W1,w.alloc (p.box A c) = W1:=⟨_,rfl⟩
  obtain ⟨W2,hW2⟩ : ∃ W2,W1.alloc r.box = W2:=⟨_,rfl⟩
  obtain ⟨W3,hW3⟩ : ∃ W3,W2.alloc Cw = W3:=⟨_,rfl⟩
  have Z1 : W1.heap.size = w.heap.size + 1:=by rw [← hW1,BA]
  have Z2 : W2.heap.size = w.heap.size + 2:=by rw [← hW2,BA,Z1]
  have Z3 : W3.heap.size = w.heap.size + 3:=by rw [← hW3,BA,Z2]
  have hR3 : G5 W3 ⟨w.heap.size + 1,0,none⟩ r:=by
    have:=Gh W1 r
    rw [Z1,hW2] at this
    rw [← hW3]
    exact this.up (Ah (Below.refl _ _) _)
  have hP3 : AY W3 (w.heap.size + 2) zp (.slice none 0 0):=by
    have:=AY.mk1 W2 zp (.slice none 0 0)
    rw [Z2] at this
    rw [← hW3]
    exact this
  have hA3 : AY W3 w.heap.size p (.slice A p.vals.length c):=by
    rw [← hW3, ← hW2, ← hW1]
    exact (AY.mk1 w p _).up (Ah (Ah (Below.refl _ _) _) _)
  have hB3 : Below w.heap.size w W3:=by
    rw [← hW3, ← hW2, ← hW1]
    exact Ah (Ah (Ah (Below.refl _ _) _) _) _
  have HW3 : Ac (((w.alloc (p.box A c)).alloc r.box).alloc Cw = W3):=⟨by rw [hW1,hW2,hW3]⟩
  have HR3:=As hR3
  have HP3:=As hP3
  have HA3:=As hA3
  have HB3:=As hB3
  have HZ3:=As Z3
  clear hW1 hW2 hW3 Z1 Z2 Z3 hR3 hP3 hA3 hB3
  go_enter Tryz.func166,Tryz.ntmps166
  go_wp2_with (first | (go_at_call 131;rw [HW3.out];refine (Dz (c:=c) HV1.out HB3.out HR.out).mono ?_;rintro x w4 ⟨rfl,hb4⟩;have HB4:=As hb4;obtain ⟨-,z1,z2,z3,z4,z5,z6,z7⟩:=HR3.out.up hb4;have z0:=(HR3.out.up hb4).c0;simp only [Nat.zero_add] at z1 z2 z3 z4 z5 z6 z7;have a0:=(HA3.out.up hb4).c0;have a1:=(HA3.out.up hb4).c1;have a2:=(HA3.out.up hb4).c2;clear hb4) | (go_at_call 132;refine (Ey HV2.out _).mono ?_;rintro x w5 ⟨rfl,hb5⟩;have HB5:=As (bj HB4.out hb5);replace z0:=bc hb5 z0;replace z1:=bc hb5 z1;replace z2:=bc hb5 z2;replace z3:=bc hb5 z3;replace z4:=bc hb5 z4;replace z5:=bc hb5 z5;replace z6:=bc hb5 z6;replace z7:=bc hb5 z7;replace a0:=bc hb5 a0;replace a1:=bc hb5 a1;replace a2:=bc hb5 a2;clear hb5) | (go_at_call 105;refine (F3 HV3.out _).mono ?_;rintro x w6 ⟨rfl,hb6⟩;have HB6:=As (bj HB5.out hb6);replace z0:=bc hb6 z0;replace z1:=bc hb6 z1;replace z2:=bc hb6 z2;replace z3:=bc hb6 z3;replace z4:=bc hb6 z4;replace z5:=bc hb6 z5;replace z6:=bc hb6 z6;replace z7:=bc hb6 z7;replace a0:=bc hb6 a0;replace a1:=bc hb6 a1;replace a2:=bc hb6 a2;clear hb6) | (go_at_call 106;refine (Kt (w0:=w) r (by rw [HP3L.out];decide) HSL.out (bj HB3.out HB6.out) HR.out).mono ?_;rintro x w7 ⟨v,rfl,ho,hb7⟩;obtain ⟨A1,c1,rfl, -,hC⟩:=ho.reads;have HC7:=As hC;have HO:=As ho;have HB7:=As (bj HB6.out hb7);have HN7:=As hb7.size;clear ho hb7 hC) | (go_at_call 131;obtain ⟨w8,hw8⟩ : ∃ w8,w7.alloc (.cells #[.int .i64 n, .int .i64 (Be p r).owner, .slice A1 (Be p r).vals.length c1] 81) = w8:=⟨_,rfl⟩;have hx8 : Below w7.heap.size w7 w8:=(by rw [← hw8];exact Ah (Below.refl _ _) _);have hq8 : AY w8 w7.heap.size (doR p r n) (.slice A1 (Be p r).vals.length c1):=(by rw [← hw8];exact AY.mk1 w7 (doR p r n) _);rw [hw8];refine (Dz (p:=doR p r n) (A:=A1) (c:=c1) HV6.out (Below.refl w8.heap.size w8) (BM HC7.out hx8)).mono ?_;rintro x w9 ⟨rfl,hb9⟩;have q0:=(hq8.up hb9).c0;have q1:=(hq8.up hb9).c1;have q2:=(hq8.up hb9).c2;have HB9:=As (bj (bj HB7.out hx8) hb9);have HO9:=As (HO.out.below (bj hx8 hb9));have HP9:=As (HP3.out.up HB9.out);have y0:=HP9.out.c0;have y1:=HP9.out.c1;have y2:=HP9.out.c2;have f0:=HP9.out.frz 0;have f1:=HP9.out.frz 1;have f2:=HP9.out.frz 2;clear hw8 hx8 hq8 hb9))
  have hs6 : w.heap.size + 3 ≤ w6.heap.size:=by have:=HB6.out.size;have:=HZ3.out;omega
  have h1:=HO9.out.Cu (g:=w.heap.size + 2) (by omega) (doR p r n) (.slice A1 (Be p r).vals.length c1)
  have h2:=Cr (g:=w.heap.size + 2) (bj HB3.out HB9.out) (by omega) (doR p r n) (.slice A1 (Be p r).vals.length c1)
  have hy:=HP9.out.Cu (doR p r n) (.slice A1 (Be p r).vals.length c1)
  have z0:=hy.c0
  have z1:=hy.c1
  have z2:=hy.c2
  exact bodyPost_ret (v:=.tuple #[(doR p r n).own (.slice A1 (Be p r).vals.length c1), .bool true]) (by simp [results,Tryz.results166,go_sem,z0,z1,z2]) rfl ⟨_,rfl,h1.lower (by omega),h2⟩
theorem Sn {l : List Rec} (hl : AP l = true) (n : Nat) : ∀ k,k < (l.take n).length → CU (rc (l.take n) k) = true:=fun k hk => (AB (KD hl n) hk).ok
set_option maxRecDepth 100000 in
set_option maxHeartbeats 4000000 in
theorem Ig {w0 w : World} {e : Eng} {Ad Am Al : Option Addr} {cd cm cl : Nat} {b : Bool} (hv : I5 e (e.log.length + 1 - e.safe.toNat) e.safe.toNat = b) (hs0 : 0 ≤ e.safe) (hs1 : e.safe ≤ e.log.length) (hg : geo e.disk) (hl : AP e.log = true) (hcl : e.log.length ≤ cl) (hb : Below w0.heap.size w0 w) (hr : DF w0 e Ad Am Al) : Calls Tryz.prog 79 #[e.val Ad Am Al cd cm cl] w fun x w' => x = .returned (.bool b) ∧ Below w.heap.size w w':=by
  have HR:=As (hr.up hb)
  have HG:=As hg
  have HL:=As hl
  have HV:=As hv
  have hm:=Bg hl
  obtain ⟨s,hs⟩ : ∃ s : Nat,e.safe = s:=⟨e.safe.toNat,by omega⟩
  have HS:=As hs
  have hs2 : s ≤ e.log.length:=by omega
  clear hr hb hg hl hv hs0 hs1 hs
  obtain ⟨w1,hw1⟩ : ∃ w1,w.alloc (e.obox (.slice Ad e.disk.length cd) (.slice Am e.mem.length cm) (.slice Al e.log.length cl)) = w1:=⟨_,rfl⟩
  have HW1:=As hw1
  have HB1 : Ac (Below w.heap.size w w1):=⟨by rw [← hw1];exact Ah (Below.refl _ _) _⟩
  have HQ1 : Ac (Ai w1 w.heap.size e (.slice Ad e.disk.length cd) (.slice Am e.mem.length cm) (.slice Al e.log.length cl)):=⟨by rw [← hw1];exact Ai.mk1 _ _ _ _ _⟩
  clear hw1
  go_enter Tryz.func79,Tryz.ntmps79
  go_wp2
  rw [HW1.out]
  go_loopw [3] (fun i wr => ∃ n : Nat,s ≤ n ∧ n ≤ e.log.length + 1 ∧ i = .int .i64 (n : Int) ∧ Ac (I5 e (e.log.length + 1 - n) n = b) ∧ Ac (Below w1.heap.size w1 wr)) (fun i _ => (e.log.length + 1 - intOf i).toNat)
  case atStart => exact ⟨s,Nat.le_refl _,by omega,by rw [HS.out],⟨by have:=HV.out;rw [HS.out] at this;exact this⟩,⟨Below.refl _ _⟩⟩
  case round =>
    obtain ⟨n,hn1,hn2,rfl,HK,HW⟩:=hrel
    have HWW:=As (bj HB1.out HW.out)
    have HQ:=As (HQ1.out.up HW.out)
    have x0:=HQ.out.c0
    have x2:=HQ.out.c2
    by_cases hlt : n ≤ e.log.length
    · have hl : (e.log.take n).length = n:=by rw [List.length_take];omega
      obtain ⟨ps,hps⟩ : ∃ ps,Cj e.disk (e.log.take n) (e.log.take n).length = ps:=⟨_,rfl⟩
      obtain ⟨ok,hok⟩ : ∃ ok,H8 ps = ok:=⟨_,rfl⟩
      have hgeo : geo ps:=by rw [← hps];exact JF HG.out (Sn HL.out n) _ (Nat.le_refl _)
      have HGP:=As hgeo
      have HPS:=As (And.intro hps hok)
      have hcall : ∀ wx,Below wr.heap.size wr wx → Calls Tryz.prog 46 #[.slice Ad e.disk.length cd, .slice Al n cl] wx (VT wx ps ok):=fun wx hb => by
        have h:=Kz (c:=cd) (d:=cl) HG.out (Sn HL.out n) (by omega) hb (BM HR.out.d HWW.out) (OQ (BM HR.out.l HWW.out) hlt)
        rw [hps,hok,hl] at h
        exact h
      have HLn:=As hl
      clear hps hok hl hgeo
      have hncl : n ≤ cl:=Nat.le_trans hlt hcl
      go_wp2
      refine AX (fun lx a wx => Below wr.heap.size wr wx ∧ Sl 6 22 (fun v wx => ∃ u,v = .tuple #[u, .bool ok] ∧ EA wx wr.heap.size u ps) lx a wx) 12 rfl (by kernel_rfl) (⟨Aj (Below.refl _ _),AZ⟩) (fun HT => ?_)
      refine Ae (i:=0) (v:=?_) HT rfl (by kernel_rfl) rfl (kA Aa (Ab rfl rfl)) (by rfl) (fun _ _ _ h => h) (fun lx ax wx hS => ?_) ?_;rotate_left;(have hbx:=hS.1;clear hS;replace x0:=bc hbx x0;replace x2:=bc hbx x2;go_simp;with_reducible rfl);rotate_left;simp only [sc0,sc1]
      refine Ae (i:=1) (v:=?_) HT rfl (by kernel_rfl) rfl (kA Aa (Ab rfl rfl)) (by rfl) (fun _ _ _ h => h) (fun lx ax wx hS => ?_) ?_;rotate_left;(have hbx:=hS.1;clear hS;replace x0:=bc hbx x0;replace x2:=bc hbx x2;go_simp;with_reducible rfl);rotate_left;simp only [sc0,sc1]
      refine Ae (i:=2) (v:=?_) HT rfl (by kernel_rfl) rfl (kA Aa (Ab rfl rfl)) (by rfl) (fun _ _ _ h => h) (fun lx ax wx hS => ?_) ?_;rotate_left;(have hbx:=hS.1;clear hS;replace x0:=bc hbx x0;replace x2:=bc hbx x2;go_simp;with_reducible rfl);rotate_left;simp only [sc0,sc1]
      refine Ae (i:=3) (v:=?_) HT rfl (by kernel_rfl) rfl (kA Aa (Ab rfl rfl)) (by rfl) (fun _ _ _ h => h) (fun lx ax wx hS => ?_) ?_;rotate_left;(have hbx:=hS.1;clear hS;replace x0:=bc hbx x0;replace x2:=bc hbx x2;go_simp;with_reducible rfl);rotate_left;simp only [sc0,sc1]
      refine Ae (i:=4) (v:=?_) HT rfl (by kernel_rfl) rfl (kA Aa (Ab rfl rfl)) (by rfl) (fun _ _ _ h => h) (fun lx ax wx hS => ?_) ?_;rotate_left;(have hbx:=hS.1;clear hS;replace x0:=bc hbx x0;replace x2:=bc hbx x2;go_simp;with_reducible rfl);rotate_left;simp only [sc0,sc1]
      refine Ae (i:=5) (v:=?_) HT rfl (by kernel_rfl) rfl (kA Aa (Ab rfl rfl)) (by rfl) (fun _ _ _ h => h) (fun lx ax wx hS => ?_) ?_;rotate_left;(have hbx:=hS.1;clear hS;replace x0:=bc hbx x0;replace x2:=bc hbx x2;go_simp;with_reducible rfl);rotate_left;simp only [sc0,sc1]
      refine BR (i:=6) (f:=46) (args:=#[.slice Ad e.disk.length cd, .slice Al n cl]) (fun v => ∃ u,v = .tuple #[u, .bool ok]) rfl (by kernel_rfl) rfl Tryz.func46 (by kernel_rfl) rfl rfl (by rfl) (by simp only [List.map_toArray,List.map_cons,List.map_nil];rfl) (fun wx hS => (hcall wx hS.1).mono (by rintro e w6 ⟨u,rfl,ho,hb⟩;exact ⟨_,rfl,⟨u,rfl⟩,bj hS.1 hb,fun _ => ⟨u,rfl,Kd.E8 ho hS.1.size⟩⟩)) (fun vx hg => ?_);simp only [sc0,sc1]
      obtain ⟨u,rfl⟩:=hg
      refine Ae (i:=7) (v:=?_) HT rfl (by kernel_rfl) rfl (kA Aa (Ab rfl rfl)) (by rfl) (fun _ _ _ h => h) (fun lx ax wx hS => ?_) ?_;rotate_left;(go_simp;with_reducible rfl);rotate_left;simp only [sc0,sc1]
      refine Ae (i:=8) (v:=?_) HT rfl (by kernel_rfl) rfl (kA Aa (Ab rfl rfl)) (by rfl) (fun _ _ _ h => h) (fun lx ax wx hS => ?_) ?_;rotate_left;(go_simp;with_reducible rfl);rotate_left;simp only [sc0,sc1]
      refine Ae (i:=9) (v:=?_) HT rfl (by kernel_rfl) rfl (kA Aa (Ab rfl rfl)) (by rfl) (fun _ _ _ h => h) (fun lx ax wx hS => ?_) ?_;rotate_left;(go_simp;with_reducible rfl);rotate_left;simp only [sc0,sc1]
      refine Ae (i:=10) (v:=?_) HT rfl (by kernel_rfl) rfl (kA Aa (Ab rfl rfl)) (by rfl) (fun _ _ _ h => h) (fun lx ax wx hS => ?_) ?_;rotate_left;(go_simp;with_reducible rfl);rotate_left;simp only [sc0,sc1]
      refine Ae (i:=11) (v:=?_) HT rfl (by kernel_rfl) rfl (kA Aa (Ab rfl rfl)) (by rfl) (fun _ _ _ h => h) (fun lx ax wx hS => ?_) ?_;rotate_left;(go_simp;with_reducible rfl);rotate_left;simp only [sc0,sc1]
      refine DX (by kernel_rfl) (fun wx hS => ?_)
      obtain ⟨h1,h2⟩:=hS
      obtain ⟨u1,hu1,hown⟩:=h2 (by kernel_rfl)
      have hu1 : Value.tuple #[u, .bool ok] = .tuple #[u1, .bool ok]:=hu1
      obtain rfl : u = u1:=by simpa using hu1
      obtain ⟨g,cap,rfl,hgb,hgl⟩:=Cq hown (by rw [HGP.out.1];omega)
      have HO:=As (Kd.S_R hown)
      have HX:=As h1
      rw [HGP.out.1] at HO ⊢
      replace x0:=bc h1 x0
      replace x2:=bc h1 x2
      clear h1 h2 hu1 hown hcall hgb hgl
      have HP:=As (show I5 e (e.log.length + 1 - n) n = (Kb e n && I5 e (e.log.length + 1 - (n + 1)) (n + 1)) by rw [show e.log.length + 1 - n = (e.log.length + 1 - (n + 1)) + 1 by omega,I5])
      cases ok
      · go_wp2
        go_ret
        exact ⟨AJ (by rw [← HK.out,HP.out,Kb,HPS.out.1,HPS.out.2];rfl),bj HWW.out HX.out⟩
      · obtain ⟨ub,hub⟩ : ∃ ub,IC (e.log.take n) ps = ub:=⟨_,rfl⟩
        have hcall2 : Calls Tryz.prog 135 #[.slice (some ⟨g,0,none⟩) 5 cap, .slice Al n cl] wx fun x w' => x = .returned (.bool ub) ∧ Below wr.heap.size wr w':=by
          have h:=OL (d:=cl) hub HGP.out (KD HL.out n) HO.out HX.out (OQ (BM HR.out.l HWW.out) hlt)
          rw [HLn.out] at h
          exact h
        have HUB:=As hub
        clear hub
        cases ub
        · go_wp2_with (go_at_call 135;refine hcall2.mono ?_;rintro x w7 ⟨rfl,hb7⟩;have HB7:=As hb7;clear hb7)
          go_ret
          exact ⟨AJ (by rw [← HK.out,HP.out,Kb,HPS.out.1,HPS.out.2,HUB.out];rfl),bj HWW.out HB7.out⟩
        · go_wp2_with (go_at_call 135;refine hcall2.mono ?_;rintro x w7 ⟨rfl,hb7⟩;have HB7:=As hb7;clear hb7)
          go_roundw
          case rel => exact ⟨n + 1,by omega,by omega,by go_num,⟨by rw [← HK.out,HP.out,Kb,HPS.out.1,HPS.out.2,HUB.out];rfl⟩,⟨bj HW.out HB7.out⟩⟩
          case measure => simp [intOf];omega
    · go_wp2
      go_ret
      exact ⟨AJ (by rw [← HK.out,show e.log.length + 1 - n = 0 by omega];rfl),HWW.out⟩
end Go.Proofs.YtpjmlpmhgfghbaaGreat
