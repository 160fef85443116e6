/- A part of the proof: what the last text of the claim says leans on this one. -/
import Derived.Test.YtpjmlpmhgfghbaaGreatZT2
import Derived.Lib.SliceRun
set_option linter.unusedVariables false
set_option linter.unusedSimpArgs false
/- What is to be undone, record by record; proper logs: those that plays make; in plain Lean. -/
namespace Go.Proofs.YtpjmlpmhgfghbaaGreat
/-- What tx has to undo, its chain, behind the first n records. -/
def U (l : List Rec) (tx : Int) (n : Nat) : List Nat:=CU l (Aj l tx n)
def Ch (l : List Rec) (tx : Int) (n : Nat) : List Nat:=BA l (Aj l tx n)
def has (l : List Rec) (tx : Int) (n : Nat) (p : Int) : Bool:=G8 l (Aj l tx n) p
theorem TJ {l : List Rec} {tx p : Int} {n : Nat} : has l tx n p = true ↔ ∃ m ∈ Ch l tx n,(rc l (m - 1)).page = p:=by
  simp [has,G8,Ch]
theorem FP {l : List Rec} {tx : Int} {k : Nat} (h : (rc l k).tx ≠ tx) : Aj l tx (k + 1) = Aj l tx k:=by
  rw [Aj,if_neg h]
theorem Ii {l : List Rec} {tx : Int} {k : Nat} (h : (rc l k).tx = tx) (he : ED (rc l k).kind = true) : Aj l tx (k + 1) = 0:=by
  rw [Aj,if_pos h,if_pos he]
theorem F7 {l : List Rec} {tx : Int} {k : Nat} (h : (rc l k).tx = tx) (he : ED (rc l k).kind = false) : Aj l tx (k + 1) = k + 1:=by
  rw [Aj,if_pos h,if_neg (by simp [he])]
theorem Hq {l : List Rec} {tx : Int} {k : Nat} (h : (rc l k).tx ≠ tx) : U l tx (k + 1) = U l tx k:=by rw [U,FP h,U]
theorem P8 {l : List Rec} {tx : Int} {k : Nat} (h : (rc l k).tx = tx) (he : ED (rc l k).kind = true) : U l tx (k + 1) = []:=by rw [U,Ii h he,D5]
theorem E8 {k : Int} (h : k = 1 ∨ k = 2 ∨ k = 3 ∨ k = 6) : ED k = false:=by
  simp only [ED,Bool.or_eq_false_iff,beq_eq_false_iff_ne];omega
theorem TT {l : List Rec} (hl : AP l = true) {k : Nat} (hk : k < l.length) (h : (rc l k).kind = 1 ∨ (rc l k).kind = 2) : U l (rc l k).tx (k + 1) = (k + 1) :: U l (rc l k).tx k:=by
  have F:=AA hl hk
  rw [U,F7 rfl (E8 (by omega)),KT h F.prev_le,F.last,U]
theorem SB {l : List Rec} (hl : AP l = true) {k : Nat} (hk : k < l.length) (h : (rc l k).kind = 3) : U l (rc l k).tx (k + 1) = U l (rc l k).tx k:=by
  have F:=AA hl hk
  rw [U,F7 rfl (E8 (by omega)),LY (by omega) (by omega) (by omega) F.prev_le,F.last,U]
theorem O7 {l : List Rec} {tx : Int} {k : Nat} (h : (rc l k).tx ≠ tx) : Ch l tx (k + 1) = Ch l tx k:=by rw [Ch,FP h,Ch]
theorem XJ {l : List Rec} {tx : Int} {k : Nat} (h : (rc l k).tx = tx) (he : ED (rc l k).kind = true) : Ch l tx (k + 1) = []:=by rw [Ch,Ii h he,Cm]
theorem LQ {l : List Rec} (hl : AP l = true) {k : Nat} (hk : k < l.length) (h : ED (rc l k).kind = false) : Ch l (rc l k).tx (k + 1) = (k + 1) :: Ch l (rc l k).tx k:=by
  have F:=AA hl hk
  rw [Ch,F7 rfl h,DU F.prev_le,F.last,Ch]
/-- What a record of a play is, by what stands ahead of it. -/
structure Gt (l : List Rec) (k : Nat) : Prop where
  own : (rc l k).kind = 2 → (rc l k).new ≠ 0 → (rc l k).old = 0
  Jh : (rc l k).kind = 6 → ∃ m ms,U l (rc l k).tx k = m :: ms ∧ rc l k = Bj (rc l (m - 1)) (rc l k).prev
  ended : (rc l k).kind = 5 → U l (rc l k).tx k = []
  fin : ED (rc l k).kind = true → 0 < Aj l (rc l k).tx k
  lock : (rc l k).kind = 1 ∨ (rc l k).kind = 2 ∨ (rc l k).kind = 3 → ∀ t,t ≠ (rc l k).tx → has l t k (rc l k).page = false
def EF (l : List Rec) : Prop := ∀ k,k < l.length → Gt l k
theorem Gs {l l' : List Rec} {n : Nat} (h : Agree l l' n) (tx : Int) {k : Nat} (hk : k ≤ n) : U l tx k = U l' tx k:=by
  rw [U,U,CP tx (h.le hk)]
  exact Nv h _ (by have:=AY l' tx k;omega)
theorem Ru {l l' : List Rec} {n : Nat} (h : Agree l l' n) (tx : Int) {k : Nat} (hk : k ≤ n) : Ch l tx k = Ch l' tx k:=by
  rw [Ch,Ch,CP tx (h.le hk)]
  exact IW h _ (by have:=AY l' tx k;omega)
theorem JW {l l' : List Rec} {n : Nat} (h : Agree l l' n) (tx p : Int) {k : Nat} (hk : k ≤ n) : has l tx k p = has l' tx k p:=by
  rw [has,has,CP tx (h.le hk)]
  exact Sk h p (by have:=AY l' tx k;omega)
theorem MZ {l : List Rec} {tx : Int} {n m : Nat} (h : m ∈ U l tx n) : 0 < m ∧ m ≤ n:=by
  have:=Ql _ m h
  have:=AY l tx n
  omega
theorem Kg {l l' : List Rec} {n k : Nat} (h : Agree l l' n) (hk : k < n) (hp : Gt l k) : Gt l' k:=by
  have e:=h k hk
  obtain ⟨h1,h2,h3,h4,h5⟩:=hp
  rw [e] at h1 h2 h3 h4 h5
  refine ⟨h1,fun k6 => ?_,fun k5 => ?_,fun he => ?_,fun hk3 t ht => ?_⟩
  · obtain ⟨m,ms,hm,hb⟩:=h2 k6
    have hm2 : m ∈ U l (rc l' k).tx k:=by rw [hm];simp
    have:=MZ hm2
    refine ⟨m,ms,by rw [← Gs h _ (by omega)];exact hm,?_⟩
    rw [← h (m - 1) (by omega)]
    exact hb
  · rw [← Gs h _ (by omega)];exact h3 k5
  · rw [← CP _ (h.le (by omega))];exact h4 he
  · rw [← JW h _ _ (by omega)];exact h5 hk3 t ht
theorem Qw {l : List Rec} (h : EF l) (n : Nat) : EF (l.take n):=fun k hk => by
  rw [List.length_take] at hk
  exact Kg (KN l n).symm (by omega) (h k (by omega))
theorem F4 {l : List Rec} {r : Rec} (h : EF l) (hr : Gt (l ++ [r]) l.length) : EF (l ++ [r]):=fun k hk => by
  rw [List.length_append,List.length_singleton] at hk
  rcases Nat.lt_or_ge k l.length with hlt | hge
  · exact Kg (Co l [r]).symm hlt (h k hlt)
  · obtain rfl : k = l.length:=by omega
    exact hr
theorem SA {l : List Rec} (hl : AP l = true) (hp : EF l) {k : Nat} (hk : k < l.length) (h : (rc l k).kind = 6) : ∃ m,U l (rc l k).tx k = m :: U l (rc l k).tx (k + 1) ∧ rc l k = Bj (rc l (m - 1)) (rc l k).prev:=by
  have F:=AA hl hk
  obtain ⟨m,ms,hm,hb⟩:=(hp k hk).Jh h
  refine ⟨m,?_,hb⟩
  have hmk:=MZ (show m ∈ U l (rc l k).tx k by rw [hm];simp)
  have hnx : EB l (k + 1) = BH l m:=by
    simp only [EB,BH,Nat.add_sub_cancel]
    rw [hb]
    rfl
  obtain ⟨h1,h2,h3,h4⟩:=FI _ m ms hm
  have Fm:=AA hl (k:=m - 1) (by omega)
  have hpm:=Fm.prev_le
  rw [show m - 1 + 1 = m by omega] at hpm
  rw [hm,(h4 (by omega)).1,U,F7 rfl (E8 (by omega)),LW h F.next_le,hnx]
theorem KL {l : List Rec} (hl : AP l = true) {k : Nat} (hk : k < l.length) : (rc l k).kind = 1 ∨ (rc l k).kind = 2 ∨ (rc l k).kind = 3 ∨ (rc l k).kind = 4 ∨ (rc l k).kind = 5 ∨ (rc l k).kind = 6:=by
  have:=(AA hl hk).ok
  rw [D7] at this
  omega
/-- What is to be undone is in the chain. -/
theorem X0 {l : List Rec} (hl : AP l = true) (hp : EF l) (tx : Int) : ∀ n,n ≤ l.length → ∀ m ∈ U l tx n,m ∈ Ch l tx n
  | 0,_,m,h => by simp [U,Aj,D5] at h
  | n + 1,hn,m,h => by
    have ih:=X0 hl hp tx n (by omega)
    by_cases ht : (rc l n).tx = tx
    · subst ht
      rcases KL hl (k:=n) (by omega) with hk | hk | hk | hk | hk | hk
      · rw [LQ hl (by omega) (E8 (by omega))]
        rw [TT hl (by omega) (.inl hk)] at h
        rcases List.mem_cons.1 h with rfl | h
        · simp
        · exact List.mem_cons_of_mem _ (ih m h)
      · rw [LQ hl (by omega) (E8 (by omega))]
        rw [TT hl (by omega) (.inr hk)] at h
        rcases List.mem_cons.1 h with rfl | h
        · simp
        · exact List.mem_cons_of_mem _ (ih m h)
      · rw [LQ hl (by omega) (E8 (by omega))]
        rw [SB hl (by omega) hk] at h
        exact List.mem_cons_of_mem _ (ih m h)
      · rw [P8 rfl (by rw [hk];rfl)] at h;cases h
      · rw [P8 rfl (by rw [hk];rfl)] at h;cases h
      · rw [LQ hl (by omega) (E8 (by omega))]
        obtain ⟨m',hm',_⟩:=SA hl hp (k:=n) (by omega) hk
        exact List.mem_cons_of_mem _ (ih m (by rw [hm'];exact List.mem_cons_of_mem _ h))
    · rw [Hq ht] at h
      rw [O7 ht]
      exact ih m h
theorem Rb {l : List Rec} (hl : AP l = true) {k : Nat} (hk : k < l.length) (h : ED (rc l k).kind = false) (p : Int) : has l (rc l k).tx (k + 1) p = ((rc l k).page == p || has l (rc l k).tx k p):=by
  have F:=AA hl hk
  rw [has,F7 rfl h,P6 F.prev_le,F.last,has]
theorem F8 {l : List Rec} {tx : Int} {k : Nat} (h : (rc l k).tx ≠ tx) (p : Int) : has l tx (k + 1) p = has l tx k p:=by rw [has,FP h,has]
theorem TK {l : List Rec} {tx : Int} {k : Nat} (h : (rc l k).tx = tx) (he : ED (rc l k).kind = true) (p : Int) : has l tx (k + 1) p = false:=by rw [has,Ii h he,Gw]
theorem NV {l : List Rec} (hl : AP l = true) (hp : EF l) {tx : Int} {n m : Nat} (hn : n ≤ l.length) (h : m ∈ U l tx n) : has l tx n (rc l (m - 1)).page = true:=TJ.2 ⟨m,X0 hl hp tx n hn m h,rfl⟩
/-- A page is held by one at most. -/
theorem GK {l : List Rec} (hl : AP l = true) (hp : EF l) : ∀ n,n ≤ l.length → ∀ t t' p,t ≠ t' → has l t n p = true → has l t' n p = false
  | 0,_,t,t',p,_,h => by simp [has,Aj,Gw] at h
  | n + 1,hn,t,t',p,hne,h => by
    have ih:=GK hl hp n (by omega)
    have hn' : n < l.length:=by omega
    cases he : ED (rc l n).kind
    · have hnew : ∀ s,s ≠ (rc l n).tx → has l s n (rc l n).page = false:=by
        intro s hs
        rcases KL hl hn' with hk | hk | hk | hk | hk | hk
        · exact (hp n hn').lock (by omega) s hs
        · exact (hp n hn').lock (by omega) s hs
        · exact (hp n hn').lock (by omega) s hs
        · rw [hk] at he;cases he
        · rw [hk] at he;cases he
        · obtain ⟨m,hm,hb⟩:=SA hl hp hn' hk
          have h1:=NV hl hp (tx:=(rc l n).tx) (n:=n) (m:=m) (by omega) (by rw [hm];simp)
          have h2 : (rc l n).page = (rc l (m - 1)).page:=by rw [hb];rfl
          rw [h2]
          exact ih _ _ _ (Ne.symm hs) h1
      by_cases ht : (rc l n).tx = t
      · subst ht
        rw [F8 hne]
        rw [Rb hl hn' he,Bool.or_eq_true,beq_iff_eq] at h
        rcases h with rfl | h
        · exact hnew t' (Ne.symm hne)
        · exact ih _ _ _ hne h
      · rw [F8 ht] at h
        by_cases ht' : (rc l n).tx = t'
        · subst ht'
          rw [Rb hl hn' he,ih _ _ _ hne h,Bool.or_false,beq_eq_false_iff_ne]
          rintro rfl
          rw [hnew t hne] at h
          cases h
        · rw [F8 ht']
          exact ih _ _ _ hne h
    · by_cases ht : (rc l n).tx = t
      · rw [TK ht he] at h;cases h
      · rw [F8 ht] at h
        by_cases ht' : (rc l n).tx = t'
        · exact TK ht' he p
        · rw [F8 ht']
          exact ih _ _ _ hne h
/-- What is to be undone of a page. -/
def F (l : List Rec) (n : Nat) (p t : Int) : List Nat:=(U l t n).filter fun m => (rc l (m - 1)).page == p
def UA (l : List Rec) (n : Nat) (p : Int) : List Nat:=F l n p 1 ++ (F l n p 2 ++ F l n p 3)
theorem Wj {l : List Rec} (hl : AP l = true) (hp : EF l) {n : Nat} (hn : n ≤ l.length) {p t : Int} (h : has l t n p = false) : F l n p t = []:=by
  rw [F,List.filter_eq_nil_iff]
  intro m hm
  have h1:=NV hl hp hn hm
  rw [beq_iff_eq]
  rintro rfl
  rw [h] at h1
  cases h1
theorem Jj {l : List Rec} (hl : AP l = true) {k : Nat} (hk : k < l.length) : (rc l k).tx = 1 ∨ (rc l k).tx = 2 ∨ (rc l k).tx = 3:=by
  have F:=AA hl hk
  have:=F.tx1
  have:=F.tx3
  omega
/-- If the others hold a page not, what is to be undone of it is one's. -/
theorem KO {l : List Rec} (hl : AP l = true) (hp : EF l) {n : Nat} (hn : n ≤ l.length) {p t : Int} (ht : t = 1 ∨ t = 2 ∨ t = 3) (h : ∀ s,s ≠ t → has l s n p = false) : UA l n p = F l n p t:=by
  have hF : ∀ s,s ≠ t → F l n p s = []:=fun s hs => Wj hl hp hn (h s hs)
  rw [UA]
  rcases ht with rfl | rfl | rfl
  · rw [hF 2 (by decide),hF 3 (by decide)];simp
  · rw [hF 1 (by decide),hF 3 (by decide)];simp
  · rw [hF 1 (by decide),hF 2 (by decide)];simp
theorem EM {l l' : List Rec} {n : Nat} (h : Agree l l' n) (p : Int) {k : Nat} (hk : k ≤ n) : UA l k p = UA l' k p:=by
  have hF : ∀ t,F l k p t = F l' k p t:=fun t => by
    rw [F,F,Gs h t hk]
    refine List.filter_congr fun m hm => ?_
    have:=MZ hm
    rw [h (m - 1) (by omega)]
  rw [UA,UA,hF,hF,hF]
theorem LJ {l : List Rec} {n : Nat} {p : Int} (h : ∀ t,F l (n + 1) p t = F l n p t) : UA l (n + 1) p = UA l n p:=by
  rw [UA,UA,h,h,h]
theorem SC {l : List Rec} (hl : AP l = true) (hp : EF l) {n : Nat} (hn : n < l.length) (h : (rc l n).kind = 1 ∨ (rc l n).kind = 2) (p : Int) : UA l (n + 1) p = if (rc l n).page = p then (n + 1) :: UA l n p else UA l n p:=by
  have hU:=TT hl hn h
  split
  · rename_i e
    subst e
    have hlk:=(hp n hn).lock (by omega)
    rw [KO hl hp (by omega) (Jj hl hn) hlk,KO hl hp (n:=n + 1) (by omega) (Jj hl hn) (fun s hs => by rw [F8 (Ne.symm hs)];exact hlk s hs),F,hU,List.filter_cons,F]
    simp
  · rename_i e
    refine LJ fun t => ?_
    by_cases ht : (rc l n).tx = t
    · subst ht
      rw [F,hU,List.filter_cons,F]
      simp [e]
    · rw [F,Hq ht,F]
theorem TV {l : List Rec} (hl : AP l = true) {n : Nat} (hn : n < l.length) (h : (rc l n).kind = 3) (p : Int) : UA l (n + 1) p = UA l n p:=by
  refine LJ fun t => ?_
  by_cases ht : (rc l n).tx = t
  · subst ht
    rw [F,SB hl hn h,F]
  · rw [F,Hq ht,F]
theorem O4 {l : List Rec} (hp : EF l) {n : Nat} (hn : n < l.length) (h : (rc l n).kind = 5) (p : Int) : UA l (n + 1) p = UA l n p:=by
  refine LJ fun t => ?_
  by_cases ht : (rc l n).tx = t
  · subst ht
    rw [F,P8 rfl (by rw [h];rfl),F,(hp n hn).ended h]
  · rw [F,Hq ht,F]
theorem WN {l : List Rec} (hl : AP l = true) (hp : EF l) {n : Nat} (hn : n < l.length) (h : (rc l n).kind = 4) (p : Int) : UA l (n + 1) p = if has l (rc l n).tx n p = true then [] else UA l n p:=by
  have hF : F l (n + 1) p (rc l n).tx = []:=by rw [F,P8 rfl (by rw [h];rfl)];rfl
  split
  · rename_i e
    rw [KO hl hp (n:=n + 1) (by omega) (Jj hl hn) (fun s hs => by rw [F8 (Ne.symm hs)];exact GK hl hp n (by omega) _ _ _ (Ne.symm hs) e),hF]
  · rename_i e
    refine LJ fun t => ?_
    by_cases ht : (rc l n).tx = t
    · subst ht
      rw [hF,Wj hl hp (by omega) (by simpa using e)]
    · rw [F,Hq ht,F]
theorem Q0 {l : List Rec} (hl : AP l = true) (hp : EF l) {n : Nat} (hn : n < l.length) (h : (rc l n).kind = 6) : ∃ m,rc l n = Bj (rc l (m - 1)) (rc l n).prev ∧ ∀ p,UA l n p = if (rc l n).page = p then m :: UA l (n + 1) p else UA l (n + 1) p:=by
  obtain ⟨m,hm,hb⟩:=SA hl hp hn h
  refine ⟨m,hb,fun p => ?_⟩
  have hpg : (rc l n).page = (rc l (m - 1)).page:=by rw [hb];rfl
  have hhas:=NV hl hp (tx:=(rc l n).tx) (n:=n) (m:=m) (by omega) (by rw [hm];simp)
  rw [← hpg] at hhas
  split
  · rename_i e
    subst e
    have hlk : ∀ s,s ≠ (rc l n).tx → has l s n (rc l n).page = false:=fun s hs => GK hl hp n (by omega) _ _ _ (Ne.symm hs) hhas
    rw [KO hl hp (by omega) (Jj hl hn) hlk,KO hl hp (n:=n + 1) (by omega) (Jj hl hn) (fun s hs => by rw [F8 (Ne.symm hs)];exact hlk s hs),F,hm,List.filter_cons,F]
    simp [hpg]
  · rename_i e
    refine (LJ fun t => ?_).symm
    by_cases ht : (rc l n).tx = t
    · subst ht
      rw [F,F,hm,List.filter_cons]
      rw [hpg] at e
      simp [e]
    · rw [F,Hq ht,F]
theorem JK (p : Page) (r : Rec) : (AZ p r).lsn = p.lsn:=by
  unfold AZ
  split
  · rfl
  · split <;> rfl
theorem Ua (p : Page) (r : Rec) (k : Int) : AZ ⟨k,p.owner,p.vals⟩ r = ⟨k,(AZ p r).owner,(AZ p r).vals⟩:=by
  unfold AZ
  split
  · rfl
  · split <;> rfl
theorem H6 {p q : Page} (r : Rec) (h : p.owner = q.owner) : (AZ p r).owner = (AZ q r).owner:=by
  unfold AZ
  split
  · exact h
  · split <;> rfl
theorem GJ {p : Page} {k : Int} (h : Bt p = true) (h0 : 0 ≤ k) (h1 : k ≤ 150) : Bt ⟨k,p.owner,p.vals⟩ = true:=by
  rw [Ci] at h ⊢
  exact ⟨h0,h1,h.2.2⟩
theorem Qz {p q : Page} (h1 : p.lsn = q.lsn) (h2 : p.owner = q.owner) (h3 : p.vals = q.vals) : p = q:=by
  cases p;cases q
  simp only at h1 h2 h3
  rw [h1,h2,h3]
/-- Undoing these, one by one, a page stays valid; then it is what c tells. -/
def Ep (l : List Rec) (c : Page) : List Nat → Page → Prop
  | [],P => Bt P = true ∧ P.owner = c.owner ∧ P.vals = c.vals
  | m :: ms,P => Bt P = true ∧ Ep l c ms (AZ P (Bj (rc l (m - 1)) 0))
theorem Ib {l : List Rec} {c : Page} {ms : List Nat} {P : Page} (h : Ep l c ms P) : Bt P = true:=by
  cases ms
  · exact h.1
  · exact h.1
theorem IE {l : List Rec} {c : Page} {k : Int} (h0 : 0 ≤ k) (h1 : k ≤ 150) : ∀ {ms : List Nat} {P : Page},Ep l c ms P → Ep l c ms ⟨k,P.owner,P.vals⟩
  | [],P,h => ⟨GJ h.1 h0 h1,h.2⟩
  | m :: ms,P,h => ⟨GJ h.1 h0 h1,by rw [Ua];exact IE h0 h1 h.2⟩
theorem CX {l l' : List Rec} {c : Page} {n : Nat} (h : Agree l l' n) : ∀ {ms : List Nat} {P : Page},(∀ m ∈ ms,0 < m ∧ m ≤ n) → Ep l c ms P → Ep l' c ms P
  | [],_,_,hp => hp
  | m :: ms,P,hm,hp => ⟨hp.1,by
    have:=hm m (by simp)
    rw [← h (m - 1) (by omega)]
    exact CX h (fun x hx => hm x (by simp [hx])) hp.2⟩
/-- Is there one among them that gives the page back to nobody? -/
def PN (l : List Rec) (ms : List Nat) : Prop := ∃ m ∈ ms,(rc l (m - 1)).slot < 0 ∧ (rc l (m - 1)).old = 0
theorem DW {l l' : List Rec} {n : Nat} {ms : List Nat} (h : Agree l l' n) (hm : ∀ m ∈ ms,0 < m ∧ m ≤ n) (hz : PN l ms) : PN l' ms:=by
  obtain ⟨m,h1,h2,h3⟩:=hz
  have:=hm m h1
  rw [h (m - 1) (by omega)] at h2 h3
  exact ⟨m,h1,h2,h3⟩
theorem FH {p : Page} {r : Rec} (h : r.slot < 0) (h0 : r.new = 0) : AZ p r = ⟨p.lsn,0, [0,0,0]⟩:=by
  rw [AZ,if_neg (by omega),if_pos h0]
theorem UN {vs : List Int} (h : vs.length = 3) (h0 : ∀ x ∈ vs,x = 0) : vs = [0,0,0]:=by
  match vs,h with
  | [a,b,c],_ => rw [h0 a (by simp),h0 b (by simp),h0 c (by simp)]
theorem QH {vs : List Int} {i : Nat} {x y : Int} (h : y ∈ vs.set i x) : y ∈ vs ∨ y = x:=List.mem_or_eq_of_mem_set h
theorem Ws {vs : List Int} {i : Nat} {x : Int} (h : i < vs.length) : x ∈ vs.set i x:=by
  rw [List.mem_iff_getElem?]
  exact ⟨i,by simp [h]⟩
/-- A page of the same owner, behind a record that leaves another one valid. -/
theorem UQ {P P' : Page} {r : Rec} (hr : r.slot ≤ 2) (h : Bt P = true) (h' : Bt P' = true) (ho : P'.owner = P.owner) (hw : Bt (AZ P r) = true) : Bt (AZ P' r) = true:=by
  rw [Ci] at h h' hw ⊢
  rw [JK] at hw ⊢
  have hown:=H6 (p:=P') (q:=P) r ho
  rw [hown]
  refine ⟨h'.1,h'.2.1,hw.2.2.1,hw.2.2.2.1,JL h'.2.2.2.2.1,?_⟩
  rcases Int.lt_or_le r.slot 0 with hs | hs
  · by_cases h0 : r.new = 0
    · rw [FH hs h0]
      intro x hx
      simp at hx
      rw [hx]
      simp
    · have e1 : AZ P' r = ⟨P'.lsn,r.new,P'.vals⟩:=by rw [AZ,if_neg (by omega),if_neg h0]
      have e2 : AZ P r = ⟨P.lsn,r.new,P.vals⟩:=by rw [AZ,if_neg (by omega),if_neg h0]
      rw [e1,e2]
      intro x hx
      have:=h'.2.2.2.2.2 x hx
      exact ⟨this.1,this.2.1,fun e => absurd e h0⟩
  · have e1 : AZ P' r = ⟨P'.lsn,P'.owner,P'.vals.set r.slot.toNat r.new⟩:=by rw [AZ,if_pos hs]
    have e2 : AZ P r = ⟨P.lsn,P.owner,P.vals.set r.slot.toNat r.new⟩:=by rw [AZ,if_pos hs]
    rw [e2] at hw ⊢
    rw [e1]
    have hnew:=hw.2.2.2.2.2 r.new (Ws (by rw [h.2.2.2.2.1];omega))
    intro x hx
    rcases QH hx with hx | rfl
    · have:=h'.2.2.2.2.2 x hx
      exact ⟨this.1,this.2.1,fun e => this.2.2 (by rw [ho];exact e)⟩
    · exact hnew
/-- What stands ahead of a giving back does not count, but for whose the page is. -/
theorem Jv {l : List Rec} {c : Page} : ∀ {ms : List Nat} {P P' : Page},(∀ m ∈ ms,(rc l (m - 1)).slot ≤ 2) → PN l ms → Bt P' = true → P'.owner = P.owner → Ep l c ms P → Ep l c ms P'
  | [],_,_,_,⟨_,h,_⟩,_,_,_ => by cases h
  | m :: ms,P,P',hs,hz,h',ho,h => by
    refine ⟨h',?_⟩
    have hok:=Ib h.2
    have hb : (Bj (rc l (m - 1)) 0).slot ≤ 2:=hs m (by simp)
    have hw:=UQ hb h.1 h' ho hok
    by_cases hzz : (rc l (m - 1)).slot < 0 ∧ (rc l (m - 1)).old = 0
    · have e1 : AZ P' (Bj (rc l (m - 1)) 0) = ⟨P'.lsn,0, [0,0,0]⟩:=FH hzz.1 hzz.2
      have e2 : AZ P (Bj (rc l (m - 1)) 0) = ⟨P.lsn,0, [0,0,0]⟩:=FH hzz.1 hzz.2
      rw [e1]
      have h2:=h.2
      rw [e2] at h2
      rw [Ci] at h'
      exact IE h'.1 h'.2.1 h2
    · refine Jv (fun x hx => hs x (by simp [hx])) ?_ hw (H6 _ ho) h.2
      obtain ⟨x,hx,h1,h2⟩:=hz
      rcases List.mem_cons.1 hx with rfl | hx
      · exact absurd ⟨h1,h2⟩ hzz
      · exact ⟨x,hx,h1,h2⟩
/-- A page behind the first n records, redone. -/
def BV (P : Page) (l : List Rec) (p : Nat) : Nat → Page
  | 0 => P
  | n + 1 => if Cx (rc l n).kind = true ∧ (rc l n).page = p ∧ (BV P l p n).lsn < (n + 1 : Nat) then doR (BV P l p n) (rc l n) (n + 1 : Nat) else BV P l p n
theorem Fb {ps : List Page} {i j : Nat} {q : Page} (h : i < ps.length) : pg (ps.set i q) j = if i = j then q else pg ps j:=by
  by_cases e : i = j
  · subst e
    simp [pg,List.getD_eq_getElem?_getD,h]
  · simp [pg,List.getD_eq_getElem?_getD,e]
theorem I7 (ps : List Page) (l : List Rec) (n : Nat) : (Ck ps l n).length = ps.length:=by
  induction n with
  | zero => rfl
  | succ n ih =>
    rw [Ck,DZ]
    split
    · rw [List.length_set,ih]
    · exact ih
theorem Lb {ps : List Page} {l : List Rec} (h5 : ps.length = 5) (hl : ∀ k,k < l.length → CS (rc l k) = true) (p : Nat) : ∀ n,n ≤ l.length → pg (Ck ps l n) p = BV (pg ps p) l p n
  | 0,_ => rfl
  | n + 1,hn => by
    have ih:=fun p => Lb h5 hl p n (by omega)
    rw [Ck,DZ,BV]
    by_cases hc : Cx (rc l n).kind = true
    · have hpg:=GU (hl n (by omega)) hc
      by_cases hp : (rc l n).page = p
      · have e : (rc l n).page.toNat = p:=by omega
        rw [e,ih p]
        by_cases hlt : (BV (pg ps p) l p n).lsn < ((n + 1 : Nat) : Int)
        · rw [if_pos ⟨hc,hlt⟩,if_pos ⟨hc,hp,hlt⟩,Fb (by rw [I7];omega),if_pos rfl]
        · rw [if_neg (fun h => hlt h.2),if_neg (fun h => hlt h.2.2),ih p]
      · rw [if_neg (c:=_ ∧ _ = _ ∧ _) (fun h => hp h.2.1)]
        split
        · rw [Fb (by rw [I7];omega),if_neg (by omega),ih p]
        · exact ih p
    · rw [if_neg (fun h => hc h.1),if_neg (fun h => hc h.1),ih p]
theorem H9 {l l' : List Rec} (P : Page) (p : Nat) : ∀ {n : Nat},Agree l l' n → BV P l p n = BV P l' p n
  | 0,_ => rfl
  | n + 1,h => by
    unfold BV
    rw [H9 P p (h.le (Nat.le_succ n)),h n (by omega)]
theorem M5 {P : Page} {l : List Rec} {p : Nat} : ∀ n : Nat,P.lsn ≤ (BV P l p n).lsn ∧ ((BV P l p n).lsn ≤ P.lsn ∨ (BV P l p n).lsn ≤ n)
  | 0 => ⟨Int.le_refl _, .inl (Int.le_refl _)⟩
  | n + 1 => by
    have ih:=M5 (P:=P) (l:=l) (p:=p) n
    rw [BV]
    split
    · rename_i h
      have : (doR (BV P l p n) (rc l n) ((n + 1 : Nat) : Int)).lsn = ((n + 1 : Nat) : Int):=rfl
      rw [this]
      have:=h.2.2
      omega
    · omega
/-- Is page p changed by record k (from 0)? -/
def TN (l : List Rec) (p k : Nat) : Prop:=Cx (rc l k).kind = true ∧ (rc l k).page = p
theorem NE {P : Page} {l : List Rec} {p : Nat} : ∀ {n : Nat} {k : Nat},k < n → (BV P l p n).lsn < (k + 1 : Nat) → ¬ TN l p k
  | 0,k,hk,_ => by omega
  | n + 1,k,hk,h => by
    rw [BV] at h
    split at h
    · have : (doR (BV P l p n) (rc l n) ((n + 1 : Nat) : Int)).lsn = ((n + 1 : Nat) : Int):=rfl
      rw [this] at h
      omega
    · rename_i hc
      rcases Nat.eq_or_lt_of_le (Nat.le_of_lt_succ hk) with rfl | hlt
      · exact fun hch => hc ⟨hch.1,hch.2,h⟩
      · exact NE hlt h
/-- A page that is ahead of all that changes it. -/
theorem IB {P : Page} {l : List Rec} {p : Nat} : ∀ {n : Nat},(∀ k,k < n → P.lsn < (k + 1 : Nat) → ¬ TN l p k) → BV P l p n = P
  | 0,_ => rfl
  | n + 1,h => by
    have ih:=IB (P:=P) (l:=l) (p:=p) (n:=n) (fun k hk => h k (by omega))
    rw [BV,ih,if_neg]
    exact fun hc => h n (by omega) hc.2.2 ⟨hc.1,hc.2.1⟩
theorem GH {P : Page} {l : List Rec} {r : Rec} {p : Nat} : BV P (l ++ [r]) p (l.length + 1) = if Cx r.kind = true ∧ r.page = p ∧ (BV P l p l.length).lsn < (l.length + 1 : Nat) then doR (BV P l p l.length) r (l.length + 1 : Nat) else BV P l p l.length:=by
  rw [BV,BI,H9 P p (Co l [r])]
theorem DL {l : List Rec} {n m : Nat} {p : Int} (h : m ∈ UA l n p) : 0 < m ∧ m ≤ n ∧ (rc l (m - 1)).page = p ∧ ∃ t,m ∈ U l t n:=by
  have hF : ∀ t,m ∈ F l n p t → 0 < m ∧ m ≤ n ∧ (rc l (m - 1)).page = p ∧ ∃ t,m ∈ U l t n:=fun t hm => by
    obtain ⟨h1,h2⟩:=List.mem_filter.1 hm
    have:=MZ h1
    exact ⟨this.1,this.2,by simpa using h2,t,h1⟩
  rw [UA,List.mem_append,List.mem_append] at h
  rcases h with h | h | h
  · exact hF _ h
  · exact hF _ h
  · exact hF _ h
theorem PZ {l : List Rec} (hl : AP l = true) {t : Int} {n m : Nat} (hn : n ≤ l.length) (h : m ∈ U l t n) : (rc l (m - 1)).kind = 1 ∨ (rc l (m - 1)).kind = 2:=by
  have:=AY l t n
  exact (SV hl _ (by omega) m h).2.2
theorem TU {l : List Rec} (hl : AP l = true) {n : Nat} {p : Int} (hn : n ≤ l.length) : ∀ m ∈ UA l n p,(rc l (m - 1)).slot ≤ 2:=fun m hm => by
  obtain ⟨h1,h2,h3,t,h4⟩:=DL hm
  have:=(H7 hl (m:=m) h1 (by omega) (PZ hl hn h4)).2.2.2
  omega
/-- Where nothing changes a page, and nobody is done, what is to be undone of it stays. -/
theorem Rn {l : List Rec} (hl : AP l = true) (hp : EF l) {p m : Nat} : ∀ {n : Nat},m ≤ n → n ≤ l.length → (∀ k,m ≤ k → k < n → ¬ TN l p k ∧ (rc l k).kind ≠ 4) → UA l n p = UA l m p
  | 0, hm, _, _ => by obtain rfl : m = 0 := by omega
                      rfl
  | n + 1,hm,hn,h => by
    rcases Nat.eq_or_lt_of_le hm with rfl | hlt
    · rfl
    · have ih:=Rn hl hp (p:=p) (m:=m) (n:=n) (by omega) (by omega) (fun k h1 h2 => h k h1 (by omega))
      obtain ⟨h1,h2⟩:=h n (by omega) (by omega)
      rw [← ih]
      rcases KL hl (k:=n) (by omega) with hk | hk | hk | hk | hk | hk
      · rw [SC hl hp (by omega) (.inl hk),if_neg fun e => h1 ⟨by rw [hk];rfl,e⟩]
      · rw [SC hl hp (by omega) (.inr hk),if_neg fun e => h1 ⟨by rw [hk];rfl,e⟩]
      · rw [TV hl (by omega) hk]
      · exact absurd hk h2
      · rw [O4 hp (by omega) hk]
      · obtain ⟨x,_,hx⟩:=Q0 hl hp (n:=n) (by omega) hk
        rw [hx p,if_neg fun e => h1 ⟨by rw [hk];rfl,e⟩]
def cst (l : List Rec) (t : Int) (n : Nat) : Nat:=(U l t n).length + (if Aj l t n = 0 then 0 else 1)
def Bp (l : List Rec) (n : Nat) : Nat:=cst l 1 n + (cst l 2 n + cst l 3 n)
theorem Nj (l : List Rec) : need l = Bp l l.length:=by
  have e1 : (3 - ((2 : Nat) : Int)) = 1:=rfl
  have e2 : (3 - ((1 : Nat) : Int)) = 2:=rfl
  have e3 : (3 - ((0 : Nat) : Int)) = 3:=rfl
  rw [need,Ic,Ic,Ic,Ic,e1,e2,e3]
  rfl
theorem JX {l l' : List Rec} {n : Nat} (h : Agree l l' n) (t : Int) {k : Nat} (hk : k ≤ n) : cst l t k = cst l' t k:=by
  rw [cst,cst,Gs h t hk,CP t (h.le hk)]
theorem Gl {l l' : List Rec} {n : Nat} (h : Agree l l' n) {k : Nat} (hk : k ≤ n) : Bp l k = Bp l' k:=by
  rw [Bp,Bp,JX h 1 hk,JX h 2 hk,JX h 3 hk]
theorem UE {l : List Rec} {t : Int} {n : Nat} (h : (rc l n).tx ≠ t) : cst l t (n + 1) = cst l t n:=by
  rw [cst,cst,Hq h,FP h]
/-- A record changes the need of its own transaction alone. -/
theorem Jz {l : List Rec} {n : Nat} {t : Int} (ht : (rc l n).tx = t) (h3 : t = 1 ∨ t = 2 ∨ t = 3) : Bp l (n + 1) + cst l t n = Bp l n + cst l t (n + 1):=by
  have ho : ∀ s,s ≠ t → cst l s (n + 1) = cst l s n:=fun s hs => UE (by rw [ht];exact Ne.symm hs)
  rw [Bp,Bp]
  rcases h3 with rfl | rfl | rfl
  · rw [ho 2 (by decide),ho 3 (by decide)];omega
  · rw [ho 1 (by decide),ho 3 (by decide)];omega
  · rw [ho 1 (by decide),ho 2 (by decide)];omega
def Dk (e : Eng) (p : Nat) : Page:=BV (pg e.disk p) e.log p e.log.length
/-- What holds of the disk and the log: C tells what was done, B what room is taken. -/
structure Core (e : Eng) (C : Nat → Page) (B : Nat) : Prop where
  dlen : e.disk.length = 5
  dok : ∀ p,p < 5 → Bt (pg e.disk p) = true
  log : AP e.log = true
  prop : EF e.log
  s0 : 0 ≤ e.safe
  s1 : e.safe ≤ e.log.length
  b150 : B ≤ 150
  room : ∀ n,n ≤ e.log.length → n + Bp e.log n ≤ B
  done : ∀ k,k < e.log.length → (rc e.log k).kind = 4 → ((k + 1 : Nat) : Int) ≤ e.safe
  LD : ∀ p,p < 5 → (pg e.disk p).lsn ≤ e.safe
  good : ∀ n : Nat,e.safe ≤ n → n ≤ e.log.length → ∀ p,p < 5 → Ep e.log (C p) (UA e.log n p) (BV (pg e.disk p) e.log p n)
theorem Core.mem {e : Eng} {C : Nat → Page} {B : Nat} (h : Core e C B) (m : List Page) (d : Bool) : Core { e with mem:=m,down:=d } C B:=
  ⟨h.dlen,h.dok,h.log,h.prop,h.s0,h.s1,h.b150,h.room,h.done,h.LD,h.good⟩
theorem Core.WB {e : Eng} {C : Nat → Page} {B : Nat} (h : Core e C B) : e.log.length ≤ 150:=Be h.log
theorem Core.Wu {e : Eng} {C : Nat → Page} {B : Nat} (h : Core e C B) {p n : Nat} (hp : p < 5) (hn : e.safe ≤ n) : (BV (pg e.disk p) e.log p n).lsn ≤ n:=by
  have h1:=M5 (P:=pg e.disk p) (l:=e.log) (p:=p) n
  have h2:=h.LD p hp
  omega
theorem Core.rok {e : Eng} {C : Nat → Page} {B : Nat} (h : Core e C B) {p n : Nat} (hp : p < 5) (hn : e.safe ≤ n) (hl : n ≤ e.log.length) : Bt (BV (pg e.disk p) e.log p n) = true:=Ib (h.good n hn hl p hp)
/-- A record more, other than one that tells 'done'. -/
theorem Core.snoc {e : Eng} {C : Nat → Page} {B B' : Nat} {r : Rec} (h : Core e C B) (hB : B ≤ B') (hB' : B' ≤ 150) (hl : AP (e.log ++ [r]) = true) (hr : Gt (e.log ++ [r]) e.log.length) (hk : r.kind ≠ 4)
    (hroom : e.log.length + 1 + Bp (e.log ++ [r]) (e.log.length + 1) ≤ B') (hg : ∀ p,p < 5 → Ep (e.log ++ [r]) (C p) (UA (e.log ++ [r]) (e.log.length + 1) p) (BV (pg e.disk p) (e.log ++ [r]) p (e.log.length + 1))) : Core { e with log:=e.log ++ [r] } C B':=by
  have hA:=Co e.log [r]
  have hlen : (e.log ++ [r]).length = e.log.length + 1:=by simp
  refine ⟨h.dlen,h.dok,hl,F4 h.prop hr,h.s0,?_,hB',fun n hn => ?_,fun k hk' hk4 => ?_,h.LD,fun n hs hn p hp => ?_⟩
  · have:=h.s1
    show e.safe ≤ ((e.log ++ [r]).length : Nat)
    rw [hlen];omega
  · have hn : n ≤ (e.log ++ [r]).length:=hn
    show n + Bp (e.log ++ [r]) n ≤ B'
    rw [hlen] at hn
    rcases Nat.lt_or_ge e.log.length n with hlt | hge
    · obtain rfl : n = e.log.length + 1:=by omega
      exact hroom
    · rw [Gl hA hge]
      have:=h.room n hge
      omega
  · have hk' : k < (e.log ++ [r]).length:=hk'
    have hk4 : (rc (e.log ++ [r]) k).kind = 4:=hk4
    rw [hlen] at hk'
    rcases Nat.lt_or_ge k e.log.length with hlt | hge
    · rw [M6 hlt] at hk4
      exact h.done k hlt hk4
    · obtain rfl : k = e.log.length:=by omega
      rw [BI] at hk4
      exact absurd hk4 hk
  · have hn : n ≤ (e.log ++ [r]).length:=hn
    rw [hlen] at hn
    show Ep (e.log ++ [r]) (C p) (UA (e.log ++ [r]) n p) (BV (pg e.disk p) (e.log ++ [r]) p n)
    rcases Nat.lt_or_ge e.log.length n with hlt | hge
    · obtain rfl : n = e.log.length + 1:=by omega
      exact hg p hp
    · rw [EM hA p hge,H9 _ p (hA.le hge)]
      exact CX hA.symm (fun m hm => by have:=DL hm;omega) (h.good n hs hge p hp)
/-- Is a page loaded by tx; by anybody. -/
def ld (l : List Rec) (t : Int) (n : Nat) (p : Int) : Bool:=EJ l (Aj l t n) p
theorem Vp (l : List Rec) (p : Int) : Ig l p 3 = (ld l 1 l.length p || (ld l 2 l.length p || ld l 3 l.length p)):=by
  have e1 : (3 - ((2 : Nat) : Int)) = 1:=rfl
  have e2 : (3 - ((1 : Nat) : Int)) = 2:=rfl
  have e3 : (3 - ((0 : Nat) : Int)) = 3:=rfl
  rw [Ig,Ig,Ig,Ig,e1,e2,e3,Bool.or_false]
  rfl
theorem Vr {l : List Rec} {t p : Int} {n : Nat} : ld l t n p = true ↔ ∃ m ∈ Ch l t n,(rc l (m - 1)).kind = 3 ∧ (rc l (m - 1)).page = p:=by
  simp [ld,EJ,Ch]
theorem Mf {l : List Rec} {t p : Int} {n : Nat} (h : ld l t n p = true) : has l t n p = true:=by
  obtain ⟨m,h1,_,h2⟩:=Vr.1 h
  exact TJ.2 ⟨m,h1,h2⟩
theorem GN {l l' : List Rec} {n : Nat} (h : Agree l l' n) (t p : Int) {k : Nat} (hk : k ≤ n) : ld l t k p = ld l' t k p:=by
  rw [ld,ld,CP t (h.le hk)]
  exact QS h p (by have:=AY l' t k;omega)
theorem Lj {l : List Rec} {t : Int} {k : Nat} (h : (rc l k).tx ≠ t) (p : Int) : ld l t (k + 1) p = ld l t k p:=by rw [ld,FP h,ld]
theorem RX {l : List Rec} {t : Int} {k : Nat} (h : (rc l k).tx = t) (he : ED (rc l k).kind = true) (p : Int) : ld l t (k + 1) p = false:=by rw [ld,Ii h he,KG]
theorem TA {l : List Rec} (hl : AP l = true) {k : Nat} (hk : k < l.length) (h : ED (rc l k).kind = false) (p : Int) : ld l (rc l k).tx (k + 1) p = (((rc l k).kind == 3 && (rc l k).page == p) || ld l (rc l k).tx k p):=by
  have F:=AA hl hk
  rw [ld,F7 rfl h,RV F.prev_le,F.last,ld]
def lds (l : List Rec) (n : Nat) (p : Int) : Bool:=ld l 1 n p || (ld l 2 n p || ld l 3 n p)
theorem Li {l : List Rec} {n : Nat} {p : Int} : lds l n p = true ↔ ∃ t,(t = 1 ∨ t = 2 ∨ t = 3) ∧ ld l t n p = true:=by
  simp only [lds,Bool.or_eq_true]
  constructor
  · rintro (h | h | h)
    · exact ⟨1,by simp,h⟩
    · exact ⟨2,by simp,h⟩
    · exact ⟨3,by simp,h⟩
  · rintro ⟨t,rfl | rfl | rfl,h⟩
    · exact .inl h
    · exact .inr (.inl h)
    · exact .inr (.inr h)
theorem QZ {l : List Rec} {n : Nat} {p : Int} (h : ∀ t,ld l t (n + 1) p = ld l t n p) : lds l (n + 1) p = lds l n p:=by rw [lds,lds,h,h,h]
theorem Ih {l l' : List Rec} {n : Nat} (h : Agree l l' n) (p : Int) {k : Nat} (hk : k ≤ n) : lds l k p = lds l' k p:=by
  rw [lds,lds,GN h 1 p hk,GN h 2 p hk,GN h 3 p hk]
/-- A record that is no load of a page, and no end, leaves it loaded or not. -/
theorem NP {l : List Rec} (hl : AP l = true) {n : Nat} (hn : n < l.length) (he : ED (rc l n).kind = false) {p : Int} (h : ¬ ((rc l n).kind = 3 ∧ (rc l n).page = p)) : lds l (n + 1) p = lds l n p:=by
  refine QZ fun t => ?_
  by_cases ht : (rc l n).tx = t
  · subst ht
    rw [TA hl hn he]
    have : ((rc l n).kind == 3 && (rc l n).page == p) = false:=by
      rw [Bool.eq_false_iff]
      intro h2
      simp only [Bool.and_eq_true,beq_iff_eq] at h2
      exact h h2
    rw [this,Bool.false_or]
  · exact Lj ht p
theorem Tz {l : List Rec} {n : Nat} (he : ED (rc l n).kind = true) {p : Int} (h : ld l (rc l n).tx n p = false) : lds l (n + 1) p = lds l n p:=by
  refine QZ fun t => ?_
  by_cases ht : (rc l n).tx = t
  · subst ht
    rw [RX rfl he,h]
  · exact Lj ht p
/-- What holds of a page in memory, while the engine runs. -/
structure Qe (e : Eng) (p : Nat) : Prop where
  ok : Bt (pg e.mem p) = true
  owner : (pg e.mem p).owner = (Dk e p).owner
  lsn : (pg e.mem p).lsn ≤ e.log.length
  cases : (lds e.log e.log.length p = false ∧ pg e.mem p = Dk e p) ∨ (lds e.log e.log.length p = true ∧ (pg e.mem p).lsn = BD e.log p e.log.length ∧ ((pg e.disk p).lsn < (pg e.mem p).lsn ∨ pg e.mem p = pg e.disk p) ∧ (pg e.mem p = Dk e p ∨ PN e.log (UA e.log e.log.length p)))
/-- No undoing is under way. -/
def UpC (l : List Rec) : Prop := ∀ t, ∀ m ∈ Ch l t l.length,(rc l (m - 1)).kind ≠ 6
structure Inv (e : Eng) (C : Nat → Page) (B : Nat) : Prop where
  core : Core e C B
  mlen : e.mem.length = 5
  dn : e.down = true → e.mem = e.disk
  upc : e.down = false → UpC e.log
  upm : e.down = false → ∀ p,p < 5 → Qe e p
theorem Qe.alt {e : Eng} {p : Nat} (h : Qe e p) : pg e.mem p = Dk e p ∨ PN e.log (UA e.log e.log.length p):=by
  rcases h.cases with h | h
  · exact .inl h.2
  · exact h.2.2.2
/-- What is in memory, undone, is what was done. -/
theorem Core.Tx {e : Eng} {C : Nat → Page} {B : Nat} (h : Core e C B) {p : Nat} (hp : p < 5) {M : Page} (hok : Bt M = true) (ho : M.owner = (Dk e p).owner) (ha : M = Dk e p ∨ PN e.log (UA e.log e.log.length p)) : Ep e.log (C p) (UA e.log e.log.length p) M:=by
  have hg:=h.good e.log.length h.s1 (Nat.le_refl _) p hp
  rcases ha with ha | ha
  · rw [ha];exact hg
  · exact Jv (TU h.log (Nat.le_refl _)) ha hok ho hg
/-- An engine behind one record more; its page, if it changes one, too. -/
def Eng.app (e : Eng) (r : Rec) : Eng:=
  { e with log:=e.log ++ [{ r with prev:=Aj e.log r.tx e.log.length }],mem:=if Cx r.kind = true then e.mem.set r.page.toNat (doR (pg e.mem r.page.toNat) r (e.log.length + 1 : Nat)) else e.mem }
abbrev lastT (e : Eng) (tx : Int) : Nat:=Aj e.log tx e.log.length
/-- One step of an undoing. -/
def Dv (e : Eng) (tx : Int) : Rec:=if Bq e.log (lastT e tx) = 0 then ⟨5,tx,0,0,0,0,0,0⟩ else Bj (rc e.log (Bq e.log (lastT e tx) - 1)) 0
def Bg (e : Eng) (tx : Int) : Eng:=e.app (Dv e tx)
theorem Ey (p : Page) (r : Rec) (n : Int) : doR p r n = ⟨n,(AZ p r).owner,(AZ p r).vals⟩:=rfl
theorem KE {l : List Rec} (r : Rec) : Bp (l ++ [r]) l.length = Bp l l.length:=Gl (Co l [r]) (Nat.le_refl _)
theorem PS {l : List Rec} (r : Rec) (t : Int) : cst (l ++ [r]) t l.length = cst l t l.length:=JX (Co l [r]) t (Nat.le_refl _)
theorem GQ (l : List Rec) (tx : Int) : ∀ n,Aj l tx n = 0 ∨ (rc l (Aj l tx n - 1)).tx = tx
  | 0 => .inl rfl
  | n + 1 => by
    rw [Aj]
    split
    · rename_i h
      split
      · exact .inl rfl
      · exact .inr h
    · exact GQ l tx n
theorem Wy {l : List Rec} (hl : AP l = true) {k : Nat} (hk : k < l.length) : EB l (k + 1) = 0 ∨ (rc l (EB l (k + 1) - 1)).tx = (rc l k).tx:=by
  have h:=hl
  simp only [AP,Bool.and_eq_true] at h
  have ha:=OW h.1 hk
  simp only [atOk,Bool.and_eq_true,beq_iff_eq,decide_eq_true_eq,Bool.or_eq_true] at ha
  simp only [EB,Nat.add_sub_cancel]
  rcases ha.2 with h4 | h4
  · exact .inl (by omega)
  · exact .inr h4
theorem Wo {l : List Rec} (hl : AP l = true) (tx : Int) (n : Nat) : n ≤ l.length → (n = 0 ∨ (rc l (n - 1)).tx = tx) → ∀ m ∈ CU l n,(rc l (m - 1)).tx = tx:=by
  induction n using Nat.strongRecOn with
  | _ n ih =>
    intro hn ht m hm
    match n with
    | 0 => rw [D5] at hm;cases hm
    | n + 1 =>
      have ht : (rc l n).tx = tx:=by
        rcases ht with ht | ht
        · omega
        · simpa using ht
      have FF:=AA hl (k:=n) (by omega)
      have hp : BH l (n + 1) = 0 ∨ (rc l (BH l (n + 1) - 1)).tx = tx:=by
        rw [FF.last,ht]
        exact GQ l tx n
      have h1:=FF.prev_le
      have h2:=FF.next_le
      rw [CU] at hm
      split at hm
      · rcases List.mem_cons.1 hm with rfl | hm
        · simpa using ht
        · try rw [dif_pos h1] at hm
          exact ih _ (by omega) (by omega) hp m hm
      · split at hm
        · try rw [dif_pos h2] at hm
          exact ih _ (by omega) (by omega) (by rw [← ht];exact Wy hl (by omega)) m hm
        · try rw [dif_pos h1] at hm
          exact ih _ (by omega) (by omega) hp m hm
theorem Ya {l : List Rec} (hl : AP l = true) {tx : Int} {n m : Nat} (hn : n ≤ l.length) (h : m ∈ U l tx n) : (rc l (m - 1)).tx = tx:=by
  have:=AY l tx n
  exact Wo hl tx _ (by omega) (GQ l tx n) m h
/-- What one step of an undoing comes to. -/
inductive StepKind (l : List Rec) (tx : Int) : Rec → Prop
  | fin (h : U l tx l.length = []) : StepKind l tx ⟨5,tx,0,0,0,0,Aj l tx l.length,0⟩
  | Jh (m : Nat) (ms : List Nat) (h : U l tx l.length = m :: ms) (h0 : 0 < m) (hm : m ≤ l.length) (hk : (rc l (m - 1)).kind = 1 ∨ (rc l (m - 1)).kind = 2) (ht : (rc l (m - 1)).tx = tx) : StepKind l tx (Bj (rc l (m - 1)) (Aj l tx l.length))
/-- The record of the next step, as it goes into the log. -/
def CO (e : Eng) (tx : Int) : Rec:={ Dv e tx with prev:=Aj e.log (Dv e tx).tx e.log.length }
theorem Et {e : Eng} (hl : AP e.log = true) (tx : Int) : StepKind e.log tx (CO e tx):=by
  have hle:=AY e.log tx e.log.length
  unfold CO Dv
  split
  · rename_i h0
    exact .fin (Gf h0)
  · rename_i h0
    obtain ⟨ms,hm⟩:=MC (l:=e.log) (n:=lastT e tx) rfl (by omega)
    obtain ⟨h1,h2,h3,h4⟩:=FI _ _ ms hm
    have hU : U e.log tx e.log.length = Bq e.log (lastT e tx) :: ms:=hm
    have ht:=Ya hl (Nat.le_refl _) (tx:=tx) (m:=Bq e.log (lastT e tx)) (by rw [hU];exact List.mem_cons_self)
    have:=StepKind.Jh (l:=e.log) (tx:=tx) (Bq e.log (lastT e tx)) ms hU h1 (by unfold lastT at h2 ⊢;omega) h3 ht
    have e1 : Aj e.log tx e.log.length = Aj e.log (Bj (rc e.log (Bq e.log (lastT e tx) - 1)) 0).tx e.log.length:=by
      show Aj e.log tx e.log.length = Aj e.log (rc e.log (Bq e.log (lastT e tx) - 1)).tx e.log.length
      rw [ht]
    rw [← e1]
    exact this
theorem StepKind.tx {l : List Rec} {tx : Int} {r : Rec} (h : StepKind l tx r) : r.tx = tx:=by
  cases h with
  | fin => rfl
  | Jh m ms _ _ _ _ ht => exact ht
theorem StepKind.prev {l : List Rec} {tx : Int} {r : Rec} (h : StepKind l tx r) : r.prev = Aj l tx l.length:=by
  cases h <;> rfl
theorem StepKind.ne4 {l : List Rec} {tx : Int} {r : Rec} (h : StepKind l tx r) : r.kind ≠ 4:=by
  cases h <;> simp [Bj]
theorem StepKind.ok {l : List Rec} {tx : Int} {r : Rec} (hl : AP l = true) (h : StepKind l tx r) (ht : 1 ≤ tx ∧ tx ≤ 3) : CS r = true:=by
  have hle:=AY l tx l.length
  have h150:=Be hl
  cases h with
  | fin => rw [D7];simp;omega
  | Jh m ms h h0 hm hk ht =>
    have hr:=(H7 hl h0 hm hk).1
    have FF:=AA hl (k:=m - 1) (by omega)
    have hp:=FF.prev
    have hpl:=FF.prev_le
    rw [D7] at hr
    rw [D7]
    simp only [Bj]
    have hs:=AY l tx l.length
    refine ⟨.inr (.inr (.inr (.inr ⟨trivial,by omega,by omega,by omega,by omega,trivial,by omega,fun _ => by omega,by omega,by omega,by omega⟩))),by omega,by omega,by omega,by omega⟩
theorem StepKind.log {l : List Rec} {tx : Int} {r : Rec} (hl : AP l = true) (h : StepKind l tx r) (ht : 1 ≤ tx ∧ tx ≤ 3) (h150 : l.length + 1 ≤ 150) : AP (l ++ [r]) = true:=by
  have hok:=h.ok hl ht
  refine IG hl hok (by rw [h.prev,h.tx]) ?_ ?_ h150
  · cases h with
    | fin => simp
    | Jh m ms h h0 hm hk ht =>
      have FF:=AA hl (k:=m - 1) (by omega)
      have h1:=FF.prev
      have h2:=FF.prev_le
      simp only [Bj]
      omega
  · cases h with
    | fin => exact .inl (Int.le_refl _)
    | Jh m ms h h0 hm hk ht =>
      have FF:=AA hl (k:=m - 1) (by omega)
      have h1:=FF.prev
      have h3:=GQ l (rc l (m - 1)).tx (m - 1)
      rw [← FF.last] at h3
      rw [show m - 1 + 1 = m by omega] at h1 h3
      simp only [Bj]
      rcases h3 with h3 | h3
      · exact .inl (by omega)
      · refine .inr ?_
        rw [h1]
        exact h3
/-- What is to be undone behind one step. -/
theorem StepKind.next {l : List Rec} {tx : Int} {r : Rec} (hl : AP l = true) (h : StepKind l tx r) (ht : 1 ≤ tx ∧ tx ≤ 3) (h150 : l.length + 1 ≤ 150) : U (l ++ [r]) tx (l.length + 1) = (U l tx l.length).tail ∧ (∀ t,t ≠ tx → U (l ++ [r]) t (l.length + 1) = U l t l.length ∧ Aj (l ++ [r]) t (l.length + 1) = Aj l t l.length) ∧ Aj (l ++ [r]) tx (l.length + 1) = if U l tx l.length = [] then 0 else l.length + 1:=by
  have hl':=h.log hl ht h150
  have hA:=Co l [r]
  have hlen : l.length < (l ++ [r]).length:=by simp
  have hrt : (rc (l ++ [r]) l.length).tx = tx:=by rw [BI,h.tx]
  refine ⟨?_,fun t hne => ?_,?_⟩
  · cases h with
    | fin h =>
      rw [P8 hrt (by rw [BI];rfl),h]
      rfl
    | Jh m ms h h0 hm hk htx =>
      have FF:=AA hl' hlen
      have hn : EB (l ++ [Bj (rc l (m - 1)) (Aj l tx l.length)]) (l.length + 1) = BH l m:=by
        simp only [EB,BH,Nat.add_sub_cancel]
        rw [BI]
        rfl
      have h2:=FI _ _ _ h
      have Fm:=AA hl (k:=m - 1) (by omega)
      have hpm:=Fm.prev_le
      rw [show m - 1 + 1 = m by omega] at hpm
      rw [U,F7 hrt (by rw [BI];rfl),LW (by rw [BI];rfl) FF.next_le,hn,Nv hA _ (by omega),h,List.tail_cons,(h2.2.2.2 (by omega)).1]
  · have hne' : (rc (l ++ [r]) l.length).tx ≠ t:=by rw [hrt];exact Ne.symm hne
    rw [Hq hne',FP hne',Gs hA t (Nat.le_refl _),CP t hA]
    exact ⟨rfl,rfl⟩
  · cases h with
    | fin h => rw [if_pos h,Ii hrt (by rw [BI];rfl)]
    | Jh m ms h h0 hm hk htx => rw [if_neg (by rw [h];simp),F7 hrt (by rw [BI];rfl)]
theorem StepKind.need {l : List Rec} {tx : Int} {r : Rec} (hl : AP l = true) (h : StepKind l tx r) (ht : tx = 1 ∨ tx = 2 ∨ tx = 3) (h150 : l.length + 1 ≤ 150) (hlast : Aj l tx l.length ≠ 0) : Bp (l ++ [r]) (l.length + 1) + 1 = Bp l l.length:=by
  have hN:=h.next hl (by omega) h150
  have hs:=Jz (l:=l ++ [r]) (n:=l.length) (t:=tx) (by rw [BI,h.tx]) ht
  rw [KE,PS] at hs
  have e1 : cst (l ++ [r]) tx (l.length + 1) = (U l tx l.length).tail.length + (if U l tx l.length = [] then 0 else 1):=by
    rw [cst,hN.1,hN.2.2]
    split
    · simp
    · simp
  have e2 : cst l tx l.length = (U l tx l.length).length + 1:=by rw [cst,if_neg hlast]
  rw [e1,e2] at hs
  cases hU : U l tx l.length with
  | nil => rw [hU] at hs;simp at hs;omega
  | cons a t => rw [hU] at hs;simp at hs;omega
theorem Core.one {e : Eng} {C : Nat → Page} {B : Nat} (h : Core e C B) {tx : Int} (ht : tx = 1 ∨ tx = 2 ∨ tx = 3) (hlast : lastT e tx ≠ 0) : e.log.length + 1 ≤ 150:=by
  have h1:=h.room e.log.length (Nat.le_refl _)
  have h2:=h.b150
  have h3 : cst e.log tx e.log.length ≥ 1:=by rw [cst,if_neg hlast];omega
  have h4 : cst e.log tx e.log.length ≤ Bp e.log e.log.length:=by
    rw [Bp]
    rcases ht with rfl | rfl | rfl <;> omega
  omega
theorem JM (e : Eng) (tx : Int) : (Bg e tx).log = e.log ++ [CO e tx]:=rfl
theorem P7 {e : Eng} {tx : Int} : (CO e tx).kind = (Dv e tx).kind ∧ (CO e tx).page = (Dv e tx).page:=⟨rfl,rfl⟩
theorem OL {e : Eng} {C : Nat → Page} {B : Nat} (_h : Core e C B) {tx : Int} {r : Rec} (hk : StepKind e.log tx r) (hlast : lastT e tx ≠ 0) : Gt (e.log ++ [r]) e.log.length:=by
  have hA:=Co e.log [r]
  cases hk with
  | fin hU =>
    refine ⟨?_,?_,?_,?_,?_⟩
    all_goals rw [BI]
    · intro hk;simp at hk
    · intro hk;simp at hk
    · intro _;rw [Gs hA tx (Nat.le_refl _)];exact hU
    · intro _
      rw [CP tx hA]
      exact Nat.pos_of_ne_zero hlast
    · intro hk;simp at hk
  | Jh m ms hU h0 hm hkk htx =>
    refine ⟨?_,?_,?_,?_,?_⟩
    all_goals rw [BI]
    · intro hk;simp [Bj] at hk
    · intro _
      refine ⟨m,ms,?_,?_⟩
      · show U _ (rc e.log (m - 1)).tx _ = _
        rw [htx,Gs hA tx (Nat.le_refl _)]
        exact hU
      · rw [M6 (by omega)]
        rfl
    · intro hk;simp [Bj] at hk
    · intro he;simp [Bj,ED] at he
    · intro hk;simp [Bj] at hk
theorem Core.step {e : Eng} {C : Nat → Page} {B : Nat} (h : Core e C B) {tx : Int} (ht : tx = 1 ∨ tx = 2 ∨ tx = 3) (hlast : lastT e tx ≠ 0) : Core (Bg e tx) C B:=by
  have h1:=h.one ht hlast
  have hk:=Et (e:=e) h.log tx
  have hl':=hk.log h.log (by omega) h1
  have hpr:=OL h hk hlast
  have hneed:=hk.need h.log ht h1 hlast
  have hroom:=h.room e.log.length (Nat.le_refl _)
  have hP:=F4 h.prop hpr
  have hlen : e.log.length < (e.log ++ [CO e tx]).length:=by simp
  have hA:=Co e.log [CO e tx]
  have hgood:=h.good e.log.length h.s1 (Nat.le_refl _)
  refine (Core.snoc h (Nat.le_refl _) h.b150 hl' hpr ?_ (by omega) ?_).mem _ _
  · exact hk.ne4
  · intro p hp
    have hg:=hgood p hp
    have hrl:=h.Wu (p:=p) hp h.s1
    generalize CO e tx = r at hk hl' hpr hneed hP hlen hA ⊢
    rw [GH]
    cases hk with
    | fin hU =>
      rw [if_neg (fun hc => by simp [Cx] at hc),O4 hP hlen (by rw [BI]),EM hA p (Nat.le_refl _)]
      exact CX hA.symm (fun m hm => by have:=DL hm;omega) hg
    | Jh m ms hU h0 hm hkk htx =>
      obtain ⟨m',hm',hUA⟩:=Q0 hl' hP hlen (by rw [BI];rfl)
      rw [BI] at hm' hUA
      have hU2:=hUA p
      rw [EM hA p (Nat.le_refl _)] at hU2
      by_cases hpg : (Bj (rc e.log (m - 1)) (Aj e.log tx e.log.length)).page = p
      · rw [if_pos hpg] at hU2
        rw [if_pos ⟨rfl,hpg,by omega⟩]
        have hg':=CX hA.symm (fun m hm => by have:=DL hm;omega) hg
        rw [hU2] at hg'
        rw [Ey]
        have hw : AZ (BV (pg e.disk p) e.log p e.log.length) (Bj (rc e.log (m - 1)) (Aj e.log tx e.log.length)) = AZ (BV (pg e.disk p) e.log p e.log.length) (Bj (rc (e.log ++ [Bj (rc e.log (m - 1)) (Aj e.log tx e.log.length)]) (m' - 1)) 0):=(congrArg (AZ _) hm').trans rfl
        rw [hw]
        exact IE (by omega) (by omega) hg'.2
      · rw [if_neg hpg] at hU2
        rw [if_neg (fun hc => hpg hc.2.1), ← hU2]
        exact CX hA.symm (fun m hm => by have:=DL hm;omega) hg
/-- How one record changes memory, and what is redone. -/
theorem JZ {e : Eng} {r : Rec} (hm : e.mem.length = 5) (hpg : Cx r.kind = true → 0 ≤ r.page ∧ r.page ≤ 4) (p : Nat) : pg (e.app r).mem p = if Cx r.kind = true ∧ r.page = p then doR (pg e.mem p) r (e.log.length + 1 : Nat) else pg e.mem p:=by
  unfold Eng.app
  by_cases hc : Cx r.kind = true
  · have h1:=hpg hc
    simp only [hc,if_true]
    rw [Fb (by omega)]
    by_cases e1 : r.page = p
    · have e2 : r.page.toNat = p:=by omega
      rw [if_pos e2,if_pos ⟨trivial,e1⟩,e2]
    · rw [if_neg (by omega),if_neg (fun h => e1 h.2)]
  · simp only [hc]
    rw [if_neg (fun h => by simp at h)]
    rfl
theorem LH (e : Eng) (r : Rec) : (e.app r).mem.length = e.mem.length:=by
  unfold Eng.app
  split
  · simp
  · rfl
theorem O3 {e : Eng} {C : Nat → Page} {B : Nat} (h : Core e C B) (r : Rec) {p : Nat} (hp : p < 5) : Dk (e.app r) p = if Cx r.kind = true ∧ r.page = p then doR (Dk e p) r (e.log.length + 1 : Nat) else Dk e p:=by
  have hrl:=h.Wu (p:=p) hp h.s1
  have : Dk (e.app r) p = BV (pg e.disk p) (e.log ++ [{ r with prev:=Aj e.log r.tx e.log.length }]) p (e.log.length + 1):=by
    unfold Dk Eng.app
    simp
  rw [this,GH]
  unfold Dk
  by_cases hc : Cx r.kind = true ∧ r.page = p
  · rw [if_pos hc,if_pos ⟨hc.1,hc.2,by omega⟩]
    rfl
  · rw [if_neg hc,if_neg (fun h => hc ⟨h.1,h.2.1⟩)]
theorem I4 {e : Eng} (hl : AP e.log = true) (tx : Int) : Cx (Dv e tx).kind = true → 0 ≤ (Dv e tx).page ∧ (Dv e tx).page ≤ 4:=by
  have hk:=Et (e:=e) hl tx
  intro hc
  rw [← P7.1] at hc
  rw [← P7.2]
  generalize CO e tx = r at hk hc ⊢
  cases hk with
  | fin => simp [Cx] at hc
  | Jh m ms h h0 hm hk ht =>
    have:=H7 hl h0 hm hk
    simp only [Bj]
    omega
/-- Memory that is what the log tells stays so. -/
theorem Ug {e : Eng} {C : Nat → Page} {B : Nat} (h : Core e C B) (hm : e.mem.length = 5) (tx : Int) (hr : ∀ p,p < 5 → pg e.mem p = Dk e p) : ∀ p,p < 5 → pg (Bg e tx).mem p = Dk (Bg e tx) p:=fun p hp => by
  unfold Bg
  rw [JZ hm (I4 h.log tx),O3 h _ hp,hr p hp]
theorem KI {l : List Rec} {p : Int} {n : Nat} (h : (rc l n).page = p ∧ (Cx (rc l n).kind = true ∨ (rc l n).kind = 3)) : BD l p (n + 1) = n + 1:=by rw [BD,if_pos h]
theorem FY {l : List Rec} {p : Int} {n : Nat} (h : ¬ ((rc l n).page = p ∧ (Cx (rc l n).kind = true ∨ (rc l n).kind = 3))) : BD l p (n + 1) = BD l p n:=by rw [BD,if_neg h]
theorem Qe.step {e : Eng} {C : Nat → Page} {B : Nat} (h : Core e C B) (hm : e.mem.length = 5) {tx : Int} (ht : tx = 1 ∨ tx = 2 ∨ tx = 3) (hlast : lastT e tx ≠ 0) {p : Nat} (hp : p < 5) (hr : Qe e p) : Qe (Bg e tx) p:=by
  have h1:=h.one ht hlast
  have hk:=Et (e:=e) h.log tx
  have hl':=hk.log h.log (by omega) h1
  have hpr:=OL h hk hlast
  have hP:=F4 h.prop hpr
  have hlen : e.log.length < (e.log ++ [CO e tx]).length:=by simp
  have hlen1 : (e.log ++ [CO e tx]).length = e.log.length + 1:=by simp
  have hA:=Co e.log [CO e tx]
  have hM:=JZ hm (I4 h.log tx) p
  have hR:=O3 h (Dv e tx) hp
  have hpath:=h.Tx hp hr.ok hr.owner hr.alt
  have hLl : (Bg e tx).log = e.log ++ [CO e tx]:=rfl
  have hds:=h.LD p hp
  have hs1:=h.s1
  have hdisk : (Bg e tx).disk = e.disk:=rfl
  have hM : pg (Bg e tx).mem p = if Cx (CO e tx).kind = true ∧ (CO e tx).page = p then doR (pg e.mem p) (CO e tx) (e.log.length + 1 : Nat) else pg e.mem p:=hM
  have hR : Dk (Bg e tx) p = if Cx (CO e tx).kind = true ∧ (CO e tx).page = p then doR (Dk e p) (CO e tx) (e.log.length + 1 : Nat) else Dk e p:=hR
  have hcs:=hr.cases
  generalize CO e tx = r at hk hl' hpr hP hlen hlen1 hA hM hR hLl
  cases hk with
  | fin hU =>
    have hno : ¬ (Cx (5 : Int) = true ∧ (0 : Int) = p):=fun hc => by simp [Cx] at hc
    rw [if_neg hno] at hM hR
    have hUA : UA (e.log ++ [⟨5,tx,0,0,0,0,Aj e.log tx e.log.length,0⟩]) (e.log.length + 1) p = UA e.log e.log.length p:=by
      rw [O4 hP hlen (by rw [BI]),EM hA p (Nat.le_refl _)]
    have hlo : BD (e.log ++ [⟨5,tx,0,0,0,0,Aj e.log tx e.log.length,0⟩]) p (e.log.length + 1) = BD e.log p e.log.length:=by
      rw [FY (by rw [BI];simp [Cx]),Eb _ hA]
    refine ⟨by rw [hM];exact hr.ok,by rw [hM,hR];exact hr.owner,?_,?_⟩
    · rw [hM,hLl,hlen1];have:=hr.lsn;omega
    · rw [hM,hR,hLl,hlen1,hdisk,hUA,hlo]
      cases hldt : ld e.log tx e.log.length p
      · have hls : lds (e.log ++ [⟨5,tx,0,0,0,0,Aj e.log tx e.log.length,0⟩]) (e.log.length + 1) p = lds e.log e.log.length p:=by
          rw [Tz (by rw [BI];rfl) (by rw [BI,GN hA _ _ (Nat.le_refl _)];exact hldt),Ih hA p (Nat.le_refl _)]
        rw [hls]
        rcases hcs with hc | ⟨a,b,c,d⟩
        · exact .inl hc
        · exact .inr ⟨a,b,c,d.imp id (fun hz => DW hA.symm (fun m hm => by have:=DL hm;omega) hz)⟩
      · have hhas:=Mf hldt
        have hoth : ∀ s,s ≠ tx → has e.log s e.log.length p = false:=fun s hs => GK h.log h.prop _ (Nat.le_refl _) _ _ _ (Ne.symm hs) hhas
        have hUe : UA e.log e.log.length p = []:=by
          rw [KO h.log h.prop (Nat.le_refl _) ht hoth,F,hU];rfl
        refine .inl ⟨?_,?_⟩
        · rw [Bool.eq_false_iff]
          intro hl
          obtain ⟨t,_,hlt⟩:=Li.1 hl
          by_cases e1 : tx = t
          · subst e1
            rw [RX (by rw [BI]) (by rw [BI];rfl)] at hlt
            cases hlt
          · rw [Lj (by rw [BI];exact e1),GN hA _ _ (Nat.le_refl _)] at hlt
            have:=hoth t (Ne.symm e1)
            rw [Mf hlt] at this
            cases this
        · rcases hcs with hc | ⟨a,b,c,d⟩
          · exact hc.2
          · rcases d with d | d
            · exact d
            · rw [hUe] at d
              obtain ⟨m,hm,_⟩:=d
              cases hm
  | Jh m ms hU h0 hm hkk htx =>
    have hls : lds (e.log ++ [Bj (rc e.log (m - 1)) (Aj e.log tx e.log.length)]) (e.log.length + 1) p = lds e.log e.log.length p:=by
      rw [NP hl' hlen (by rw [BI];rfl) (by rw [BI];simp [Bj]),Ih hA p (Nat.le_refl _)]
    obtain ⟨m',hm',hUA⟩:=Q0 hl' hP hlen (by rw [BI];rfl)
    rw [BI] at hm' hUA
    have hU2:=hUA p
    rw [EM hA p (Nat.le_refl _)] at hU2
    by_cases hpg : (Bj (rc e.log (m - 1)) (Aj e.log tx e.log.length)).page = p
    · rw [if_pos hpg] at hU2
      rw [if_pos ⟨rfl,hpg⟩] at hM hR
      have hpath':=CX hA.symm (fun m hm => by have:=DL hm;omega) hpath
      rw [hU2] at hpath'
      have hw : ∀ P : Page,AZ P (Bj (rc e.log (m - 1)) (Aj e.log tx e.log.length)) = AZ P (Bj (rc (e.log ++ [Bj (rc e.log (m - 1)) (Aj e.log tx e.log.length)]) (m' - 1)) 0):=fun P => (congrArg (AZ P) hm').trans rfl
      have hok:=Ib hpath'.2
      rw [← hw] at hok
      refine ⟨?_,?_,?_,?_⟩
      · rw [hM,Ey]
        exact GJ hok (by omega) (by omega)
      · rw [hM,hR,Ey,Ey]
        exact H6 _ hr.owner
      · rw [hM,hLl,hlen1]
        exact Int.le_refl _
      · rw [hLl,hlen1,hls,hdisk]
        rcases hcs with hc | ⟨a,b,c,d⟩
        · exact .inl ⟨hc.1,by rw [hM,hR,hc.2]⟩
        · refine .inr ⟨a,?_,?_,?_⟩
          · rw [hM,KI (by rw [BI];exact ⟨hpg, .inl rfl⟩)]
            rfl
          · left
            rw [hM]
            show _ < ((e.log.length + 1 : Nat) : Int)
            omega
          · rcases d with d | d
            · exact .inl (by rw [hM,hR,d])
            · have d':=DW hA.symm (fun m hm => by have:=DL hm;omega) d
              rw [hU2] at d'
              obtain ⟨x,hx,hx1,hx2⟩:=d'
              rcases List.mem_cons.1 hx with rfl | hx
              · left
                have hz : ∀ P : Page,AZ P (Bj (rc (e.log ++ [Bj (rc e.log (m - 1)) (Aj e.log tx e.log.length)]) (x - 1)) 0) = ⟨P.lsn,0, [0,0,0]⟩:=fun P => FH (r:=Bj (rc (e.log ++ [Bj (rc e.log (m - 1)) (Aj e.log tx e.log.length)]) (x - 1)) 0) hx1 hx2
                rw [hM,hR,Ey,Ey,hw,hw,hz,hz]
              · exact .inr ⟨x,hx,hx1,hx2⟩
    · rw [if_neg hpg] at hU2
      rw [if_neg (fun hc => hpg hc.2)] at hM hR
      have hlo : BD (e.log ++ [Bj (rc e.log (m - 1)) (Aj e.log tx e.log.length)]) p (e.log.length + 1) = BD e.log p e.log.length:=by
        rw [FY (by rw [BI];exact fun hc => hpg hc.1),Eb _ hA]
      refine ⟨by rw [hM];exact hr.ok,by rw [hM,hR];exact hr.owner,?_,?_⟩
      · rw [hM,hLl,hlen1];have:=hr.lsn;omega
      · rw [hM,hR,hLl,hlen1,hdisk,hls,hlo, ← hU2]
        rcases hcs with hc | ⟨a,b,c,d⟩
        · exact .inl hc
        · exact .inr ⟨a,b,c,d.imp id (fun hz => DW hA.symm (fun m hm => by have:=DL hm;omega) hz)⟩
/-- What a page is ahead of a record that changes it anew. -/
def Apt (M : Page) (r : Rec) : Prop:=
  (r.kind = 1 ∧ M.owner ≠ 0 ∧ 0 ≤ r.slot ∧ r.slot ≤ 2 ∧ 0 ≤ r.new ∧ r.new ≤ 9 ∧ r.old = iv M.vals r.slot.toNat) ∨
  (r.kind = 2 ∧ r.slot = -1 ∧ 0 ≤ r.new ∧ r.new ≤ 3 ∧ (M.owner = 0 ↔ r.new ≠ 0) ∧ M.vals = [0,0,0] ∧ r.old = M.owner)
theorem Apt.kind {M : Page} {r : Rec} (h : Apt M r) : r.kind = 1 ∨ r.kind = 2:=by rcases h with h | h;exact .inl h.1;exact .inr h.1
theorem Apt.chg {M : Page} {r : Rec} (h : Apt M r) : Cx r.kind = true:=by rcases h.kind with h | h <;> (rw [h];rfl)
theorem Vv {M : Page} (h : Bt M = true) {k : Nat} (hk : k < 3) : 0 ≤ iv M.vals k ∧ iv M.vals k ≤ 9:=by
  rw [Ci] at h
  have:=h.2.2.2.2.2 _ (Xn (l:=M.vals) (k:=k) (by omega))
  omega
theorem Apt.old {M : Page} {r : Rec} (h : Apt M r) (hM : Bt M = true) : 0 ≤ r.old ∧ r.old ≤ (if r.slot = -1 then 3 else 9):=by
  rcases h with h | h
  · have:=Vv hM (k:=r.slot.toNat) (by omega)
    rw [if_neg (by omega),h.2.2.2.2.2.2]
    exact this
  · rw [if_pos h.2.1,h.2.2.2.2.2.2]
    rw [Ci] at hM
    exact ⟨hM.2.2.1,hM.2.2.2.1⟩
theorem Xe {vs : List Int} {i : Nat} (h : i < vs.length) : vs.set i (iv vs i) = vs:=by
  apply List.ext_getElem?
  intro j
  rw [List.getElem?_set]
  split
  · rename_i e
    subst e
    simp [iv,List.getD_eq_getElem?_getD,h]
  · rfl
theorem Apt.page {M R : Page} {r : Rec} {n : Int} (ha : Apt M r) (hM : Bt M = true) (hR : Bt R = true) (ho : M.owner = R.owner) (h0 : 0 ≤ n) (h1 : n ≤ 150) :
    Bt (doR R r n) = true ∧ Bt (AZ (doR R r n) (Bj r 0)) = true ∧ (AZ (doR R r n) (Bj r 0)).owner = R.owner ∧ (M = R → (AZ (doR R r n) (Bj r 0)).vals = R.vals):=by
  have hold:=ha.old hM
  have hR':=Ci.1 hR
  rcases ha with ⟨_,a1,a2,a3,a4,a5,a6⟩ | ⟨_,a1,a2,a3,a4,a5,a6⟩
  · rw [if_neg (by omega)] at hold
    have e1 : doR R r n = ⟨n,R.owner,R.vals.set r.slot.toNat r.new⟩:=by rw [doR,AZ,if_pos a2]
    have e2 : AZ (doR R r n) (Bj r 0) = ⟨n,R.owner,R.vals.set r.slot.toNat r.old⟩:=by
      rw [e1,AZ,if_pos (show 0 ≤ (Bj r 0).slot from a2)]
      show (⟨n,R.owner,(R.vals.set r.slot.toNat r.new).set r.slot.toNat r.old⟩ : Page) = _
      rw [List.set_set]
    have hR0 : R.owner ≠ 0:=by rw [← ho];exact a1
    have hset : ∀ v : Int,0 ≤ v → v ≤ 9 → Bt ⟨n,R.owner,R.vals.set r.slot.toNat v⟩ = true:=fun v v0 v9 => by
      rw [Ci]
      refine ⟨h0,h1,hR'.2.2.1,hR'.2.2.2.1,by simpa using hR'.2.2.2.2.1,fun x hx => ?_⟩
      rcases QH hx with hx | rfl
      · exact hR'.2.2.2.2.2 x hx
      · exact ⟨v0,v9,fun e => absurd e hR0⟩
    refine ⟨by rw [e1];exact hset _ a4 a5,by rw [e2];exact hset _ hold.1 hold.2,by rw [e2],fun e => ?_⟩
    rw [e2]
    show R.vals.set _ _ = R.vals
    rw [a6,e]
    exact Xe (by omega)
  · have hs : r.slot < 0:=by omega
    by_cases hn : r.new = 0
    · have hM0 : M.owner ≠ 0:=fun e => (a4.1 e) hn
      have e1 : doR R r n = ⟨n,0, [0,0,0]⟩:=by rw [doR,FH hs hn]
      have e2 : AZ (doR R r n) (Bj r 0) = ⟨n,r.old, [0,0,0]⟩:=by
        rw [e1,AZ,if_neg (show ¬ 0 ≤ (Bj r 0).slot by simp only [Bj];omega),if_neg (show ¬ (Bj r 0).new = 0 by simp only [Bj];rw [a6];exact hM0)]
        rfl
      have hz : ∀ o : Int,0 ≤ o → o ≤ 3 → Bt ⟨n,o, [0,0,0]⟩ = true:=fun o o0 o3 => by
        rw [Ci]
        exact ⟨h0,h1,o0,o3,rfl,fun x hx => by simp at hx;rw [hx];simp⟩
      refine ⟨by rw [e1];exact hz 0 (by omega) (by omega),by rw [e2];exact hz _ hold.1 (by rw [if_pos a1] at hold;exact hold.2),by rw [e2,a6,ho],fun e => ?_⟩
      rw [e2, ← e,a5]
    · have hM0 : M.owner = 0:=a4.2 hn
      have hRz : R.vals = [0,0,0]:=UN hR'.2.2.2.2.1 (fun x hx => (hR'.2.2.2.2.2 x hx).2.2 (by rw [← ho];exact hM0))
      have e1 : doR R r n = ⟨n,r.new, [0,0,0]⟩:=by rw [doR,AZ,if_neg (by omega),if_neg hn,hRz]
      have e2 : AZ (doR R r n) (Bj r 0) = ⟨n,0, [0,0,0]⟩:=by
        rw [FH (show (Bj r 0).slot < 0 from hs) (show (Bj r 0).new = 0 by simp only [Bj];rw [a6,hM0]),e1]
      have hz : ∀ o : Int,0 ≤ o → o ≤ 3 → Bt ⟨n,o, [0,0,0]⟩ = true:=fun o o0 o3 => by
        rw [Ci]
        exact ⟨h0,h1,o0,o3,rfl,fun x hx => by simp at hx;rw [hx];simp⟩
      refine ⟨by rw [e1];exact hz _ a2 a3,by rw [e2];exact hz 0 (by omega) (by omega),by rw [e2, ← ho,hM0],fun _ => ?_⟩
      rw [e2,hRz]
theorem Core.Lf {e : Eng} {C : Nat → Page} {B : Nat} (h : Core e C B) : e.log.length ≤ B:=by
  have:=h.room e.log.length (Nat.le_refl _)
  omega
/-- A record more of tx, that is no end, takes at most three more. -/
theorem OO {l : List Rec} {r : Rec} {t : Int} (ht : t = 1 ∨ t = 2 ∨ t = 3) (hr : r.tx = t) (hU : (U (l ++ [r]) t (l.length + 1)).length ≤ (U l t l.length).length + 1) : Bp (l ++ [r]) (l.length + 1) ≤ Bp l l.length + 2:=by
  have hs:=Jz (l:=l ++ [r]) (n:=l.length) (t:=t) (by rw [BI,hr]) ht
  rw [KE,PS] at hs
  have e1 : cst (l ++ [r]) t (l.length + 1) ≤ (U l t l.length).length + 2:=by
    rw [cst]
    split <;> omega
  have e2 : (U l t l.length).length ≤ cst l t l.length:=by rw [cst];omega
  omega
theorem UpC.more {l : List Rec} {r : Rec} (h : UpC l) (hl : AP (l ++ [r]) = true) (hk : r.kind ≠ 6) : UpC (l ++ [r]):=by
  intro t m hm
  have hA:=Co l [r]
  have hlen : l.length < (l ++ [r]).length:=by simp
  have hlen1 : (l ++ [r]).length = l.length + 1:=by simp
  have old : ∀ t, ∀ m ∈ Ch (l ++ [r]) t l.length,(rc (l ++ [r]) (m - 1)).kind ≠ 6:=fun t m hm => by
    rw [Ru hA t (Nat.le_refl _)] at hm
    have h1:=Ee _ m hm
    have h2:=AY l t l.length
    rw [M6 (by omega)]
    exact h t m hm
  rw [hlen1] at hm
  by_cases e1 : (rc (l ++ [r]) l.length).tx = t
  · subst e1
    cases he : ED (rc (l ++ [r]) l.length).kind
    · rw [LQ hl hlen he] at hm
      rcases List.mem_cons.1 hm with rfl | hm
      · rw [Nat.add_sub_cancel,BI];exact hk
      · exact old _ m hm
    · rw [XJ rfl he] at hm;cases hm
  · rw [O7 e1] at hm
    exact old t m hm
theorem Inv.chg {e : Eng} {C : Nat → Page} {B : Nat} (h : Inv e C B) (hup : e.down = false) {r : Rec} {p : Nat} (hp : p < 5) (hpg : r.page = p) (ht : r.tx = 1 ∨ r.tx = 2 ∨ r.tx = 3) (ha : Apt (pg e.mem p) r) (hnx : r.next = 0) (hfree : ∀ t,t ≠ r.tx → has e.log t e.log.length p = false) (hB : B + 3 ≤ 150) : Inv (e.app r) C (B + 3):=by
  have hc:=h.core
  have hm:=h.upm hup
  have hMp:=hm p hp
  have hle:=AY e.log r.tx e.log.length
  have hn:=hc.Lf
  have hold:=ha.old hMp.ok
  have hs1:=hc.s1
  obtain ⟨r',hr'⟩ : ∃ r' : Rec,{ r with prev:=(Aj e.log r.tx e.log.length : Int) } = r':=⟨_,rfl⟩
  have k1 : r'.kind = r.kind:=by rw [← hr']
  have k2 : r'.tx = r.tx:=by rw [← hr']
  have k3 : r'.page = r.page:=by rw [← hr']
  have k4 : r'.slot = r.slot:=by rw [← hr']
  have k5 : r'.old = r.old:=by rw [← hr']
  have k6 : r'.new = r.new:=by rw [← hr']
  have k7 : r'.prev = Aj e.log r.tx e.log.length:=by rw [← hr']
  have k8 : r'.next = r.next:=by rw [← hr']
  have hkind : r'.kind = 1 ∨ r'.kind = 2:=by rw [k1];exact ha.kind
  have hdo : ∀ P n,doR P r' n = doR P r n:=fun P n => by rw [← hr'];rfl
  have hbk : ∀ P,AZ P (Bj r' 0) = AZ P (Bj r 0):=fun P => by rw [← hr'];rfl
  have hok : CS r' = true:=by
    rw [D7,k1,k2,k3,k4,k5,k6,k7,k8]
    rcases ha with ⟨a0,a1,a2,a3,a4,a5,a6⟩ | ⟨a0,a1,a2,a3,a4,a5,a6⟩
    · rw [if_neg (by omega)] at hold
      omega
    · rw [if_pos a1] at hold
      omega
  have hl' : AP (e.log ++ [r']) = true:=IG hc.log hok (by rw [k7,k2]) (by rw [k8,hnx];omega) (.inl (by rw [k8,hnx];omega)) (by omega)
  have hA:=Co e.log [r']
  have hlen : e.log.length < (e.log ++ [r']).length:=by simp
  have hlen1 : (e.log ++ [r']).length = e.log.length + 1:=by simp
  have hrl : rc (e.log ++ [r']) e.log.length = r':=BI _ _
  have hpr : Gt (e.log ++ [r']) e.log.length:=by
    refine ⟨?_,?_,?_,?_,?_⟩
    all_goals rw [hrl]
    · rw [k1,k5,k6]
      intro h2 hnew
      rcases ha with ha | ha
      · omega
      · rw [ha.2.2.2.2.2.2];exact ha.2.2.2.2.1.2 hnew
    · intro hk;omega
    · intro hk;omega
    · intro he;rw [E8 (by omega)] at he;cases he
    · intro _ t htn
      rw [k2] at htn
      rw [JW hA _ _ (Nat.le_refl _),k3,hpg]
      exact hfree t htn
  have hP:=F4 hc.prop hpr
  have hUA:=fun q => SC hl' hP hlen (by rw [hrl];exact hkind) q
  have hroom : e.log.length + 1 + Bp (e.log ++ [r']) (e.log.length + 1) ≤ B + 3:=by
    have h1:=hc.room e.log.length (Nat.le_refl _)
    have h2:=OO (l:=e.log) (r:=r') ht k2 (by
      have:=TT hl' hlen (by rw [hrl];exact hkind)
      rw [hrl,k2] at this
      rw [this,List.length_cons,Gs hA _ (Nat.le_refl _)];exact Nat.le_refl _)
    omega
  have hch : Cx r'.kind = true:=by rw [k1];exact ha.chg
  have hRok:=fun q (hq : q < 5) => hc.rok (p:=q) hq hs1 (Nat.le_refl _)
  have hap:=ha.page (n:=(e.log.length + 1 : Nat)) hMp.ok (hRok p hp) hMp.owner (by omega) (by omega)
  have hapM:=ha.page (R:=pg e.mem p) (n:=(e.log.length + 1 : Nat)) hMp.ok hMp.ok rfl (by omega) (by omega)
  have hE : e.app r = { e with log:=e.log ++ [r'],mem:=e.mem.set r.page.toNat (doR (pg e.mem r.page.toNat) r (e.log.length + 1 : Nat)) }:=by
    rw [← hr',Eng.app,if_pos ha.chg]
  have hM:=fun q => JZ h.mlen (r:=r) (fun _ => by omega) q
  have hR:=fun q (hq : q < 5) => O3 hc r hq
  have hpathR:=fun q (hq : q < 5) => CX hA.symm (fun m hm => by have:=DL hm;omega) (hc.good e.log.length hs1 (Nat.le_refl _) q hq)
  have hcore : Core { e with log:=e.log ++ [r'] } C (B + 3):=by
    refine Core.snoc hc (by omega) hB hl' hpr (by omega) hroom fun q hq => ?_
    have hrq:=hc.Wu (p:=q) hq hs1
    rw [hUA q,hrl,k3,GH,k3,EM hA q (Nat.le_refl _)]
    by_cases e1 : r.page = q
    · obtain rfl : q = p:=by omega
      rw [if_pos e1,if_pos ⟨hch,e1,by omega⟩,hdo]
      refine ⟨hap.1,?_⟩
      rw [Nat.add_sub_cancel,hrl,hbk]
      rcases hMp.alt with hal | hal
      · have hv:=hap.2.2.2 hal
        have ho:=hap.2.2.1
        have hpx:=IE (k:=(e.log.length + 1 : Nat)) (by omega) (by omega) (hpathR q hq)
        rw [← ho, ← hv] at hpx
        have hls : (AZ (doR (BV (pg e.disk q) e.log q e.log.length) r (e.log.length + 1 : Nat)) (Bj r 0)).lsn = (e.log.length + 1 : Nat):=by rw [JK];rfl
        rw [show AZ (doR (BV (pg e.disk q) e.log q e.log.length) r (e.log.length + 1 : Nat)) (Bj r 0) = ⟨(e.log.length + 1 : Nat),_,_⟩ from Qz hls rfl rfl]
        exact hpx
      · exact Jv (fun m hm => by rw [M6 (by have:=DL hm;omega)];exact TU hc.log (Nat.le_refl _) m hm) (DW hA.symm (fun m hm => by have:=DL hm;omega) hal) hap.2.1 hap.2.2.1 (hpathR q hq)
    · rw [if_neg e1,if_neg (fun hx => e1 hx.2.1)]
      exact hpathR q hq
  refine ⟨?_,by rw [LH];exact h.mlen,fun hd => ?_,fun _ => ?_,fun _ q hq => ?_⟩
  · rw [hE]
    exact hcore.mem _ _
  · rw [hE] at hd
    rw [show e.down = true from hd] at hup;cases hup
  · rw [hE]
    exact (h.upc hup).more hl' (by omega)
  · have hMq:=hm q hq
    have hls : lds (e.log ++ [r']) (e.log.length + 1) q = lds e.log e.log.length q:=by
      rw [NP hl' hlen (by rw [hrl];exact E8 (by omega)) (by rw [hrl];omega),Ih hA q (Nat.le_refl _)]
    have hd:=hc.LD q hq
    have hLl : (e.app r).log = e.log ++ [r']:=by rw [hE]
    have hdk : (e.app r).disk = e.disk:=rfl
    have hMx:=hM q
    have hRx:=hR q hq
    have hUq:=hUA q
    rw [hrl,k3,EM hA q (Nat.le_refl _)] at hUq
    by_cases e1 : r.page = q
    · obtain rfl : q = p:=by omega
      rw [if_pos ⟨ha.chg,e1⟩] at hMx hRx
      rw [if_pos e1] at hUq
      refine ⟨by rw [hMx];exact hapM.1,?_,?_,?_⟩
      · rw [hMx,hRx,Ey,Ey]
        exact H6 _ hMq.owner
      · rw [hMx,hLl,hlen1];exact Int.le_refl _
      · rw [hLl,hlen1,hls,hdk]
        rcases hMq.cases with hx | ⟨a,b,c,d⟩
        · exact .inl ⟨hx.1,by rw [hMx,hRx,hx.2]⟩
        · refine .inr ⟨a,?_, .inl ?_,?_⟩
          · rw [hMx,KI (by rw [hrl,k3];exact ⟨e1, .inl hch⟩)];rfl
          · rw [hMx];show _ < ((e.log.length + 1 : Nat) : Int);omega
          · rcases d with d | d
            · exact .inl (by rw [hMx,hRx,d])
            · right
              rw [hUq]
              obtain ⟨x,hx,h1,h2⟩:=DW hA.symm (fun m hm => by have:=DL hm;omega) d
              exact ⟨x,List.mem_cons_of_mem _ hx,h1,h2⟩
    · rw [if_neg (fun hx => e1 hx.2)] at hMx hRx
      rw [if_neg e1] at hUq
      refine ⟨by rw [hMx];exact hMq.ok,by rw [hMx,hRx];exact hMq.owner,?_,?_⟩
      · rw [hMx,hLl,hlen1];have:=hMq.lsn;omega
      · rw [hMx,hRx,hLl,hlen1,hls,hdk,hUq,FY (by rw [hrl,k3];exact fun hx => e1 hx.1),Eb _ hA]
        rcases hMq.cases with hx | ⟨a,b,c,d⟩
        · exact .inl hx
        · exact .inr ⟨a,b,c,d.imp id (fun hz => DW hA.symm (fun m hm => by have:=DL hm;omega) hz)⟩
/-- Where no undoing is under way, what is to be undone is all that was put, or owned. -/
theorem Pg {l : List Rec} (hl : AP l = true) (n : Nat) : n ≤ l.length → (∀ m ∈ BA l n,(rc l (m - 1)).kind ≠ 6) → ∀ m ∈ BA l n,(rc l (m - 1)).kind = 1 ∨ (rc l (m - 1)).kind = 2 → m ∈ CU l n:=by
  induction n using Nat.strongRecOn with
  | _ n ih =>
    intro hn h6 m hm hk
    match n with
    | 0 => rw [Cm] at hm;cases hm
    | n + 1 =>
      have FF:=AA hl (k:=n) (by omega)
      have hp:=FF.prev_le
      rw [DU hp] at hm h6
      have ih':=ih (BH l (n + 1)) (by omega) (by omega) (fun x hx => h6 x (List.mem_cons_of_mem _ hx)) m
      have hk6 : (rc l n).kind ≠ 6:=by have:=h6 (n + 1) (by simp);simpa using this
      by_cases hk1 : (rc l n).kind = 1 ∨ (rc l n).kind = 2
      · rw [KT hk1 hp]
        rcases List.mem_cons.1 hm with rfl | hm
        · simp
        · exact List.mem_cons_of_mem _ (ih' hm hk)
      · rw [LY (by omega) (by omega) hk6 hp]
        rcases List.mem_cons.1 hm with rfl | hm
        · rw [Nat.add_sub_cancel] at hk;exact absurd hk hk1
        · exact ih' hm hk
theorem MN {l : List Rec} {p : Int} : ∀ {n k : Nat},k < n → BD l p n < k + 1 → ¬ ((rc l k).page = p ∧ (Cx (rc l k).kind = true ∨ (rc l k).kind = 3))
  | 0,k,hk,_ => by omega
  | n + 1,k,hk,h => by
    rw [BD] at h
    split at h
    · omega
    · rename_i hc
      rcases Nat.eq_or_lt_of_le (Nat.le_of_lt_succ hk) with rfl | hlt
      · exact hc
      · exact MN hlt h
/-- Behind its number nothing changes a page in memory. -/
theorem Qe.calm {e : Eng} {p : Nat} (h : Qe e p) : ∀ k,k < e.log.length → (pg e.mem p).lsn < (k + 1 : Nat) → ¬ TN e.log p k:=by
  intro k hk hlt
  rcases h.cases with ⟨_,h2⟩ | ⟨_,h2,_⟩
  · rw [h2] at hlt
    exact NE hk hlt
  · intro hc
    exact MN (p:=(p : Int)) hk (by omega) ⟨hc.2, .inl hc.1⟩
theorem Inv.load {e : Eng} {C : Nat → Page} {B : Nat} (h : Inv e C B) (hup : e.down = false) {tx : Int} {p : Nat} {vals : List Int} (hp : p < 5) (ht : tx = 1 ∨ tx = 2 ∨ tx = 3) (ho : (pg e.mem p).owner ≠ 0) (hv : vals.length = 3 ∧ ∀ x ∈ vals,0 ≤ x ∧ x ≤ 9) (hfree : ∀ t,t ≠ tx → has e.log t e.log.length p = false)
    (htook : ∃ m ∈ Ch e.log tx e.log.length,(rc e.log (m - 1)).kind = 2 ∧ (rc e.log (m - 1)).page = p ∧ (rc e.log (m - 1)).new ≠ 0) (hB : B + 3 ≤ 150) :
    Inv { e with log:=e.log ++ [⟨3,tx,p,0,0,0,Aj e.log tx e.log.length,0⟩],mem:=e.mem.set p ⟨(e.log.length + 1 : Nat),(pg e.mem p).owner,vals⟩ } C (B + 3):=by
  have hc:=h.core
  have hm:=h.upm hup
  have hle:=AY e.log tx e.log.length
  have hn:=hc.Lf
  have hs1:=hc.s1
  obtain ⟨r',hr'⟩ : ∃ r' : Rec,(⟨3,tx,p,0,0,0,Aj e.log tx e.log.length,0⟩ : Rec) = r':=⟨_,rfl⟩
  rw [hr']
  have k1 : r'.kind = 3:=by rw [← hr']
  have k2 : r'.tx = tx:=by rw [← hr']
  have k3 : r'.page = p:=by rw [← hr']
  have hok : CS r' = true:=by
    rw [← hr',D7]
    exact ⟨.inr (.inr (.inl ⟨rfl,(by show (0 : Int) ≤ (p : Int);omega),(by show (p : Int) ≤ 4;omega),rfl,rfl,rfl,rfl⟩)),(by show 1 ≤ tx;omega),(by show tx ≤ 3;omega),(by show (0 : Int) ≤ (Aj e.log tx e.log.length : Int);omega),(by show (Aj e.log tx e.log.length : Int) ≤ 150;omega)⟩
  have hl' : AP (e.log ++ [r']) = true:=IG hc.log hok (by rw [← hr']) (by rw [← hr'];simp) (.inl (by rw [← hr'];exact Int.le_refl _)) (by omega)
  have hA:=Co e.log [r']
  have hlen : e.log.length < (e.log ++ [r']).length:=by simp
  have hlen1 : (e.log ++ [r']).length = e.log.length + 1:=by simp
  have hrl : rc (e.log ++ [r']) e.log.length = r':=BI _ _
  have hpr : Gt (e.log ++ [r']) e.log.length:=by
    refine ⟨?_,?_,?_,?_,?_⟩
    all_goals rw [hrl]
    · intro hk;omega
    · intro hk;omega
    · intro hk;omega
    · intro he;rw [E8 (by omega)] at he;cases he
    · intro _ t htn
      rw [k2] at htn
      rw [JW hA _ _ (Nat.le_refl _),k3]
      exact hfree t htn
  have hP:=F4 hc.prop hpr
  have hUA:=fun q => TV hl' hlen (by rw [hrl];exact k1) q
  have hUA' : ∀ q,UA (e.log ++ [r']) (e.log.length + 1) q = UA e.log e.log.length q:=fun q => by rw [hUA q,EM hA q (Nat.le_refl _)]
  have hroom : e.log.length + 1 + Bp (e.log ++ [r']) (e.log.length + 1) ≤ B + 3:=by
    have h1:=hc.room e.log.length (Nat.le_refl _)
    have h2:=OO (l:=e.log) (r:=r') ht k2 (by
      have:=SB hl' hlen (by rw [hrl];exact k1)
      rw [hrl,k2] at this
      rw [this,Gs hA _ (Nat.le_refl _)];omega)
    omega
  have hno : ∀ q : Nat, ¬ (Cx r'.kind = true ∧ r'.page = (q : Int) ∧ (BV (pg e.disk q) e.log q e.log.length).lsn < (e.log.length + 1 : Nat)):=fun q hx => by rw [k1] at hx;simp [Cx] at hx
  have hrd : ∀ q : Nat,BV (pg e.disk q) (e.log ++ [r']) q (e.log.length + 1) = BV (pg e.disk q) e.log q e.log.length:=fun q => by rw [GH,if_neg (hno q)]
  have hcore : Core { e with log:=e.log ++ [r'] } C (B + 3):=by
    refine Core.snoc hc (by omega) hB hl' hpr (by omega) hroom fun q hq => ?_
    rw [hUA',hrd]
    exact CX hA.symm (fun m hm => by have:=DL hm;omega) (hc.good e.log.length hs1 (Nat.le_refl _) q hq)
  refine ⟨hcore.mem _ _,by simpa using h.mlen,fun hd => ?_,fun _ => (h.upc hup).more hl' (by omega),fun _ q hq => ?_⟩
  · rw [show e.down = true from hd] at hup;cases hup
  · have hMq:=hm q hq
    have hd:=hc.LD q hq
    have hRx : Dk ({ e with log:=e.log ++ [r'],mem:=e.mem.set p ⟨(e.log.length + 1 : Nat),(pg e.mem p).owner,vals⟩ } : Eng) q = Dk e q:=by
      show BV (pg e.disk q) (e.log ++ [r']) q (e.log ++ [r']).length = _
      rw [hlen1,hrd];rfl
    have hMx : pg (e.mem.set p ⟨(e.log.length + 1 : Nat),(pg e.mem p).owner,vals⟩) q = if p = q then ⟨(e.log.length + 1 : Nat),(pg e.mem p).owner,vals⟩ else pg e.mem q:=Fb (by rw [h.mlen];exact hp)
    by_cases e1 : p = q
    · subst e1
      rw [if_pos rfl] at hMx
      have hMo:=Ci.1 hMq.ok
      have hls : lds (e.log ++ [r']) (e.log.length + 1) p = true:=by
        rw [Li]
        refine ⟨tx,ht,?_⟩
        have:=TA hl' hlen (by rw [hrl];exact E8 (by omega)) p
        rw [hrl,k2] at this
        rw [this,k1,k3]
        simp
      refine ⟨?_,?_,?_, .inr ⟨?_,?_, .inl ?_, .inr ?_⟩⟩
      · show Bt (pg (e.mem.set p _) p) = true
        rw [hMx,Ci]
        exact ⟨by show (0 : Int) ≤ ((e.log.length + 1 : Nat) : Int);omega,by show ((e.log.length + 1 : Nat) : Int) ≤ 150;omega,hMo.2.2.1,hMo.2.2.2.1,hv.1,fun x hx => ⟨(hv.2 x hx).1,(hv.2 x hx).2,fun e => absurd e ho⟩⟩
      · rw [hRx]
        show (pg (e.mem.set p _) p).owner = _
        rw [hMx]
        exact hMq.owner
      · show (pg (e.mem.set p _) p).lsn ≤ ((e.log ++ [r']).length : Int)
        rw [hMx,hlen1]
        exact Int.le_refl _
      · show lds (e.log ++ [r']) (e.log ++ [r']).length p = true
        rw [hlen1];exact hls
      · show (pg (e.mem.set p _) p).lsn = (BD (e.log ++ [r']) p (e.log ++ [r']).length : Int)
        rw [hMx,hlen1,KI (by rw [hrl];exact ⟨k3, .inr k1⟩)]
      · show (pg e.disk p).lsn < (pg (e.mem.set p _) p).lsn
        rw [hMx]
        show _ < ((e.log.length + 1 : Nat) : Int)
        omega
      · show PN (e.log ++ [r']) (UA (e.log ++ [r']) (e.log ++ [r']).length p)
        rw [hlen1,hUA']
        refine DW hA.symm (fun m hm => by have:=DL hm;omega) ?_
        obtain ⟨m,h1,h2,h3,h4⟩:=htook
        have hmU : m ∈ U e.log tx e.log.length:=Pg hc.log _ hle (fun x hx => h.upc hup tx x hx) m h1 (.inr h2)
        have hmb:=MZ hmU
        have hrec:=(AA hc.log (k:=m - 1) (by omega)).ok
        have hprop:=(hc.prop (m - 1) (by omega)).own h2 h4
        rw [D7] at hrec
        refine ⟨m,?_,by omega,hprop⟩
        rw [KO hc.log hc.prop (Nat.le_refl _) ht hfree,F,List.mem_filter]
        exact ⟨hmU,by simpa using h3⟩
    · rw [if_neg e1] at hMx
      have hls : lds (e.log ++ [r']) (e.log.length + 1) q = lds e.log e.log.length q:=by
        rw [NP hl' hlen (by rw [hrl];exact E8 (by omega)) (by rw [hrl,k3];omega),Ih hA q (Nat.le_refl _)]
      have hlo : BD (e.log ++ [r']) q (e.log.length + 1) = BD e.log q e.log.length:=by
        rw [FY (by rw [hrl,k3];omega),Eb _ hA]
      refine ⟨?_,?_,?_,?_⟩
      · show Bt (pg (e.mem.set p _) q) = true
        rw [hMx];exact hMq.ok
      · rw [hRx]
        show (pg (e.mem.set p _) q).owner = _
        rw [hMx];exact hMq.owner
      · show (pg (e.mem.set p _) q).lsn ≤ ((e.log ++ [r']).length : Int)
        rw [hMx,hlen1];have:=hMq.lsn;omega
      · rw [hRx]
        show (lds (e.log ++ [r']) (e.log ++ [r']).length q = false ∧ pg (e.mem.set p _) q = Dk e q) ∨ (lds (e.log ++ [r']) (e.log ++ [r']).length q = true ∧ (pg (e.mem.set p _) q).lsn = (BD (e.log ++ [r']) q (e.log ++ [r']).length : Int) ∧ ((pg e.disk q).lsn < (pg (e.mem.set p _) q).lsn ∨ pg (e.mem.set p _) q = pg e.disk q) ∧ (pg (e.mem.set p _) q = Dk e q ∨ PN (e.log ++ [r']) (UA (e.log ++ [r']) (e.log ++ [r']).length q)))
        rw [hMx,hlen1,hls,hlo,hUA']
        rcases hMq.cases with hx | ⟨a,b,c,d⟩
        · exact .inl hx
        · exact .inr ⟨a,b,c,d.imp id (fun hz => DW hA.symm (fun m hm => by have:=DL hm;omega) hz)⟩
/-- The disk behind a 'done' of tx: pages that it loaded are written. -/
def FB (e : Eng) (tx : Int) : List Page:=(List.range 5).map fun p : Nat => if ld e.log tx e.log.length p = true then pg e.mem p else pg e.disk p
theorem Jr (e : Eng) (tx : Int) {p : Nat} (hp : p < 5) : pg (FB e tx) p = if ld e.log tx e.log.length p = true then pg e.mem p else pg e.disk p:=by
  simp [pg,FB,List.getD_eq_getElem?_getD,hp]
def DK (e : Eng) (tx : Int) : Eng:={ e with disk:=FB e tx,log:=e.log ++ [⟨4,tx,0,0,0,0,Aj e.log tx e.log.length,0⟩],safe:=(e.log.length + 1 : Nat) }
/-- What was done, behind a 'done' of tx. -/
def OH (e : Eng) (tx : Int) (C : Nat → Page) (p : Nat) : Page:=if has e.log tx e.log.length p = true then ⟨0,(pg e.mem p).owner,(pg e.mem p).vals⟩ else C p
theorem Inv.VI {e : Eng} {C : Nat → Page} {B : Nat} (h : Inv e C B) (hup : e.down = false) {tx : Int} (ht : tx = 1 ∨ tx = 2 ∨ tx = 3) (hlast : lastT e tx ≠ 0) : Inv (DK e tx) (OH e tx C) B:=by
  have hc:=h.core
  have hm:=h.upm hup
  have hle:=AY e.log tx e.log.length
  have h150:=hc.one ht hlast
  have hs0:=hc.s0
  have hs1:=hc.s1
  obtain ⟨r',hr'⟩ : ∃ r' : Rec,(⟨4,tx,0,0,0,0,Aj e.log tx e.log.length,0⟩ : Rec) = r':=⟨_,rfl⟩
  unfold DK
  rw [hr']
  have k1 : r'.kind = 4:=by rw [← hr']
  have k2 : r'.tx = tx:=by rw [← hr']
  have hok : CS r' = true:=by
    rw [← hr',D7]
    exact ⟨.inr (.inr (.inr (.inl ⟨.inl rfl,rfl,rfl,rfl,rfl,rfl⟩))),(by show 1 ≤ tx;omega),(by show tx ≤ 3;omega),(by show (0 : Int) ≤ (Aj e.log tx e.log.length : Int);omega),(by show (Aj e.log tx e.log.length : Int) ≤ 150;omega)⟩
  have hl' : AP (e.log ++ [r']) = true:=IG hc.log hok (by rw [← hr']) (by rw [← hr'];simp) (.inl (by rw [← hr'];exact Int.le_refl _)) h150
  have hA:=Co e.log [r']
  have hlen : e.log.length < (e.log ++ [r']).length:=by simp
  have hlen1 : (e.log ++ [r']).length = e.log.length + 1:=by simp
  have hrl : rc (e.log ++ [r']) e.log.length = r':=BI _ _
  have hend : ED (rc (e.log ++ [r']) e.log.length).kind = true:=by rw [hrl,k1];rfl
  have htx : (rc (e.log ++ [r']) e.log.length).tx = tx:=by rw [hrl,k2]
  have hpr : Gt (e.log ++ [r']) e.log.length:=by
    refine ⟨?_,?_,?_,?_,?_⟩
    all_goals rw [hrl]
    · intro hk;omega
    · intro hk;omega
    · intro hk;omega
    · intro _;rw [k2,CP tx hA];exact Nat.pos_of_ne_zero hlast
    · intro hk;omega
  have hP:=F4 hc.prop hpr
  have hUA : ∀ q,UA (e.log ++ [r']) (e.log.length + 1) q = if has e.log tx e.log.length q = true then [] else UA e.log e.log.length q:=fun q => by
    rw [WN hl' hP hlen (by rw [hrl];exact k1),htx,JW hA _ _ (Nat.le_refl _),EM hA q (Nat.le_refl _)]
  have hroom : e.log.length + 1 + Bp (e.log ++ [r']) (e.log.length + 1) ≤ B:=by
    have h1:=hc.room e.log.length (Nat.le_refl _)
    have hs:=Jz (l:=e.log ++ [r']) (n:=e.log.length) (t:=tx) htx ht
    rw [KE,PS] at hs
    have e1 : cst (e.log ++ [r']) tx (e.log.length + 1) = 0:=by rw [cst,P8 htx hend,Ii htx hend];rfl
    have e2 : 1 ≤ cst e.log tx e.log.length:=by rw [cst,if_neg hlast];omega
    omega
  have hoth : ∀ q,has e.log tx e.log.length q = true → lds (e.log ++ [r']) (e.log.length + 1) q = false:=fun q hq => by
    rw [Bool.eq_false_iff]
    intro hl
    obtain ⟨t,_,hlt⟩:=Li.1 hl
    by_cases e1 : tx = t
    · subst e1
      rw [RX htx hend] at hlt;cases hlt
    · rw [Lj (by rw [htx];exact e1),GN hA _ _ (Nat.le_refl _)] at hlt
      have:=GK hc.log hc.prop _ (Nat.le_refl _) _ _ _ e1 hq
      rw [Mf hlt] at this;cases this
  have hrd : ∀ (P : Page) (q : Nat),BV P (e.log ++ [r']) q (e.log.length + 1) = BV P e.log q e.log.length:=fun P q => by
    rw [GH,if_neg]
    intro hx
    rw [k1] at hx
    simp [Cx] at hx
  have hRed : ∀ q : Nat,q < 5 → has e.log tx e.log.length q = true → BV (pg (FB e tx) q) e.log q e.log.length = pg e.mem q:=fun q hq hhas => by
    rw [Jr e tx hq]
    split
    · exact IB (hm q hq).calm
    · rename_i hld
      rcases (hm q hq).cases with hx | ⟨a,_⟩
      · exact hx.2.symm
      · obtain ⟨t,_,hlt⟩:=Li.1 a
        by_cases e1 : tx = t
        · subst e1;exact absurd hlt hld
        · have:=GK hc.log hc.prop _ (Nat.le_refl _) _ _ _ e1 hhas
          rw [Mf hlt] at this;cases this
  have hRed' : ∀ q : Nat,q < 5 → has e.log tx e.log.length q = false → pg (FB e tx) q = pg e.disk q:=fun q hq hhas => by
    rw [Jr e tx hq,if_neg]
    intro hld
    rw [Mf hld] at hhas;cases hhas
  have hcore : Core ({ e with disk:=FB e tx,log:=e.log ++ [r'],safe:=(e.log.length + 1 : Nat) } : Eng) (OH e tx C) B:=by
    refine ⟨by simp [FB],fun q hq => ?_,hl',hP,by show (0 : Int) ≤ ((e.log.length + 1 : Nat) : Int);omega,by show ((e.log.length + 1 : Nat) : Int) ≤ ((e.log ++ [r']).length : Int);rw [hlen1];exact Int.le_refl _,hc.b150,fun n hn => ?_,fun k hk _ => ?_,fun q hq => ?_,fun n hs hn q hq => ?_⟩
    · show Bt (pg (FB e tx) q) = true
      rw [Jr e tx hq]
      split
      · exact (hm q hq).ok
      · exact hc.dok q hq
    · have hn : n ≤ (e.log ++ [r']).length:=hn
      show n + Bp (e.log ++ [r']) n ≤ B
      rw [hlen1] at hn
      rcases Nat.lt_or_ge e.log.length n with hlt | hge
      · obtain rfl : n = e.log.length + 1:=by omega
        exact hroom
      · rw [Gl hA hge]
        exact hc.room n hge
    · have hk : k < (e.log ++ [r']).length:=hk
      rw [hlen1] at hk
      show ((k + 1 : Nat) : Int) ≤ ((e.log.length + 1 : Nat) : Int)
      omega
    · show (pg (FB e tx) q).lsn ≤ ((e.log.length + 1 : Nat) : Int)
      have h1:=hc.LD q hq
      have h2:=(hm q hq).lsn
      rw [Jr e tx hq]
      split <;> omega
    · have hs : ((e.log.length + 1 : Nat) : Int) ≤ n:=hs
      have hn : n ≤ (e.log ++ [r']).length:=hn
      rw [hlen1] at hn
      obtain rfl : n = e.log.length + 1:=by omega
      show Ep (e.log ++ [r']) (OH e tx C q) (UA (e.log ++ [r']) (e.log.length + 1) q) (BV (pg (FB e tx) q) (e.log ++ [r']) q (e.log.length + 1))
      rw [hUA,hrd]
      unfold OH
      cases hhas : has e.log tx e.log.length q
      · rw [if_neg (by simp),if_neg (by simp),hRed' q hq hhas]
        exact CX hA.symm (fun m hm => by have:=DL hm;omega) (hc.good e.log.length hs1 (Nat.le_refl _) q hq)
      · rw [if_pos rfl,if_pos rfl,hRed q hq hhas]
        exact ⟨(hm q hq).ok,rfl,rfl⟩
  refine ⟨hcore,h.mlen,fun hd => ?_,fun _ => (h.upc hup).more hl' (by omega),fun _ q hq => ?_⟩
  · rw [show e.down = true from hd] at hup;cases hup
  · have hMq:=hm q hq
    have hRx : Dk ({ e with disk:=FB e tx,log:=e.log ++ [r'],safe:=(e.log.length + 1 : Nat) } : Eng) q = BV (pg (FB e tx) q) e.log q e.log.length:=by
      show BV (pg (FB e tx) q) (e.log ++ [r']) q (e.log ++ [r']).length = _
      rw [hlen1,hrd]
    cases hhas : has e.log tx e.log.length q
    · have hdq:=hRed' q hq hhas
      have hRe : BV (pg (FB e tx) q) e.log q e.log.length = Dk e q:=by rw [hdq];rfl
      have hls : lds (e.log ++ [r']) (e.log.length + 1) q = lds e.log e.log.length q:=by
        rw [Tz hend (by rw [htx,GN hA _ _ (Nat.le_refl _),Bool.eq_false_iff];intro hld;rw [Mf hld] at hhas;cases hhas),Ih hA q (Nat.le_refl _)]
      have hlo : BD (e.log ++ [r']) q (e.log.length + 1) = BD e.log q e.log.length:=by
        rw [FY (by rw [hrl,k1];simp [Cx]),Eb _ hA]
      have hUq:=hUA q
      rw [hhas,if_neg (by simp)] at hUq
      refine ⟨hMq.ok,by rw [hRx,hRe];exact hMq.owner,?_,?_⟩
      · show (pg e.mem q).lsn ≤ ((e.log ++ [r']).length : Int)
        rw [hlen1];have:=hMq.lsn;omega
      · rw [hRx,hRe]
        show (lds (e.log ++ [r']) (e.log ++ [r']).length q = false ∧ pg e.mem q = Dk e q) ∨ (lds (e.log ++ [r']) (e.log ++ [r']).length q = true ∧ (pg e.mem q).lsn = (BD (e.log ++ [r']) q (e.log ++ [r']).length : Int) ∧ ((pg (FB e tx) q).lsn < (pg e.mem q).lsn ∨ pg e.mem q = pg (FB e tx) q) ∧ (pg e.mem q = Dk e q ∨ PN (e.log ++ [r']) (UA (e.log ++ [r']) (e.log ++ [r']).length q)))
        rw [hlen1,hls,hlo,hUq,hdq]
        rcases hMq.cases with hx | ⟨a,b,c,d⟩
        · exact .inl hx
        · exact .inr ⟨a,b,c,d.imp id (fun hz => DW hA.symm (fun m hm => by have:=DL hm;omega) hz)⟩
    · have hRe:=hRed q hq hhas
      refine ⟨hMq.ok,by rw [hRx,hRe],?_, .inl ⟨?_,by rw [hRx,hRe]⟩⟩
      · show (pg e.mem q).lsn ≤ ((e.log ++ [r']).length : Int)
        rw [hlen1];have:=hMq.lsn;omega
      · show lds (e.log ++ [r']) (e.log ++ [r']).length q = false
        rw [hlen1];exact hoth q hhas
def CQ (e : Eng) (p : Nat) : Eng:={ e with safe:=max e.safe (pg e.mem p).lsn,disk:=e.disk.set p (pg e.mem p) }
theorem Inv.write {e : Eng} {C : Nat → Page} {B : Nat} (h : Inv e C B) (hup : e.down = false) {p : Nat} (hp : p < 5) : Inv (CQ e p) C B:=by
  have hc:=h.core
  have hm:=h.upm hup
  have hs0:=hc.s0
  have hs1:=hc.s1
  have hpl:=(hm p hp).lsn
  have hD : ∀ q,pg (e.disk.set p (pg e.mem p)) q = if p = q then pg e.mem p else pg e.disk q:=fun q => Fb (by rw [hc.dlen];exact hp)
  have hcalm:=(hm p hp).calm
  have hcore : Core (CQ e p) C B:=by
    refine ⟨by show (e.disk.set p _).length = 5;simpa using hc.dlen,fun q hq => ?_,hc.log,hc.prop,by show 0 ≤ max e.safe _;omega,by show max e.safe (pg e.mem p).lsn ≤ (e.log.length : Int);omega,hc.b150,hc.room,fun k hk h4 => ?_,fun q hq => ?_,fun n hs hn q hq => ?_⟩
    · show Bt (pg (e.disk.set p _) q) = true
      rw [hD]
      split
      · exact (hm p hp).ok
      · exact hc.dok q hq
    · have:=hc.done k hk h4
      show _ ≤ max e.safe _
      omega
    · show (pg (e.disk.set p _) q).lsn ≤ max e.safe _
      have:=hc.LD q hq
      rw [hD]
      split <;> omega
    · have hs : max e.safe (pg e.mem p).lsn ≤ n:=hs
      show Ep e.log (C q) (UA e.log n q) (BV (pg (e.disk.set p (pg e.mem p)) q) e.log q n)
      rw [hD]
      split
      · rename_i e1
        subst e1
        rw [IB (fun k hk hlt => hcalm k (by have : n ≤ e.log.length:=hn;omega) hlt)]
        have hU : UA e.log e.log.length p = UA e.log n p:=Rn hc.log hc.prop hn (Nat.le_refl _) fun k h1 h2 => ⟨hcalm k h2 (by omega),fun h4 => by have:=hc.done k h2 h4;omega⟩
        rw [← hU]
        exact hc.Tx hp (hm p hp).ok (hm p hp).owner (hm p hp).alt
      · exact hc.good n (by omega) hn q hq
  refine ⟨hcore,h.mlen,fun hd => ?_,h.upc,fun _ q hq => ?_⟩
  · rw [show e.down = true from hd] at hup;cases hup
  · have hMq:=hm q hq
    by_cases e1 : p = q
    · subst e1
      have hRx : Dk (CQ e p) p = pg e.mem p:=by
        show BV (pg (e.disk.set p (pg e.mem p)) p) e.log p e.log.length = _
        rw [hD,if_pos rfl]
        exact IB hcalm
      refine ⟨hMq.ok,by rw [hRx];rfl,hMq.lsn,?_⟩
      rw [hRx]
      rcases hMq.cases with hx | ⟨a,b,c,d⟩
      · exact .inl ⟨hx.1,rfl⟩
      · exact .inr ⟨a,b, .inr (by show _ = pg (e.disk.set p _) p;rw [hD,if_pos rfl];rfl), .inl rfl⟩
    · have hdq : pg (CQ e p).disk q = pg e.disk q:=by
        show pg (e.disk.set p _) q = _
        rw [hD,if_neg e1]
      have hRx : Dk (CQ e p) q = Dk e q:=by
        show BV (pg (CQ e p).disk q) e.log q e.log.length = _
        rw [hdq];rfl
      refine ⟨hMq.ok,by rw [hRx];exact hMq.owner,hMq.lsn,?_⟩
      rw [hRx,hdq]
      exact hMq.cases
def G9 (e : Eng) : Eng:={ e with safe:=e.log.length }
theorem Inv.force {e : Eng} {C : Nat → Page} {B : Nat} (h : Inv e C B) (hup : e.down = false) : Inv (G9 e) C B:=by
  have hc:=h.core
  have hs0:=hc.s0
  have hs1:=hc.s1
  refine ⟨⟨hc.dlen,hc.dok,hc.log,hc.prop,by show (0 : Int) ≤ (e.log.length : Int);omega,Int.le_refl _,hc.b150,hc.room,fun k hk h4 => ?_,fun q hq => ?_,fun n hs hn q hq => ?_⟩,h.mlen,fun hd => ?_,h.upc,fun hd q hq => ?_⟩
  · have:=hc.done k hk h4
    show _ ≤ (e.log.length : Int)
    omega
  · have:=hc.LD q hq
    show (pg e.disk q).lsn ≤ (e.log.length : Int)
    omega
  · have hs : (e.log.length : Int) ≤ n:=hs
    exact hc.good n (by omega) hn q hq
  · rw [show e.down = true from hd] at hup;cases hup
  · have hMq:=h.upm hup q hq
    exact ⟨hMq.ok,hMq.owner,hMq.lsn,hMq.cases⟩
/-- How many records stay. -/
def ML (e : Eng) (left : Int) : Nat:=(max e.safe (min left e.log.length)).toNat
def JF (e : Eng) (left : Int) : Eng:={ e with mem:=e.disk,log:=e.log.take (ML e left),down:=true }
theorem Core.take {e : Eng} {C : Nat → Page} {B : Nat} (h : Core e C B) {n : Nat} (h1 : e.safe ≤ n) (h2 : n ≤ e.log.length) : Core { e with log:=e.log.take n } C B:=by
  have hA:=KN e.log n
  have hl : (e.log.take n).length = n:=by rw [List.length_take];omega
  refine ⟨h.dlen,h.dok,KF h.log n,Qw h.prop n,h.s0,by show e.safe ≤ ((e.log.take n).length : Int);rw [hl];exact h1,h.b150,fun k hk => ?_,fun k hk h4 => ?_,h.LD,fun k hs hk q hq => ?_⟩
  · have hk : k ≤ (e.log.take n).length:=hk
    show k + Bp (e.log.take n) k ≤ B
    rw [Gl hA (by omega)]
    exact h.room k (by omega)
  · have hk : k < (e.log.take n).length:=hk
    have h4 : (rc (e.log.take n) k).kind = 4:=h4
    rw [hA k (by omega)] at h4
    exact h.done k (by omega) h4
  · have hk : k ≤ (e.log.take n).length:=hk
    show Ep (e.log.take n) (C q) (UA (e.log.take n) k q) (BV (pg e.disk q) (e.log.take n) q k)
    rw [EM hA q (by omega),H9 _ q (hA.le (by omega))]
    exact CX hA.symm (fun m hm => by have:=DL hm;omega) (h.good k hs (by omega) q hq)
theorem NN {e : Eng} {left : Int} (h0 : 0 ≤ e.safe) (h1 : e.safe ≤ e.log.length) : e.safe ≤ ML e left ∧ ML e left ≤ e.log.length:=by
  unfold ML
  omega
theorem Inv.fall {e : Eng} {C : Nat → Page} {B : Nat} (h : Inv e C B) (left : Int) : Inv (JF e left) C B:=by
  have hl:=NN (left:=left) h.core.s0 h.core.s1
  exact ⟨(h.core.take hl.1 hl.2).mem _ _,h.core.dlen,fun _ => rfl,fun hd => (by cases hd),fun hd => (by cases hd)⟩
def J5 (tx : Int) : Nat → Eng → Eng
  | 0,e => e
  | k + 1,e => J5 tx k (Bg e tx)
def DT (e : Eng) (tx : Int) : Eng:=if lastT e tx = 0 then e else J5 tx ((U e.log tx e.log.length).length + 1) e
/-- What holds while tx is being undone. -/
structure Eg (e : Eng) (C : Nat → Page) (B : Nat) (tx : Int) : Prop where
  core : Core e C B
  mlen : e.mem.length = 5
  up : e.down = false
  oth : ∀ t,t ≠ tx → ∀ m ∈ Ch e.log t e.log.length,(rc e.log (m - 1)).kind ≠ 6
  upm : ∀ p,p < 5 → Qe e p
theorem I5 (e : Eng) (tx : Int) : (Bg e tx).log.length = e.log.length + 1:=by rw [JM];simp
theorem Core.Qp {e : Eng} {C : Nat → Page} {B : Nat} (h : Core e C B) {tx : Int} (ht : tx = 1 ∨ tx = 2 ∨ tx = 3) (hlast : lastT e tx ≠ 0) :
    U (Bg e tx).log tx (Bg e tx).log.length = (U e.log tx e.log.length).tail ∧ (∀ t,t ≠ tx → U (Bg e tx).log t (Bg e tx).log.length = U e.log t e.log.length ∧ lastT (Bg e tx) t = lastT e t) ∧ (lastT (Bg e tx) tx = if U e.log tx e.log.length = [] then 0 else e.log.length + 1) ∧ Bp (Bg e tx).log (Bg e tx).log.length + 1 = Bp e.log e.log.length:=by
  have h1:=h.one ht hlast
  have hk:=Et (e:=e) h.log tx
  have hn:=hk.next h.log (by omega) h1
  have hd:=hk.need h.log ht h1 hlast
  unfold lastT
  rw [I5,JM]
  exact ⟨hn.1,hn.2.1,hn.2.2,hd⟩
theorem Core.Xc {e : Eng} {C : Nat → Page} {B : Nat} (h : Core e C B) {tx t : Int} (hne : t ≠ tx) : Ch (Bg e tx).log t (Bg e tx).log.length = Ch e.log t e.log.length:=by
  have hk:=Et (e:=e) h.log tx
  rw [I5,JM,O7 (by rw [BI,hk.tx];exact Ne.symm hne),Ru (Co _ _) t (Nat.le_refl _)]
theorem Eg.step {e : Eng} {C : Nat → Page} {B : Nat} {tx : Int} (h : Eg e C B tx) (ht : tx = 1 ∨ tx = 2 ∨ tx = 3) (hlast : lastT e tx ≠ 0) : Eg (Bg e tx) C B tx:=by
  refine ⟨h.core.step ht hlast,by unfold Bg;rw [LH];exact h.mlen,h.up,fun t hne m hm => ?_,fun p hp => (h.upm p hp).step h.core h.mlen ht hlast hp⟩
  rw [h.core.Xc hne] at hm
  have h1:=Ee _ m hm
  have h2:=AY e.log t e.log.length
  rw [JM,M6 (by omega)]
  exact h.oth t hne m hm
theorem Eg.all {C : Nat → Page} {B : Nat} {tx : Int} (ht : tx = 1 ∨ tx = 2 ∨ tx = 3) : ∀ (k : Nat) (e : Eng),Eg e C B tx → lastT e tx ≠ 0 → (U e.log tx e.log.length).length = k → Eg (J5 tx (k + 1) e) C B tx ∧ lastT (J5 tx (k + 1) e) tx = 0
  | 0,e,h,hlast,hk => by
    have hs:=h.core.Qp ht hlast
    have h0:=List.eq_nil_of_length_eq_zero hk
    refine ⟨h.step ht hlast,?_⟩
    show lastT (Bg e tx) tx = 0
    rw [hs.2.2.1,if_pos h0]
  | k + 1,e,h,hlast,hk => by
    have hs:=h.core.Qp ht hlast
    have hne : U e.log tx e.log.length ≠ []:=fun h0 => by rw [h0] at hk;cases hk
    exact Eg.all ht k (Bg e tx) (h.step ht hlast) (by rw [hs.2.2.1,if_neg hne];omega) (by rw [hs.1,List.length_tail,hk];omega)
theorem Nn {e : Eng} {t : Int} (h : lastT e t = 0) : Ch e.log t e.log.length = []:=by
  rw [Ch,show Aj e.log t e.log.length = 0 from h,Cm]
theorem Inv.und {e : Eng} {C : Nat → Page} {B : Nat} (h : Inv e C B) (hup : e.down = false) (tx : Int) : Eg e C B tx:=⟨h.core,h.mlen,hup,fun t _ => h.upc hup t,h.upm hup⟩
theorem Eg.inv {e : Eng} {C : Nat → Page} {B : Nat} {tx : Int} (h : Eg e C B tx) (h0 : lastT e tx = 0) : Inv e C B:=by
  refine ⟨h.core,h.mlen,fun hd => ?_,fun _ t m hm => ?_,fun _ => h.upm⟩
  · rw [h.up] at hd;cases hd
  · by_cases e1 : t = tx
    · subst e1
      rw [Nn h0] at hm;cases hm
    · exact h.oth t e1 m hm
theorem Inv.Jh {e : Eng} {C : Nat → Page} {B : Nat} (h : Inv e C B) (hup : e.down = false) {tx : Int} (ht : tx = 1 ∨ tx = 2 ∨ tx = 3) : Inv (DT e tx) C B ∧ lastT (DT e tx) tx = 0 ∧ (DT e tx).down = false:=by
  unfold DT
  split
  · rename_i h0
    exact ⟨h,h0,hup⟩
  · rename_i h0
    have:=Eg.all ht _ e (h.und hup tx) h0 rfl
    exact ⟨this.1.inv this.2,this.2,this.1.up⟩
def AO (e : Eng) : Int:=if lastT e 1 ≠ 0 then 1 else if lastT e 2 ≠ 0 then 2 else if lastT e 3 ≠ 0 then 3 else 0
def CW : Nat → Eng → Eng
  | 0,e => e
  | k + 1,e => if AO e = 0 then e else CW k (Bg e (AO e))
def Tg (e : Eng) (steps : Nat) : Eng:=
  let x:=CW steps { e with mem:=Ck e.disk e.log e.log.length }
  if AO x = 0 then { x with down:=false } else { x with mem:=x.disk }
theorem Hl {e : Eng} (h : AO e ≠ 0) : (AO e = 1 ∨ AO e = 2 ∨ AO e = 3) ∧ lastT e (AO e) ≠ 0:=by
  unfold AO at h ⊢
  split at h
  · rename_i h1;rw [if_pos h1];exact ⟨.inl rfl,h1⟩
  · rename_i h1
    rw [if_neg h1]
    split at h
    · rename_i h2;rw [if_pos h2];exact ⟨.inr (.inl rfl),h2⟩
    · rename_i h2
      rw [if_neg h2]
      split at h
      · rename_i h3;rw [if_pos h3];exact ⟨.inr (.inr rfl),h3⟩
      · exact absurd rfl h
theorem MQ {e : Eng} (h : AO e = 0) : lastT e 1 = 0 ∧ lastT e 2 = 0 ∧ lastT e 3 = 0:=by
  unfold AO at h
  split at h
  · cases h
  · rename_i h1
    split at h
    · cases h
    · rename_i h2
      split at h
      · cases h
      · rename_i h3
        exact ⟨Decidable.not_not.1 h1,Decidable.not_not.1 h2,Decidable.not_not.1 h3⟩
theorem Rc {e : Eng} (h : Bp e.log e.log.length = 0) : AO e = 0:=by
  by_cases h0 : AO e = 0
  · exact h0
  · obtain ⟨h1,h2⟩:=Hl h0
    have h3 : 1 ≤ cst e.log (AO e) e.log.length:=by rw [cst,if_neg h2];omega
    rw [Bp] at h
    rcases h1 with h1 | h1 | h1 <;> rw [h1] at h3 <;> omega
/-- What holds while an engine rises. -/
structure Fw (e : Eng) (C : Nat → Page) (B : Nat) : Prop where
  core : Core e C B
  mlen : e.mem.length = 5
  same : ∀ p,p < 5 → pg e.mem p = Dk e p
theorem Fw.step {e : Eng} {C : Nat → Page} {B : Nat} (h : Fw e C B) {tx : Int} (ht : tx = 1 ∨ tx = 2 ∨ tx = 3) (hlast : lastT e tx ≠ 0) : Fw (Bg e tx) C B:=
  ⟨h.core.step ht hlast,by unfold Bg;rw [LH];exact h.mlen,Ug h.core h.mlen tx h.same⟩
theorem Fw.all {C : Nat → Page} {B : Nat} : ∀ (k : Nat) (e : Eng),Fw e C B → Fw (CW k e) C B ∧ (CW k e).disk = e.disk ∧ (CW k e).safe = e.safe ∧ (CW k e).down = e.down ∧ (Bp e.log e.log.length ≤ k → AO (CW k e) = 0)
  | 0,e,h => ⟨h,rfl,rfl,rfl,fun hn => Rc (e:=e) (by omega)⟩
  | k + 1,e,h => by
    rw [CW]
    split
    · rename_i h0
      exact ⟨h,rfl,rfl,rfl,fun _ => h0⟩
    · rename_i h0
      obtain ⟨h1,h2⟩:=Hl h0
      obtain ⟨a,b,c,d,f⟩:=Fw.all k (Bg e (AO e)) (h.step h1 h2)
      have hs:=h.core.Qp h1 h2
      exact ⟨a,b,c,d,fun hn => f (by omega)⟩
theorem Core.start {e : Eng} {C : Nat → Page} {B : Nat} (h : Core e C B) : Fw { e with mem:=Ck e.disk e.log e.log.length } C B:=by
  refine ⟨h.mem _ e.down,by show (Ck e.disk e.log e.log.length).length = 5;rw [I7];exact h.dlen,fun p hp => ?_⟩
  exact Lb h.dlen (fun k hk => (AA h.log hk).ok) p _ (Nat.le_refl _)
/-- Nobody is open: no chain, nothing to undo. -/
theorem Core.XT {e : Eng} {C : Nat → Page} {B : Nat} (h : Core e C B) (h0 : AO e = 0) (t : Int) : Ch e.log t e.log.length = []:=by
  have hz:=MQ h0
  by_cases h1 : Ch e.log t e.log.length = []
  · exact h1
  · obtain ⟨m,hm⟩:=List.exists_mem_of_ne_nil _ h1
    have hb:=Ee _ m hm
    have hle:=AY e.log t e.log.length
    have hrec:=AA h.log (k:=m - 1) (by omega)
    have ht : t = 1 ∨ t = 2 ∨ t = 3:=by
      have hlt:=GQ e.log t e.log.length
      have hF:=AA h.log (k:=Aj e.log t e.log.length - 1) (by omega)
      rcases hlt with hlt | hlt
      · omega
      · have h2:=hF.tx1
        have h3:=hF.tx3
        rw [hlt] at h2 h3
        omega
    rcases ht with rfl | rfl | rfl
    · exact Nn hz.1
    · exact Nn hz.2.1
    · exact Nn hz.2.2
theorem Core.noL {e : Eng} {C : Nat → Page} {B : Nat} (h : Core e C B) (h0 : AO e = 0) (p : Int) : lds e.log e.log.length p = false:=by
  rw [Bool.eq_false_iff]
  intro hl
  obtain ⟨t,_,hlt⟩:=Li.1 hl
  obtain ⟨m,hm,_⟩:=Vr.1 hlt
  rw [h.XT h0 t] at hm
  cases hm
theorem Fw.up {e : Eng} {C : Nat → Page} {B : Nat} (h : Fw e C B) (h0 : AO e = 0) : Inv { e with down:=false } C B:=by
  refine ⟨h.core.mem e.mem false,h.mlen,fun hd => (by cases hd),fun _ t m hm => ?_,fun _ p hp => ?_⟩
  · have hm : m ∈ Ch e.log t e.log.length:=hm
    rw [h.core.XT h0 t] at hm;cases hm
  · have hsm:=h.same p hp
    have hs1:=h.core.s1
    refine ⟨?_,?_,?_, .inl ⟨h.core.noL h0 p,hsm⟩⟩
    · show Bt (pg e.mem p) = true
      rw [hsm];exact h.core.rok hp hs1 (Nat.le_refl _)
    · show (pg e.mem p).owner = (Dk e p).owner
      rw [hsm]
    · show (pg e.mem p).lsn ≤ (e.log.length : Int)
      rw [hsm];exact h.core.Wu hp hs1
theorem Inv.rise {e : Eng} {C : Nat → Page} {B : Nat} (h : Inv e C B) (hd : e.down = true) (k : Nat) : Inv (Tg e k) C B:=by
  obtain ⟨a,b,c,d,_⟩:=Fw.all k _ h.core.start
  unfold Tg
  simp only
  split
  · rename_i h0
    exact a.up h0
  · refine ⟨a.core.mem _ _,by show (CW k _).disk.length = 5;rw [b];exact h.core.dlen,fun _ => rfl,fun hx => ?_,fun hx => ?_⟩
    · have hx : (CW k { e with mem:=Ck e.disk e.log e.log.length }).down = false:=hx
      rw [d] at hx
      rw [show e.down = false from hx] at hd;cases hd
    · have hx : (CW k { e with mem:=Ck e.disk e.log e.log.length }).down = false:=hx
      rw [d] at hx
      rw [show e.down = false from hx] at hd;cases hd
theorem Inv.Lf {e : Eng} {C : Nat → Page} {B : Nat} (h : Inv e C B) : Bp e.log e.log.length ≤ 150:=by
  have h1:=h.core.room e.log.length (Nat.le_refl _)
  have h2:=h.core.b150
  omega
theorem Kz {p q : Page} : FL p q = true ↔ p = q:=by
  simp only [FL,Bool.and_eq_true,beq_iff_eq]
  constructor
  · rintro ⟨⟨h1,h2⟩,h3⟩
    exact Qz h1 h2 h3
  · rintro rfl
    exact ⟨⟨rfl,rfl⟩,rfl⟩
def Xm (e : Eng) (p : Nat) : Bool:=
  if Ig e.log p 3 = true then (pg e.mem p).owner == (pg (Ck e.disk e.log e.log.length) p).owner && (pg e.mem p).lsn == BD e.log p e.log.length && (decide ((pg e.disk p).lsn < (pg e.mem p).lsn) || FL (pg e.mem p) (pg e.disk p))
  else FL (pg e.mem p) (pg (Ck e.disk e.log e.log.length) p)
def Js (e : Eng) (p : Nat) : Bool:=
  (Fg e.log p (Cf e.log 3) 0 true).2 && decide ((pg e.disk p).lsn ≤ e.safe) && (if e.down = true then FL (pg e.mem p) (pg e.disk p) else Xm e p)
/-- Whatever stays of the log, from n records on. -/
def Kh (e : Eng) (n : Nat) : Bool:=GZ (Ck e.disk (e.log.take n) (e.log.take n).length) && Iw (e.log.take n) (Ck e.disk (e.log.take n) (e.log.take n).length)
def Hu (e : Eng) : Nat → Nat → Bool
  | 0,_ => true
  | k + 1,n => Kh e n && Hu e k (n + 1)
def eOk (e : Eng) : Bool:=
  GZ e.disk && (GZ e.mem && (AP e.log && (inB e.safe 0 e.log.length && (Im e.log && (Hu e (e.log.length + 1 - e.safe.toNat) e.safe.toNat && (List.range 5).all fun p => Js e p)))))
theorem KD {e : Eng} : ∀ {k n : Nat},Hu e k n = true ↔ ∀ m,n ≤ m → m < n + k → Kh e m = true
  | 0,n => ⟨fun _ m h1 h2 => by omega,fun _ => rfl⟩
  | k + 1,n => by
    rw [Hu,Bool.and_eq_true,KD]
    constructor
    · rintro ⟨h1,h2⟩ m h3 h4
      rcases Nat.eq_or_lt_of_le h3 with rfl | h3
      · exact h1
      · exact h2 m h3 (by omega)
    · intro h
      exact ⟨h n (Nat.le_refl _) (by omega),fun m h1 h2 => h m (by omega) (by omega)⟩
theorem K9 {l : List Rec} {C : Nat → Page} : ∀ {ms : List Nat} {ps : List Page},ps.length = 5 → (∀ m ∈ ms,0 ≤ (rc l (m - 1)).page ∧ (rc l (m - 1)).page < 5) → (∀ p,p < 5 → Ep l (C p) (ms.filter fun m => (rc l (m - 1)).page == (p : Int)) (pg ps p)) → F3 l ps ms = true
  | [],_,_,_,_ => rfl
  | m :: ms,ps,hl,hm,hp => by
    have h5:=hm m (by simp)
    obtain ⟨q,hq⟩ : ∃ q : Nat,(rc l (m - 1)).page = (q : Int):=⟨(rc l (m - 1)).page.toNat,by omega⟩
    have hq5 : q < 5:=by omega
    have hpq:=hp q hq5
    rw [List.filter_cons,if_pos (by rw [hq];simp)] at hpq
    have e1 : (rc l (m - 1)).page.toNat = q:=by omega
    rw [F3,e1,Ib hpq.2,Bool.true_and]
    refine K9 (C:=C) (by simpa using hl) (fun x hx => hm x (by simp [hx])) fun p hp5 => ?_
    rw [Fb (by omega)]
    by_cases e2 : q = p
    · subst e2
      rw [if_pos rfl]
      exact hpq.2
    · rw [if_neg e2]
      have hpp:=hp p hp5
      rw [List.filter_cons,if_neg (by rw [hq,beq_iff_eq];omega)] at hpp
      exact hpp
theorem Wn (l : List Rec) (p : Int) : (Ht l 3).filter (fun m => (rc l (m - 1)).page == p) = UA l l.length p:=by
  have e1 : (3 - ((2 : Nat) : Int)) = 1:=rfl
  have e2 : (3 - ((1 : Nat) : Int)) = 2:=rfl
  have e3 : (3 - ((0 : Nat) : Int)) = 3:=rfl
  rw [Ht,Ht,Ht,Ht,e1,e2,e3,List.append_nil,List.filter_append,List.filter_append]
  rfl
theorem UR {l : List Rec} (hl : AP l = true) : ∀ m ∈ Ht l 3,0 ≤ (rc l (m - 1)).page ∧ (rc l (m - 1)).page < 5:=by
  have hU : ∀ t, ∀ m ∈ CU l (Aj l t l.length),0 ≤ (rc l (m - 1)).page ∧ (rc l (m - 1)).page < 5:=fun t m hm => by
    have h1:=MZ (l:=l) (tx:=t) (n:=l.length) hm
    have h2:=H7 hl h1.1 h1.2 (PZ hl (Nat.le_refl _) hm)
    exact ⟨h2.2.1,h2.2.2.1⟩
  intro m hm
  rw [Ht,Ht,Ht,Ht,List.append_nil,List.mem_append,List.mem_append] at hm
  rcases hm with hm | hm | hm <;> exact hU _ m hm
theorem Me {l : List Rec} {p : Int} : ∀ {txs : List Int} {b : Int} {ok : Bool},ok = true → (∀ t ∈ txs,t ≠ 0) → (∀ t ∈ txs, ∀ t' ∈ txs,t ≠ t' → G8 l (Aj l t l.length) p = true → G8 l (Aj l t' l.length) p = false) → txs.Nodup → (b = 0 ∨ ∀ t ∈ txs,G8 l (Aj l t l.length) p = false) →
    (Fg l p txs b ok).2 = true ∧ ((Fg l p txs b ok).1 = b ∧ (∀ t ∈ txs,G8 l (Aj l t l.length) p = false) ∨ ((Fg l p txs b ok).1 ∈ txs ∧ G8 l (Aj l (Fg l p txs b ok).1 l.length) p = true))
  | [],b,ok,hok,_,_,_,_ => ⟨hok, .inl ⟨rfl,fun t ht => by cases ht⟩⟩
  | t :: txs,b,ok,hok,hz,hone,hnd,hb => by
    rw [List.nodup_cons] at hnd
    cases hh : G8 l (Aj l t l.length) p
    · rw [Fg,if_neg (by rw [hh];simp)]
      have ih:=Me (b:=b) (ok:=ok) hok (fun x hx => hz x (by simp [hx])) (fun x hx y hy => hone x (by simp [hx]) y (by simp [hy])) hnd.2 (hb.imp id fun h x hx => h x (by simp [hx]))
      refine ⟨ih.1,ih.2.imp (fun h => ⟨h.1,fun x hx => ?_⟩) (fun h => ⟨List.mem_cons_of_mem _ h.1,h.2⟩)⟩
      rcases List.mem_cons.1 hx with rfl | hx
      · exact hh
      · exact h.2 x hx
    · have hb0 : b = 0:=by
        rcases hb with hb | hb
        · exact hb
        · have:=hb t (by simp)
          rw [hh] at this;cases this
      have hrest : ∀ x ∈ txs,G8 l (Aj l x l.length) p = false:=fun x hx => hone t (by simp) x (by simp [hx]) (fun e => hnd.1 (e ▸ hx)) hh
      rw [Fg,if_pos hh]
      have ih:=Me (b:=t) (ok:=b == 0) (by rw [hb0];rfl) (fun x hx => hz x (by simp [hx])) (fun x hx y hy => hone x (by simp [hx]) y (by simp [hy])) hnd.2 (.inr hrest)
      refine ⟨ih.1, .inr ?_⟩
      rcases ih.2 with h | h
      · rw [h.1];exact ⟨by simp,hh⟩
      · have:=hrest _ h.1
        rw [h.2] at this;cases this
theorem Hf (l : List Rec) : Cf l 3 = (if Aj l 1 l.length = 0 then [] else [1]) ++ ((if Aj l 2 l.length = 0 then [] else [2]) ++ (if Aj l 3 l.length = 0 then [] else [3])):=by
  have e1 : (3 - ((2 : Nat) : Int)) = 1:=rfl
  have e2 : (3 - ((1 : Nat) : Int)) = 2:=rfl
  have e3 : (3 - ((0 : Nat) : Int)) = 3:=rfl
  rw [Cf,Cf,Cf,Cf,e1,e2,e3,List.append_nil]
theorem QC (l : List Rec) : (Cf l 3).Nodup:=by
  rw [Hf]
  split <;> split <;> split <;> decide
theorem M9 {l : List Rec} {t : Int} : t ∈ Cf l 3 ↔ (t = 1 ∨ t = 2 ∨ t = 3) ∧ Aj l t l.length ≠ 0:=by
  rw [Hf,List.mem_append,List.mem_append]
  constructor
  · rintro (h | h | h)
    · split at h
      · cases h
      · rename_i h1;rw [List.mem_singleton.1 h];exact ⟨.inl rfl,h1⟩
    · split at h
      · cases h
      · rename_i h1;rw [List.mem_singleton.1 h];exact ⟨.inr (.inl rfl),h1⟩
    · split at h
      · cases h
      · rename_i h1;rw [List.mem_singleton.1 h];exact ⟨.inr (.inr rfl),h1⟩
  · rintro ⟨rfl | rfl | rfl,h⟩
    · left;rw [if_neg h];simp
    · right;left;rw [if_neg h];simp
    · right;right;rw [if_neg h];simp
/-- Who holds a page; 0: nobody. -/
def lk (l : List Rec) (p : Int) : Int:=(Fg l p (Cf l 3) 0 true).1
theorem Px {l : List Rec} {p : Int} (hone : ∀ t t',t ≠ t' → has l t l.length p = true → has l t' l.length p = false) : (Fg l p (Cf l 3) 0 true).2 = true ∧ ((lk l p = 0 ∧ ∀ t,(t = 1 ∨ t = 2 ∨ t = 3) → has l t l.length p = false) ∨ ((lk l p = 1 ∨ lk l p = 2 ∨ lk l p = 3) ∧ has l (lk l p) l.length p = true)):=by
  have h:=Me (l:=l) (p:=p) (txs:=Cf l 3) (b:=0) (ok:=true) rfl (fun t ht => by have:=(M9.1 ht).1;omega) (fun t _ t' _ hne hh => hone t t' hne hh) (QC l) (.inl rfl)
  refine ⟨h.1,h.2.imp (fun hx => ⟨hx.1,fun t ht => ?_⟩) (fun hx => ⟨(M9.1 hx.1).1,hx.2⟩)⟩
  by_cases h0 : Aj l t l.length = 0
  · rw [has,h0,Gw]
  · exact hx.2 t (M9.2 ⟨ht,h0⟩)
theorem Core.Ia {e : Eng} {C : Nat → Page} {B : Nat} (h : Core e C B) (p : Int) : ∀ t t',t ≠ t' → has e.log t e.log.length p = true → has e.log t' e.log.length p = false:=fun t t' hne hh => GK h.log h.prop _ (Nat.le_refl _) t t' p hne hh
theorem CF {ps : List Page} : GZ ps = true ↔ ps.length = 5 ∧ ∀ p,p < 5 → Bt (pg ps p) = true:=by
  simp only [GZ,Bool.and_eq_true,beq_iff_eq,Bool.not_eq_true',List.any_eq_false]
  constructor
  · rintro ⟨h1,h2⟩
    refine ⟨h1,fun p hp => ?_⟩
    have:=h2 (pg ps p) (by simp [pg,List.getD_eq_getElem?_getD,h1,hp])
    simpa using this
  · rintro ⟨h1,h2⟩
    refine ⟨h1,fun x hx => ?_⟩
    obtain ⟨k,hk,rfl⟩:=List.getElem_of_mem hx
    have:=h2 k (by omega)
    simp [pg,List.getD_eq_getElem?_getD,hk] at this
    simp [this]
theorem Core.pref {e : Eng} {C : Nat → Page} {B : Nat} (h : Core e C B) {n : Nat} (h1 : e.safe ≤ n) (h2 : n ≤ e.log.length) : Kh e n = true:=by
  have ht:=h.take h1 h2
  have hl : (e.log.take n).length = n:=by rw [List.length_take];omega
  have hrd:=fun p => Lb h.dlen (fun k hk => (AA ht.log hk).ok) p n (by show n ≤ (e.log.take n).length;omega)
  have hg:=ht.good n h1 (by show n ≤ (e.log.take n).length;omega)
  rw [Kh,hl,Bool.and_eq_true]
  refine ⟨CF.2 ⟨by rw [I7];exact h.dlen,fun p hp => ?_⟩,?_⟩
  · rw [hrd];exact Ib (hg p hp)
  · rw [Iw,Ji]
    refine K9 (C:=C) (by rw [I7];exact h.dlen) (UR ht.log) fun p hp => ?_
    rw [Wn,hl,hrd]
    exact hg p hp
theorem Inv.Fz {e : Eng} {C : Nat → Page} {B : Nat} (h : Inv e C B) : GZ e.mem = true:=by
  rw [CF]
  refine ⟨h.mlen,fun p hp => ?_⟩
  cases hd : e.down
  · exact (h.upm hd p hp).ok
  · rw [h.dn hd];exact h.core.dok p hp
theorem Uy (l : List Rec) (p : Int) : Ig l p 3 = lds l l.length p:=Vp l p
theorem Inv.ok {e : Eng} {C : Nat → Page} {B : Nat} (h : Inv e C B) : eOk e = true:=by
  have hc:=h.core
  have hs0:=hc.s0
  have hs1:=hc.s1
  have hroom:=hc.room e.log.length (Nat.le_refl _)
  have hb:=hc.b150
  simp only [eOk,Bool.and_eq_true]
  refine ⟨CF.2 ⟨hc.dlen,hc.dok⟩,h.Fz,hc.log,Dj.2 ⟨hs0,hs1⟩,?_,?_,?_⟩
  · rw [Im,Nj,decide_eq_true_eq];omega
  · rw [KD]
    intro m h1 h2
    exact hc.pref (by omega) (by omega)
  · rw [List.all_eq_true]
    intro p hp
    have hp : p < 5:=by simpa using hp
    have hrd:=Lb hc.dlen (fun k hk => (AA hc.log hk).ok) p e.log.length (Nat.le_refl _)
    simp only [Js,Bool.and_eq_true,decide_eq_true_eq]
    refine ⟨⟨(Px (hc.Ia p)).1,hc.LD p hp⟩,?_⟩
    split
    · rename_i hd
      rw [h.dn hd]
      exact Kz.2 rfl
    · rename_i hd
      have hM:=h.upm (by simpa using hd) p hp
      rw [Xm,hrd,Uy]
      rcases hM.cases with hx | ⟨a,b,c,d⟩
      · rw [if_neg (by rw [hx.1];simp)]
        exact Kz.2 hx.2
      · rw [if_pos a]
        simp only [Bool.and_eq_true,beq_iff_eq,Bool.or_eq_true,decide_eq_true_eq]
        exact ⟨⟨hM.owner,b⟩,c.imp id Kz.2⟩
def DJ (e : Eng) (tx page : Int) : Bool := !e.down && (inB tx 1 3 && (inB page 0 4 && (lk e.log page == 0 || lk e.log page == tx)))
/-- Engine x, if that may be, and there is room for it. -/
def Bh (e : Eng) (ok : Bool) (x : Eng) : Eng × Bool:=if ok = true ∧ Im x.log = true then (x,true) else (e,false)
def N9 (e : Eng) (tx page slot val : Int) : Rec:=⟨1,tx,page,slot,iv (pg e.mem page.toNat).vals slot.toNat,val,0,0⟩
def Pn (e : Eng) (tx page slot val : Int) : Bool:=DJ e tx page && ((pg e.mem page.toNat).owner != 0 && (inB slot 0 2 && inB val 0 9))
def L6 (e : Eng) (tx page slot val : Int) : Eng × Bool:=Bh e (Pn e tx page slot val) (e.app (N9 e tx page slot val))
def Na (e : Eng) (tx page table : Int) : Rec:=⟨2,tx,page, -1,(pg e.mem page.toNat).owner,table,0,0⟩
def ownB (e : Eng) (tx page table : Int) : Bool:=DJ e tx page && (inB table 0 3 && (((pg e.mem page.toNat).owner == 0) != (table == 0) && EG (pg e.mem page.toNat).vals))
def Le (e : Eng) (tx page table : Int) : Eng × Bool:=Bh e (ownB e tx page table) (e.app (Na e tx page table))
def MB (l : List Rec) (tx page : Int) : Bool:=(Ch l tx l.length).any fun m => (rc l (m - 1)).kind == 2 && ((rc l (m - 1)).page == page && (rc l (m - 1)).new != 0)
def Ki (e : Eng) (tx page : Int) (vals : List Int) : Bool:=DJ e tx page && ((pg e.mem page.toNat).owner != 0 && (EG (pg e.mem page.toNat).vals && (Fx vals && MB e.log tx page)))
def JB (e : Eng) (tx page : Int) (vals : List Int) : Eng:={ e with log:=e.log ++ [⟨3,tx,page,0,0,0,Aj e.log tx e.log.length,0⟩],mem:=e.mem.set page.toNat ⟨(e.log.length + 1 : Nat),(pg e.mem page.toNat).owner,vals⟩ }
def GL (e : Eng) (tx page : Int) (vals : List Int) : Eng × Bool:=Bh e (Ki e tx page vals) (JB e tx page vals)
/-- Is tx open, and the engine runs? -/
def Ju (e : Eng) (tx : Int) : Bool := !e.down && (inB tx 1 3 && lastT e tx != 0)
def BM (e : Eng) (v : Evt) : Eng:=
  if v.kind = 1 then (L6 e v.tx v.page v.slot v.n).1
  else if v.kind = 2 then (Le e v.tx v.page v.n).1
  else if v.kind = 3 then (GL e v.tx v.page v.vals).1
  else if v.kind = 4 then (if Ju e v.tx = true then DK e v.tx else e)
  else if v.kind = 5 then (if Ju e v.tx = true then DT e v.tx else e)
  else if v.kind = 6 then (if e.down = false ∧ inB v.page 0 4 = true then CQ e v.page.toNat else e)
  else if v.kind = 7 then (if e.down = false then G9 e else e)
  else if v.kind = 8 then (if 0 ≤ v.n then JF e v.n else e)
  else if v.kind = 9 then (if e.down = true ∧ 0 ≤ v.n then Tg e v.n.toNat else e)
  else e
/-- What was done, behind an event. -/
def trueE (e : Eng) (v : Evt) (C : Nat → Page) : Nat → Page:=if v.kind = 4 ∧ Ju e v.tx = true then OH e v.tx C else C
theorem F5 {e : Eng} {tx : Int} : Ju e tx = true ↔ e.down = false ∧ (tx = 1 ∨ tx = 2 ∨ tx = 3) ∧ lastT e tx ≠ 0:=by
  simp only [Ju,Bool.and_eq_true,Bool.not_eq_true',Dj,bne_iff_ne]
  constructor
  · rintro ⟨h1,h2,h3⟩;exact ⟨h1,by omega,h3⟩
  · rintro ⟨h1,h2,h3⟩;exact ⟨h1,by omega,h3⟩
theorem JJ {vs : List Int} : EG vs = true ↔ ∀ x ∈ vs,x = 0:=by
  simp [EG]
theorem Dw {e : Eng} {tx page : Int} : DJ e tx page = true ↔ e.down = false ∧ (1 ≤ tx ∧ tx ≤ 3) ∧ (0 ≤ page ∧ page ≤ 4) ∧ (lk e.log page = 0 ∨ lk e.log page = tx):=by
  simp only [DJ,Bool.and_eq_true,Bool.not_eq_true',Dj,Bool.or_eq_true,beq_iff_eq]
theorem Core.free {e : Eng} {C : Nat → Page} {B : Nat} (h : Core e C B) {tx page : Int} (hl : lk e.log page = 0 ∨ lk e.log page = tx) : ∀ t,t ≠ tx → has e.log t e.log.length page = false:=by
  intro t ht
  have hall:=(Px (h.Ia page)).2
  rcases hall with hx | hx
  · by_cases h0 : Aj e.log t e.log.length = 0
    · rw [has,h0,Gw]
    · refine hx.2 t ?_
      have hlt:=GQ e.log t e.log.length
      have hle:=AY e.log t e.log.length
      have hF:=AA h.log (k:=Aj e.log t e.log.length - 1) (by omega)
      rcases hlt with hlt | hlt
      · exact absurd hlt h0
      · have h2:=hF.tx1
        have h3:=hF.tx3
        rw [hlt] at h2 h3
        omega
  · rcases hl with hl | hl
    · rw [hl] at hx;omega
    · exact h.Ia page (lk e.log page) t (by rw [hl];exact Ne.symm ht) hx.2
theorem Inv.mono {e : Eng} {C : Nat → Page} {B B' : Nat} (h : Inv e C B) (hB : B ≤ B') (h150 : B' ≤ 150) : Inv e C B':=
  ⟨⟨h.core.dlen,h.core.dok,h.core.log,h.core.prop,h.core.s0,h.core.s1,h150,fun n hn => by have:=h.core.room n hn;omega,h.core.done,h.core.LD,h.core.good⟩,h.mlen,h.dn,h.upc,h.upm⟩
theorem WJ {e : Eng} {C : Nat → Page} {B : Nat} (h : Core e C B) : Im e.log = true:=by
  have h1:=h.room e.log.length (Nat.le_refl _)
  have h2:=h.b150
  rw [Im,Nj,decide_eq_true_eq];omega
theorem Inv.V8 {e : Eng} {C : Nat → Page} {B : Nat} (h : Inv e C B) (hB : B + 3 ≤ 150) {tx page slot val : Int} (hp : Pn e tx page slot val = true) : Inv (e.app (N9 e tx page slot val)) C (B + 3):=by
  simp only [Pn,Bool.and_eq_true,Dw,bne_iff_ne,Dj] at hp
  obtain ⟨⟨h1,h2,h3,h4⟩,h5,h6,h7⟩:=hp
  exact h.chg h1 (p:=page.toNat) (by omega) (by show page = _;omega) (by show tx = 1 ∨ tx = 2 ∨ tx = 3;omega) (.inl ⟨rfl,h5,h6.1,h6.2,h7.1,h7.2,rfl⟩) rfl (by
    have:=h.core.free h4
    rwa [show ((page.toNat : Nat) : Int) = page by omega]) hB
theorem Inv.Vk {e : Eng} {C : Nat → Page} {B : Nat} (h : Inv e C B) (hB : B + 3 ≤ 150) {tx page table : Int} (hp : ownB e tx page table = true) : Inv (e.app (Na e tx page table)) C (B + 3):=by
  simp only [ownB,Bool.and_eq_true,Dw,bne_iff_ne,Dj,JJ] at hp
  obtain ⟨⟨h1,h2,h3,h4⟩,h5,h6,h7⟩:=hp
  have hok:=(Ci.1 (CF.1 h.Fz |>.2 page.toNat (by omega))).2.2.2.2.1
  refine h.chg h1 (p:=page.toNat) (by omega) (by show page = _;omega) (by show tx = 1 ∨ tx = 2 ∨ tx = 3;omega) (.inr ⟨rfl,rfl,h5.1,h5.2,?_,UN hok h7,rfl⟩) rfl (by
    have:=h.core.free h4
    rwa [show ((page.toNat : Nat) : Int) = page by omega]) hB
  show (pg e.mem page.toNat).owner = 0 ↔ table ≠ 0
  constructor
  · intro e1 e2
    rw [e1,e2] at h6
    exact h6 rfl
  · intro e2
    by_cases e1 : (pg e.mem page.toNat).owner = 0
    · exact e1
    · exfalso
      apply h6
      rw [beq_eq_false_iff_ne.2 e1,beq_eq_false_iff_ne.2 e2]
theorem Inv.QT {e : Eng} {C : Nat → Page} {B : Nat} (h : Inv e C B) (hB : B + 3 ≤ 150) {tx page : Int} {vals : List Int} (hp : Ki e tx page vals = true) : Inv (JB e tx page vals) C (B + 3):=by
  simp only [Ki,Bool.and_eq_true,Dw,bne_iff_ne,JJ] at hp
  obtain ⟨⟨h1,h2,h3,h4⟩,h5,h6,h7,h8⟩:=hp
  have e1 : ((page.toNat : Nat) : Int) = page:=by omega
  have hL:=h.load (tx:=tx) (p:=page.toNat) (vals:=vals) h1 (by omega) (by omega) h5 ?_ (by rw [e1];exact h.core.free h4) ?_ hB
  · rw [e1] at hL
    exact hL
  · simp only [Fx,Bool.and_eq_true,beq_iff_eq,Bool.not_eq_true',List.any_eq_false] at h7
    refine ⟨h7.1,fun x hx => ?_⟩
    have:=h7.2 x hx
    simp [inB] at this
    exact this
  · rw [e1]
    simp only [MB,List.any_eq_true,Bool.and_eq_true,beq_iff_eq,bne_iff_ne] at h8
    obtain ⟨m,h8,h9⟩:=h8
    exact ⟨m,h8,h9⟩
theorem Inv.change {e x : Eng} {C : Nat → Page} {B : Nat} (h : Inv e C B) (hB : B + 3 ≤ 150) {ok : Bool} (hx : ok = true → Inv x C (B + 3)) : Inv (Bh e ok x).1 C (B + 3):=by
  unfold Bh
  split
  · rename_i hc;exact hx hc.1
  · exact h.mono (by omega) hB
/-- What happens keeps what holds. -/
theorem Inv.play {e : Eng} {C : Nat → Page} {B : Nat} (h : Inv e C B) (hB : B + 3 ≤ 150) (v : Evt) : Inv (BM e v) (trueE e v C) (B + 3):=by
  have hid:=h.mono (show B ≤ B + 3 by omega) hB
  have hle : B ≤ B + 3:=by omega
  unfold BM trueE
  by_cases k4 : v.kind = 4
  · rw [if_neg (by omega),if_neg (by omega),if_neg (by omega),if_pos k4]
    cases ho : Ju e v.tx
    · rw [if_neg (by simp),if_neg (by simp)];exact hid
    · rw [if_pos rfl,if_pos ⟨k4,rfl⟩]
      obtain ⟨h1,h2,h3⟩:=F5.1 ho
      exact (h.VI h1 h2 h3).mono hle hB
  have h4 : ¬ (v.kind = 4 ∧ Ju e v.tx = true):=fun hx => k4 hx.1
  rw [if_neg h4]
  by_cases k1 : v.kind = 1
  · rw [if_pos k1];exact h.change hB (h.V8 hB)
  rw [if_neg k1]
  by_cases k2 : v.kind = 2
  · rw [if_pos k2];exact h.change hB (h.Vk hB)
  rw [if_neg k2]
  by_cases k3 : v.kind = 3
  · rw [if_pos k3];exact h.change hB (h.QT hB)
  rw [if_neg k3,if_neg k4]
  by_cases k5 : v.kind = 5
  · rw [if_pos k5]
    split
    · rename_i ho
      obtain ⟨h1,h2,h3⟩:=F5.1 ho
      exact (h.Jh h1 h2).1.mono hle hB
    · exact hid
  rw [if_neg k5]
  by_cases k6 : v.kind = 6
  · rw [if_pos k6]
    split
    · rename_i hw
      have:=Dj.1 hw.2
      exact (h.write hw.1 (by omega)).mono hle hB
    · exact hid
  rw [if_neg k6]
  by_cases k7 : v.kind = 7
  · rw [if_pos k7]
    split
    · rename_i hd;exact (h.force hd).mono hle hB
    · exact hid
  rw [if_neg k7]
  by_cases k8 : v.kind = 8
  · rw [if_pos k8]
    split
    · exact (h.fall _).mono hle hB
    · exact hid
  rw [if_neg k8]
  by_cases k9 : v.kind = 9
  · rw [if_pos k9]
    split
    · rename_i hr;exact (h.rise hr.1 _).mono hle hB
    · exact hid
  rw [if_neg k9]
  exact hid
def newP : Page:=⟨0,0, [0,0,0]⟩
def Da : Eng:=⟨List.replicate 5 newP,List.replicate 5 newP, [],0,false⟩
theorem NI {p : Nat} (h : p < 5) : pg (List.replicate 5 newP) p = newP:=by
  match p,h with
  | 0,_ => rfl
  | 1,_ => rfl
  | 2,_ => rfl
  | 3,_ => rfl
  | 4,_ => rfl
theorem WG : Inv Da (fun _ => newP) 0:=by
  have hU : ∀ p : Int,UA [] 0 p = []:=fun p => by simp [UA,F,U,Aj,D5]
  have hok : Bt newP = true:=by decide
  refine ⟨⟨rfl,fun p hp => ?_,rfl,fun k hk => ?_,Int.le_refl _,Int.le_refl _,by omega,fun n hn => ?_,fun k hk => ?_,fun p hp => ?_,fun n _ hn p hp => ?_⟩,rfl,fun hd => rfl,fun _ t m hm => ?_,fun _ p hp => ⟨?_,?_,?_, .inl ⟨?_,?_⟩⟩⟩
  · show Bt (pg (List.replicate 5 newP) p) = true
    rw [NI hp];exact hok
  · cases hk
  · obtain rfl : n = 0:=Nat.le_zero.1 hn
    show 0 + Bp [] 0 ≤ 0
    simp [Bp,cst,U,Aj,D5]
  · cases hk
  · show (pg (List.replicate 5 newP) p).lsn ≤ 0
    rw [NI hp];exact Int.le_refl _
  · obtain rfl : n = 0:=Nat.le_zero.1 hn
    show Ep [] newP (UA [] 0 p) (BV (pg (List.replicate 5 newP) p) [] p 0)
    rw [hU,NI hp]
    exact ⟨hok,rfl,rfl⟩
  · simp [Ch,Da,Aj,Cm] at hm
  · show Bt (pg (List.replicate 5 newP) p) = true
    rw [NI hp];exact hok
  · rfl
  · show (pg (List.replicate 5 newP) p).lsn ≤ 0
    rw [NI hp];exact Int.le_refl _
  · simp [Da,lds,ld,Aj,KG]
  · rfl
def K6 (e : Eng) : List Evt → Eng
  | [] => e
  | v :: vs => K6 (BM e v) vs
def Gb (e : Eng) (C : Nat → Page) : List Evt → Nat → Page
  | [] => C
  | v :: vs => Gb (BM e v) (trueE e v C) vs
theorem Inv.run : ∀ {vs : List Evt} {e : Eng} {C : Nat → Page} {B : Nat},Inv e C B → B + 3 * vs.length ≤ 150 → Inv (K6 e vs) (Gb e C vs) (B + 3 * vs.length)
  | [],e,C,B,h,_ => h
  | v :: vs,e,C,B,h,hB => by
    rw [List.length_cons] at hB
    have:=Inv.run (h.play (by omega) v) (vs:=vs) (by omega)
    rw [List.length_cons,show B + 3 * (vs.length + 1) = B + 3 + 3 * vs.length by omega]
    exact this
open Go.RowKit Go.Proofs.YtpjmlpmhgfghbaaGreatW.PrintWords Go.Proofs.YtpjmlpmhgfghbaaGreatW.PrintLast Go.Proofs.YtpjmlpmhgfghbaaGreatW.PrintMore
abbrev OwnRs (w : World) (base : Nat) (v : Value) (l : List Rec) : Prop:=Kd.R Ca 98 w base (fun _ => True) v l
def X3 (w : World) (l : List Rec) (e : Ending) (w' : World) : Prop := ∃ v,e = .returned v ∧ OwnRs w' w.heap.size v l ∧ Below w.heap.size w w'
theorem Il : (Tryz.prog.info? 98).map (fun i => (i.zero,i.size,i.bytes)) = some (some (.agg #[.int .i64 0, .int .i64 0, .int .i64 0, .int .i64 0, .int .i64 0, .int .i64 0, .int .i64 0, .int .i64 0]),8,64):=by kernel_rfl
theorem ER : Tryz.prog.underlying 26 = some (.slice 98):=Tryz.underlying26
/-- A record's cells hold for any world. -/
theorem TH (w : World) (base : Nat) (ok : Nat → Prop) (r : Rec) : Ca.M w base ok r r.cells:=
  ⟨[.int .i64 r.kind], [.int .i64 r.tx, .int .i64 r.page, .int .i64 r.slot, .int .i64 r.old, .int .i64 r.new, .int .i64 r.prev, .int .i64 r.next],rfl,rfl,⟨[.int .i64 r.tx], [.int .i64 r.page, .int .i64 r.slot, .int .i64 r.old, .int .i64 r.new, .int .i64 r.prev, .int .i64 r.next],rfl,rfl,⟨[.int .i64 r.page], [.int .i64 r.slot, .int .i64 r.old, .int .i64 r.new, .int .i64 r.prev, .int .i64 r.next],rfl,rfl,⟨[.int .i64 r.slot], [.int .i64 r.old, .int .i64 r.new, .int .i64 r.prev, .int .i64 r.next],rfl,rfl,⟨[.int .i64 r.old], [.int .i64 r.new, .int .i64 r.prev, .int .i64 r.next],rfl,rfl,⟨[.int .i64 r.new], [.int .i64 r.prev, .int .i64 r.next],rfl,rfl,⟨[.int .i64 r.prev], [.int .i64 r.next],rfl,rfl,rfl⟩⟩⟩⟩⟩⟩⟩
theorem JR {w w1 : World} {base : Nat} {ok : Nat → Prop} {r : Rec} {cs : List Value} (h : Ca.K w r cs) : Ca.M w1 base ok r cs:=by
  rw [OZ h]
  exact TH _ _ _ r
section
variable {ops : Array Oper} {rest : List Oper} {o : Oper} {a : Act} {Q : Exit → Act → World → Prop}
/-- append(v, ys...): records behind records of the call's own. -/
theorem J6 {w0 W : World} {v : Value} {xs ys : List Rec} {A : Option Addr} {c : Nat} (hgd : o.guard = none) (s x : Operand)
    (ho : o.op = .call { callee:=.builtin .append,args:=#[s,x],argTypes:=#[26,26] }) (hs : a.eval s = v) (hx : a.eval x = .slice A ys.length c)
    (HO : OwnRs W w0.heap.size v xs) (HR : Kd.C Ca W A ys.length ys) (HB : Below w0.heap.size w0 W) (hl : xs.length + ys.length ≤ 1000)
    (h : ∀ v1 w1,OwnRs w1 w0.heap.size v1 (xs ++ ys) → Below w0.heap.size w0 w1 → W.grownBy w1 v.ownBlock → wpList Tryz.prog ops Q rest (a.put o.dst v1) w1) :
    wpList Tryz.prog ops Q (o :: rest) a W:=
  Kd.Oy Ca (Rr:=Ca.K W) w0.heap.size hgd s x 26 98 _ 64 ho ER Il rfl (by decide) (by decide) v xs ys A ys.length c (fun _ => True) (fun _ => False) hs hx HO HR (fun _ _ hk => JR hk) (fun _ hk => hk.elim) (fun _ _ => trivial) HB HB.size (by omega) (fun v1 w1 h1 h2 h3 _ => h v1 w1 h1 h2 h3)
end
theorem rs_empty {W : World} {g base : Nat} (hg : g = W.heap.size) (hb : base ≤ W.heap.size) : OwnRs (W.alloc (.cells #[] 98)) base (.slice (some ⟨g,0,none⟩) 0 0) []:=⟨fun _ _ => trivial, [],own_none' _ 8 hg hb,Reps.none _ _⟩
/-- An empty row of elder memory, that nothing is written into. -/
theorem Te (W : World) (base : Nat) : OwnRs W base (.slice none 0 0) []:=Kd.U3 _ _ _ _ _
set_option maxRecDepth 100000 in
set_option maxHeartbeats 2000000 in
theorem LF {w0 w : World} {A : Option Addr} {c : Nat} {l : List Rec} (hl : l.length ≤ 150) (hb : Below w0.heap.size w0 w) (hr : Kd.C Ca w0 A l.length l) : Calls Tryz.prog 90 #[.slice A l.length c] w (X3 w l):=by
  have HR:=As (Bu hr hb)
  have hq : ∀ (w : World) (a : Option Addr) (n c n' c' : Nat),(binOp .eql 26 (.slice a n c) (.slice none n' c')).run Tryz.prog w = .ok (.bool a.isNone) w:=fun w a n c n' c' => Go.Lib.run_eql_slice_nil w _ _ a n c n' c' ER
  clear hr hb
  cases A with
  | none =>
    have hn : l = []:=by
      cases l with
      | nil => rfl
      | cons r t => obtain ⟨ad,h,_⟩:=Ce HR.out 0 (by simp);cases h
    subst hn
    go_enter Tryz.func90,Tryz.ntmps90
    go_wp2
    go_ret
    exact ⟨_,rfl,Te _ _,by go_grown⟩
  | some ad =>
    go_enter Tryz.func90,Tryz.ntmps90
    go_wp2_with (at_builtin;(refine J6 (w0:=w) (xs := []) rfl (.tmp 5) (.tmp 6) rfl rfl rfl (rs_empty rfl (Nat.le_refl _)) (Bu HR.out (Ah (Below.refl _ _) _)) (Ah (Below.refl _ _) _) (by simp;omega) ?_);intro v1 w1 hO hb1 _;have HO:=As hO;have HB:=As hb1;clear hO hb1)
    go_ret
    exact ⟨_,rfl,HO.out,HB.out⟩
/-- An engine of the call's own: its rows share nothing. -/
structure AU (w : World) (base : Nat) (vd vm vl : Value) (e : Eng) : Prop where
  ex : ∃ okd okm : Nat → Prop,(∀ k,okd k → okm k → False) ∧ OwnPk w base okd vd e.disk ∧ OwnPk w base okm vm e.mem
  l : OwnRs w base vl e.log
section
variable {w w1 : World} {base : Nat} {vd vm vl : Value} {e : Eng}
theorem AU.below (h : AU w base vd vm vl e) (hb : Below w.heap.size w w1) : AU w1 base vd vm vl e:=by
  obtain ⟨⟨okd,okm,h1,h2,h3⟩,h4⟩:=h
  exact ⟨⟨okd,okm,h1,Kd.Br h2 hb,Kd.Br h3 hb⟩,Kd.CG h4 hb⟩
theorem AU.lower {b' : Nat} (h : AU w base vd vm vl e) (hb : b' ≤ base) : AU w b' vd vm vl e:=by
  obtain ⟨⟨okd,okm,h1,h2,h3⟩,h4⟩:=h
  exact ⟨⟨okd,okm,h1,Kd.EQ h2 hb,Kd.EQ h3 hb⟩,Kd.Gu h4 hb⟩
theorem L9 : ∀ q,q ∈ 81 :: Dn.E → q = 81 ∨ q = 3:=by decide
/-- A block of another kind was written. -/
theorem AU.set (h : AU w base vd vm vl e) {g t : Nat} {cells : Array Value} (hb : w.heap[g]? = some (.cells cells t (0,0))) (h1 : t ≠ 81) (h2 : t ≠ 3) (h3 : t ≠ 98) (j : Nat) (u : Value) : AU (w.setCell ⟨g,j,none⟩ u) base vd vm vl e:=by
  obtain ⟨⟨okd,okm,ha,hx,hy⟩,hz⟩:=h
  have hp : ∀ q,q ∈ 81 :: Dn.E → q ≠ t:=fun q hq => by rcases L9 q hq with rfl | rfl;exact Ne.symm h1;exact Ne.symm h2
  have hr : ∀ q,q ∈ 98 :: Ca.E → q ≠ t:=fun q hq => by
    have : q = 98:=by simpa [Ca,Kd.iso,Kd.pair,Kd.int,Kd.scalar] using hq
    rw [this];exact Ne.symm h3
  exact ⟨⟨okd,okm,ha,Kd.Ro hx hb hp j u,Kd.Ro hy hb hp j u⟩,Kd.X9 hz hb hr j u⟩
theorem AU.reads (h : AU w base vd vm vl e) : ∃ Ad cd Am cm Al cl,vd = .slice Ad e.disk.length cd ∧ vm = .slice Am e.mem.length cm ∧ vl = .slice Al e.log.length cl ∧ e.log.length ≤ cl ∧ DY w e Ad Am Al:=by
  obtain ⟨⟨okd,okm,_,hx,hy⟩,hz⟩:=h
  obtain ⟨Ad,cd,h1,_,h2⟩:=Kd.Cn hx
  obtain ⟨Am,cm,h3,_,h4⟩:=Kd.Cn hy
  obtain ⟨Al,cl,h5,h6,h7⟩:=Kd.DI hz
  exact ⟨Ad,cd,Am,cm,Al,cl,h1,h3,h5,h6,h2,h4,h7⟩
/-- Two rows, made one behind the other. -/
theorem AU.mk2 {w0 : World} {ps qs : List Page} {l : List Rec} (hd : OwnPk w0 base (fun _ => True) vd ps) (hm : OwnPk w1 w0.heap.size (fun _ => True) vm qs) (hb : Below w0.heap.size w0 w1) (hbase : base ≤ w0.heap.size) (hl : OwnRs w1 base vl l) {s : Int} {d : Bool} : AU w1 base vd vm vl ⟨ps,qs,l,s,d⟩:=
  ⟨⟨fun k => True ∧ k < w0.heap.size,fun k => w0.heap.size ≤ k,fun k h1 h2 => by omega,Kd.DC hd hb,Kd.EQ (Kd.DN (Kd.Fv hm) (fun k hk => hk.2.1)) hbase⟩,hl⟩
end
/-- A call that hands back an engine of its own. -/
def VW (w : World) (e : Eng) (x : Ending) (w' : World) : Prop := ∃ vd vm vl,x = .returned (e.ag vd vm vl) ∧ AU w' w.heap.size vd vm vl e ∧ Below w.heap.size w w'
end Go.Proofs.YtpjmlpmhgfghbaaGreat
/- The statements' copies of an engine that came in: their to.. functions. -/
namespace Go.Proofs.YtpjmlpmhgfghbaaGreat
open Go.RowKit Go.Proofs.YtpjmlpmhgfghbaaGreatW.PrintWords Go.Proofs.YtpjmlpmhgfghbaaGreatW.PrintLast Go.Proofs.YtpjmlpmhgfghbaaGreatW.PrintMore
theorem take_set {α : Type} {xs ys : List α} {k : Nat} {x : α} (h : ys.take k = xs.take k) (hl : ys.length = xs.length) (hk : xs[k]? = some x) : (ys.set k x).take (k + 1) = xs.take (k + 1):=by
  have hlt : k < xs.length:=(List.getElem?_eq_some_iff.1 hk).1
  rw [List.take_add_one,List.take_add_one,hk,List.getElem?_set_self (by omega),List.take_set_of_le (Nat.le_refl _),h]
theorem Xo {l : List Int} {k : Nat} (h : k < l.length) : l[k]? = some (iv l k):=by
  simp [iv,List.getD_eq_getElem?_getD,h]
theorem AV.XU {w : World} {b : Nat} {v : Value} {xs : List Int} (h : AV w b v xs) (hp : 0 < xs.length) : ∃ g cap,v = .slice (some ⟨g,0,none⟩) xs.length cap ∧ b ≤ g ∧ g < w.heap.size:=by
  rcases AV.form h with ⟨-,h2⟩ | ⟨g,cap,cur,h1,h2,h3, -⟩
  · rw [h2] at hp
    simp at hp
  · exact ⟨g,cap,h1,h2,(Array.getElem?_eq_some_iff.1 h3).1⟩
theorem Vg {w : World} {b n : Nat} {ok : Nat → Prop} {v : Value} (h : (Kd.int .i64).R 3 w b ok v (List.replicate (n : Int).toNat 0)) : AV w b v (List.replicate n 0):=Kd.Ld h
set_option maxRecDepth 100000 in
set_option maxHeartbeats 4000000 in
theorem Ph {w0 w : World} {A : Option Addr} {c : Nat} {xs : List Int} (hl : xs.length ≤ 1048576) (hb : Below w0.heap.size w0 w) (hr : Kd.C (Kd.int .i64) w0 A xs.length xs) : Calls Tryz.prog 116 #[.slice A xs.length c] w (UK w xs):=by
  have HR:=As (Bu hr hb)
  have HL:=As hl
  clear hr hb
  go_enter Tryz.func116,Tryz.ntmps116
  go_wp2_with (at_make;refine Kd.VZ (Kd.int .i64) w.heap.size 3 rfl (N:=7) rfl 33 (.tmp 6) (.tmp 6) rfl (xs.length : Int) rfl rfl Dy (.int .i64 0) 8 EL rfl (by decide) (by decide) 0 (ok:=fun _ => True) (okp:=fun _ => False) ?hz (fun _ _ => trivial) trivial (by omega) (by have:=HL.out;simp;omega) (Below.refl _ _) (Nat.le_refl _) ?hn;exact rfl;intro v w1 hv hb1 _ _;have HO:=As (Vg hv);have HB:=As hb1;clear hv hb1)
  go_loopw [4] (fun i wr => ∃ (k : Nat) (ys : List Int),k ≤ xs.length ∧ i = .int .i64 (k : Int) ∧ Ac (AV wr w.heap.size v ys ∧ ys.length = xs.length ∧ ys.take k = xs.take k) ∧ Ac (Below w.heap.size w wr)) (fun i _ => (xs.length - intOf i).toNat)
  case atStart => exact ⟨0,_,Nat.zero_le _,rfl,⟨HO.out,by simp,by simp⟩,HB⟩
  case round =>
    obtain ⟨k,ys,hk,rfl,HY,HW⟩:=hrel
    by_cases hlt : k < xs.length
    · obtain ⟨ad,rfl,g0⟩:=Dg (Bu HR.out HW.out) k hlt
      obtain ⟨g,cap,hv,hgb,hgl⟩:=HY.out.1.XU (by rw [HY.out.2.1];omega)
      rw [HY.out.2.1] at hv
      subst hv
      have HOg:=As (show AV wr w.heap.size (.slice (some ⟨g,0,none⟩) ys.length cap) ys by rw [HY.out.2.1];exact HY.out.1)
      obtain ⟨p1,p2⟩:=HOg.out.at (k : Int) (by omega) (by rw [HY.out.2.1];omega)
      rw [Int.toNat_natCast] at p1 p2
      have HGB:=As hgb
      clear hgb hgl
      have HP:=As (show AV (wr.setCell ⟨g,k,none⟩ (.int .i64 (iv xs k))) w.heap.size (.slice (some ⟨g,0,none⟩) xs.length cap) (ys.set k (iv xs k)) by have:=HOg.out.put (k : Int) (iv xs k);rw [Int.toNat_natCast,HY.out.2.1] at this;exact this)
      have HW2:=As (HW.out.setCell (p:=⟨g,k,none⟩) HGB.out (.int .i64 (iv xs k)))
      have HT:=As (take_set HY.out.2.2 HY.out.2.1 (Xo hlt))
      have HYL:=As HY.out.2.1
      clear HOg HY
      go_wp2
      go_roundw
      case rel => exact ⟨k + 1,_,by omega,by go_num,⟨HP.out,by rw [List.length_set,HYL.out],HT.out⟩,HW2⟩
      case measure => simp [intOf];omega
    · have HE:=As (show k = xs.length by omega)
      go_wp2
      go_ret
      have hy:=HY.out
      rw [HE.out,List.take_length,List.take_of_length_le (by omega)] at hy
      exact ⟨_,rfl,by rw [← hy.2.2];exact hy.1,HW.out⟩
/-- Two rows of pages of the call's own. -/
def TwoPs (w : World) (base : Nat) (vd vm : Value) (ps qs : List Page) : Prop := ∃ okd okm : Nat → Prop,(∀ k,okd k → okm k → False) ∧ OwnPk w base okd vd ps ∧ OwnPk w base okm vm qs
theorem TwoPs.below {w w1 : World} {base : Nat} {vd vm : Value} {ps qs : List Page} (h : TwoPs w base vd vm ps qs) (hb : Below w.heap.size w w1) : TwoPs w1 base vd vm ps qs:=by
  obtain ⟨okd,okm,h1,h2,h3⟩:=h
  exact ⟨okd,okm,h1,Kd.Br h2 hb,Kd.Br h3 hb⟩
theorem TwoPs.mk {w0 w1 : World} {base : Nat} {vd vm : Value} {ps qs : List Page} (hd : OwnPk w0 base (fun _ => True) vd ps) (hm : OwnPk w1 w0.heap.size (fun _ => True) vm qs) (hb : Below w0.heap.size w0 w1) (hbase : base ≤ w0.heap.size) : TwoPs w1 base vd vm ps qs:=
  ⟨fun k => True ∧ k < w0.heap.size,fun k => w0.heap.size ≤ k,fun k h1 h2 => by omega,Kd.DC hd hb,Kd.EQ (Kd.DN (Kd.Fv hm) (fun k hk => hk.2.1)) hbase⟩
theorem TwoPs.eng {w : World} {base : Nat} {vd vm vl : Value} {e : Eng} (h : TwoPs w base vd vm e.disk e.mem) (hl : OwnRs w base vl e.log) : AU w base vd vm vl e:=⟨h,hl⟩
/-- What two slots hold, once both came up. -/
def Sl2 (i s j t : Nat) (p : Value → Value → World → Prop) (l : Array Bool) (a : Act) (w : World) : Prop:=l.getD i false = true → l.getD j false = true → p (a.tmps.getD s undef) (a.tmps.getD t undef) w
theorem BR {k i s j t d : Nat} {p : Value → Value → World → Prop} (h1 : (d == s) = false) (h2 : (d == t) = false) (h3 : (k == i) = false) (h4 : (k == j) = false) : Keeps (Sl2 i s j t p) k (some d):=fun l a v w => by
  have h1 : d ≠ s:=by simpa using h1
  have h2 : d ≠ t:=by simpa using h2
  have h3 : k ≠ i:=by simpa using h3
  have h4 : k ≠ j:=by simpa using h4
  have e1 : (a.put (some d) v).tmps.getD s undef = a.tmps.getD s undef:=by simp [Act.put,h1]
  have e2 : (a.put (some d) v).tmps.getD t undef = a.tmps.getD t undef:=by simp [Act.put,h2]
  have e3 : (l.setIfInBounds k true).getD i false = l.getD i false:=getD_set_ne false h3
  have e4 : (l.setIfInBounds k true).getD j false = l.getD j false:=getD_set_ne false h4
  rw [Sl2,Sl2,e1,e2,e3,e4]
theorem OM {n i s j t : Nat} {p : Value → Value → World → Prop} {a : Act} {w : World} : Sl2 i s j t p (lsd n []) a w:=fun h => by
  rw [JP] at h
  simp [Array.getD] at h
def zE : Eng:=⟨[], [], [],0,false⟩
/-- All five cells of an engine's variable written anew. -/
abbrev Az (w : World) (g : Nat) (e : Eng) (vd vm vl : Value) : World:=((((w.setCell ⟨g,0,none⟩ vd).setCell ⟨g,1,none⟩ vm).setCell ⟨g,2,none⟩ vl).setCell ⟨g,3,none⟩ (.int .i64 e.safe)).setCell ⟨g,4,none⟩ (.bool e.down)
theorem Ai.Az {w : World} {g : Nat} {q : Eng} {ud um ul : Value} (h : Ai w g q ud um ul) (e : Eng) (vd vm vl : Value) : Ai (Az w g e vd vm vl) g e vd vm vl:=(((((h.set0 vd).set1 vm).set2 vl).Cu e.safe).Xf e.down)
theorem Ai.blk {w : World} {g : Nat} {q : Eng} {ud um ul : Value} (h : Ai w g q ud um ul) : w.heap[g]? = some (.cells #[ud,um,ul, .int .i64 q.safe, .bool q.down] 28 (0,0)):=h
theorem AU.Az {w : World} {b g : Nat} {vd vm vl xd xm xl ud um ul : Value} {e q f : Eng} (h : AU w b vd vm vl e) (hg : Ai w g q ud um ul) : AU (Az w g f xd xm xl) b vd vm vl e:=by
  have n1 : 28 ≠ 81:=by decide
  have n2 : 28 ≠ 3:=by decide
  have n3 : 28 ≠ 98:=by decide
  exact ((((h.set hg.blk n1 n2 n3 0 xd).set (hg.set0 xd).blk n1 n2 n3 1 xm).set ((hg.set0 xd).set1 xm).blk n1 n2 n3 2 xl).set (((hg.set0 xd).set1 xm).set2 xl).blk n1 n2 n3 3 _).set ((((hg.set0 xd).set1 xm).set2 xl).Cu f.safe).blk n1 n2 n3 4 _
theorem Ao {w0 w : World} {g : Nat} (h : Below w0.heap.size w0 w) (hg : w0.heap.size ≤ g) (e : Eng) (vd vm vl : Value) : Below w0.heap.size w0 (Go.Proofs.YtpjmlpmhgfghbaaGreat.Az w g e vd vm vl):=((((h.setCell (p:=⟨g,0,none⟩) hg _).setCell (p:=⟨g,1,none⟩) hg _).setCell (p:=⟨g,2,none⟩) hg _).setCell (p:=⟨g,3,none⟩) hg _).setCell (p:=⟨g,4,none⟩) hg _
set_option maxRecDepth 100000 in
set_option maxHeartbeats 8000000 in
theorem AQ {w0 w : World} {e : Eng} {Ad Am Al : Option Addr} {cd cm cl : Nat} (hd : geo e.disk) (hm : geo e.mem) (hl : e.log.length ≤ 150) (hb : Below w0.heap.size w0 w) (hr : DY w0 e Ad Am Al) : Calls Tryz.prog 38 #[e.val Ad Am Al cd cm cl] w (VW w e):=by
  have HR:=As (hr.up hb)
  have HD:=As hd
  have HM:=As hm
  have HL:=As hl
  clear hr hb hd hm hl
  obtain ⟨w1,hw1⟩ : ∃ w1,w.alloc (e.obox (.slice Ad e.disk.length cd) (.slice Am e.mem.length cm) (.slice Al e.log.length cl)) = w1:=⟨_,rfl⟩
  obtain ⟨w2,hw2⟩ : ∃ w2,w1.alloc (zE.obox (.slice none 0 0) (.slice none 0 0) (.slice none 0 0)) = w2:=⟨_,rfl⟩
  have hz1 : w1.heap.size = w.heap.size + 1:=by rw [← hw1];exact BF _ _
  have hz2 : w2.heap.size = w.heap.size + 2:=by rw [← hw2,BF,hz1]
  have hb12 : Below w1.heap.size w1 w2:=by rw [← hw2];exact Ah (Below.refl _ _) _
  have HB2 : Ac (Below w.heap.size w w2):=⟨by rw [← hw2, ← hw1];exact Ah (Ah (Below.refl _ _) _) _⟩
  have HQ2 : Ac (Ai w2 w.heap.size e (.slice Ad e.disk.length cd) (.slice Am e.mem.length cm) (.slice Al e.log.length cl)):=⟨Ai.up (by rw [← hw1];exact Ai.mk1 _ _ _ _ _) hb12⟩
  have HP2 : Ac (Ai w2 (w.heap.size + 1) zE (.slice none 0 0) (.slice none 0 0) (.slice none 0 0)):=⟨by rw [← hw2, ← hz1];exact Ai.mk1 _ _ _ _ _⟩
  have HW2 : Ac ((w.alloc (e.obox (.slice Ad e.disk.length cd) (.slice Am e.mem.length cm) (.slice Al e.log.length cl))).alloc (zE.obox (.slice none 0 0) (.slice none 0 0) (.slice none 0 0)) = w2):=⟨by rw [hw1,hw2]⟩
  have HZ2:=As hz2
  clear hw1 hw2 hz1 hz2 hb12
  go_enter Tryz.func38,Tryz.ntmps38
  go_wp2
  rw [show (w.alloc (Obj.cells #[Value.slice Ad e.disk.length cd,Value.slice Am e.mem.length cm,Value.slice Al e.log.length cl,Value.int IntKind.i64 e.safe,Value.bool e.down] 28)).alloc (Obj.cells #[Value.slice none 0 0,Value.slice none 0 0,Value.slice none 0 0,Value.int IntKind.i64 0,Value.bool false] 28) = w2 from HW2.out]
  refine AX (fun lx a wx => (Below w.heap.size w wx ∧ w.heap.size + 2 ≤ wx.heap.size ∧ Ai wx w.heap.size e (.slice Ad e.disk.length cd) (.slice Am e.mem.length cm) (.slice Al e.log.length cl) ∧ Ai wx (w.heap.size + 1) zE (.slice none 0 0) (.slice none 0 0) (.slice none 0 0)) ∧ (Sl 2 5 (fun v wx => E9 wx (w.heap.size + 2) v e.disk) lx a wx ∧ (Sl2 2 5 5 8 (fun v u wx => TwoPs wx (w.heap.size + 2) v u e.disk e.mem) lx a wx ∧ Sl 8 11 (fun v wx => OwnRs wx (w.heap.size + 2) v e.log) lx a wx))) 14 rfl (by kernel_rfl) (⟨⟨Ak HB2.out,by have:=HZ2.out;show _ ≤ w2.heap.size;omega,HQ2.out.up (Ak (Below.refl _ _)),HP2.out.up (Ak (Below.refl _ _))⟩,Bc,OM,Bc⟩) (fun HT => ?_)
  refine Ae (i:=0) (v:=?_) HT rfl (by kernel_rfl) rfl (kA Aa (kA (Ab rfl rfl) (kA (BR rfl rfl rfl rfl) (Ab rfl rfl)))) (by rfl) (fun _ _ _ h => h) (fun lx ax wx hS => ?_) ?_;rotate_left;(obtain ⟨⟨-, -,hq, -⟩, -⟩:=hS;have x0:=hq.c0;have x1:=hq.c1;have x2:=hq.c2;have x3:=hq.c3;have x4:=hq.c4;clear hq;go_simp;with_reducible rfl);rotate_left;simp only [sc0,sc1]
  refine Ae (i:=1) (v:=?_) HT rfl (by kernel_rfl) rfl (kA Aa (kA (Ab rfl rfl) (kA (BR rfl rfl rfl rfl) (Ab rfl rfl)))) (by rfl) (fun _ _ _ h => h) (fun lx ax wx hS => ?_) ?_;rotate_left;(obtain ⟨⟨-, -,hq, -⟩, -⟩:=hS;have x0:=hq.c0;have x1:=hq.c1;have x2:=hq.c2;have x3:=hq.c3;have x4:=hq.c4;clear hq;go_simp;with_reducible rfl);rotate_left;simp only [sc0,sc1]
  refine Ae (i:=3) (v:=?_) HT rfl (by kernel_rfl) rfl (kA Aa (kA (Ab rfl rfl) (kA (BR rfl rfl rfl rfl) (Ab rfl rfl)))) (by rfl) (fun _ _ _ h => h) (fun lx ax wx hS => ?_) ?_;rotate_left;(obtain ⟨⟨-, -,hq, -⟩, -⟩:=hS;have x0:=hq.c0;have x1:=hq.c1;have x2:=hq.c2;have x3:=hq.c3;have x4:=hq.c4;clear hq;go_simp;with_reducible rfl);rotate_left;simp only [sc0,sc1]
  refine Ae (i:=4) (v:=?_) HT rfl (by kernel_rfl) rfl (kA Aa (kA (Ab rfl rfl) (kA (BR rfl rfl rfl rfl) (Ab rfl rfl)))) (by rfl) (fun _ _ _ h => h) (fun lx ax wx hS => ?_) ?_;rotate_left;(obtain ⟨⟨-, -,hq, -⟩, -⟩:=hS;have x0:=hq.c0;have x1:=hq.c1;have x2:=hq.c2;have x3:=hq.c3;have x4:=hq.c4;clear hq;go_simp;with_reducible rfl);rotate_left;simp only [sc0,sc1]
  refine Ae (i:=6) (v:=?_) HT rfl (by kernel_rfl) rfl (kA Aa (kA (Ab rfl rfl) (kA (BR rfl rfl rfl rfl) (Ab rfl rfl)))) (by rfl) (fun _ _ _ h => h) (fun lx ax wx hS => ?_) ?_;rotate_left;(obtain ⟨⟨-, -,hq, -⟩, -⟩:=hS;have x0:=hq.c0;have x1:=hq.c1;have x2:=hq.c2;have x3:=hq.c3;have x4:=hq.c4;clear hq;go_simp;with_reducible rfl);rotate_left;simp only [sc0,sc1]
  refine Ae (i:=7) (v:=?_) HT rfl (by kernel_rfl) rfl (kA Aa (kA (Ab rfl rfl) (kA (BR rfl rfl rfl rfl) (Ab rfl rfl)))) (by rfl) (fun _ _ _ h => h) (fun lx ax wx hS => ?_) ?_;rotate_left;(obtain ⟨⟨-, -,hq, -⟩, -⟩:=hS;have x0:=hq.c0;have x1:=hq.c1;have x2:=hq.c2;have x3:=hq.c3;have x4:=hq.c4;clear hq;go_simp;with_reducible rfl);rotate_left;simp only [sc0,sc1]
  refine Ae (i:=9) (v:=?_) HT rfl (by kernel_rfl) rfl (kA Aa (kA (Ab rfl rfl) (kA (BR rfl rfl rfl rfl) (Ab rfl rfl)))) (by rfl) (fun _ _ _ h => h) (fun lx ax wx hS => ?_) ?_;rotate_left;(obtain ⟨⟨-, -,hq, -⟩, -⟩:=hS;have x0:=hq.c0;have x1:=hq.c1;have x2:=hq.c2;have x3:=hq.c3;have x4:=hq.c4;clear hq;go_simp;with_reducible rfl);rotate_left;simp only [sc0,sc1]
  refine Ae (i:=10) (v:=?_) HT rfl (by kernel_rfl) rfl (kA Aa (kA (Ab rfl rfl) (kA (BR rfl rfl rfl rfl) (Ab rfl rfl)))) (by rfl) (fun _ _ _ h => h) (fun lx ax wx hS => ?_) ?_;rotate_left;(obtain ⟨⟨-, -,hq, -⟩, -⟩:=hS;have x0:=hq.c0;have x1:=hq.c1;have x2:=hq.c2;have x3:=hq.c3;have x4:=hq.c4;clear hq;go_simp;with_reducible rfl);rotate_left;simp only [sc0,sc1]
  refine Ae (i:=11) (v:=?_) HT rfl (by kernel_rfl) rfl (kA Aa (kA (Ab rfl rfl) (kA (BR rfl rfl rfl rfl) (Ab rfl rfl)))) (by rfl) (fun _ _ _ h => h) (fun lx ax wx hS => ?_) ?_;rotate_left;(obtain ⟨⟨-, -,hq, -⟩, -⟩:=hS;have x0:=hq.c0;have x1:=hq.c1;have x2:=hq.c2;have x3:=hq.c3;have x4:=hq.c4;clear hq;go_simp;with_reducible rfl);rotate_left;simp only [sc0,sc1]
  refine Ae (i:=12) (v:=?_) HT rfl (by kernel_rfl) rfl (kA Aa (kA (Ab rfl rfl) (kA (BR rfl rfl rfl rfl) (Ab rfl rfl)))) (by rfl) (fun _ _ _ h => h) (fun lx ax wx hS => ?_) ?_;rotate_left;(obtain ⟨⟨-, -,hq, -⟩, -⟩:=hS;have x0:=hq.c0;have x1:=hq.c1;have x2:=hq.c2;have x3:=hq.c3;have x4:=hq.c4;clear hq;go_simp;with_reducible rfl);rotate_left;simp only [sc0,sc1]
  refine C9 (i:=2) (f:=49) (args:=#[.slice Ad e.disk.length cd]) (fun v => ∃ A1 c1,v = .slice A1 e.disk.length c1) rfl (by kernel_rfl) rfl Tryz.func49 (by kernel_rfl) rfl rfl (by rfl) (by simp only [List.map_toArray,List.map_cons,List.map_nil];rfl) (fun wx hS => (Ez (Gr HD.out) (by have:=HD.out.1;omega) hS.1.1 HR.out.d).mono (by rintro x w6 ⟨v,rfl,ho,hb⟩;obtain ⟨A1,c1,rfl, -, -⟩:=Kd.Cn ho;exact ⟨_,rfl,⟨A1,c1,rfl⟩,⟨bj hS.1.1 hb,Nat.le_trans hS.1.2.1 hb.size,hS.1.2.2.1.up hb,hS.1.2.2.2.up hb⟩,fun _ => Kd.EQ ho hS.1.2.1,fun _ h => (AL h (by kernel_rfl)).elim,fun h => (AL h (by kernel_rfl)).elim⟩)) (fun vx hg => ?_);simp only [sc0,sc1]
  obtain ⟨Bd,dd,rfl⟩:=hg
  refine C9 (i:=5) (f:=49) (args:=#[.slice Am e.mem.length cm]) (fun v => ∃ A1 c1,v = .slice A1 e.mem.length c1) rfl (by kernel_rfl) rfl Tryz.func49 (by kernel_rfl) rfl rfl (by rfl) (by simp only [List.map_toArray,List.map_cons,List.map_nil];rfl) (fun wx hS => (Ez (Gr HM.out) (by have:=HM.out.1;omega) hS.1.1 HR.out.m).mono (by rintro x w6 ⟨v,rfl,ho,hb⟩;obtain ⟨A1,c1,rfl, -, -⟩:=Kd.Cn ho;exact ⟨_,rfl,⟨A1,c1,rfl⟩,⟨bj hS.1.1 hb,Nat.le_trans hS.1.2.1 hb.size,hS.1.2.2.1.up hb,hS.1.2.2.2.up hb⟩,fun _ => Kd.Br (hS.2.1 (by kernel_rfl)) hb,fun _ _ => TwoPs.mk (hS.2.1 (by kernel_rfl)) ho hb hS.1.2.1,fun h => (AL h (by kernel_rfl)).elim⟩)) (fun vx hg => ?_);simp only [sc0,sc1]
  obtain ⟨Bm,dm,rfl⟩:=hg
  refine C9 (i:=8) (f:=90) (args:=#[.slice Al e.log.length cl]) (fun v => ∃ A1 c1,v = .slice A1 e.log.length c1) rfl (by kernel_rfl) rfl Tryz.func90 (by kernel_rfl) rfl rfl (by rfl) (by simp only [List.map_toArray,List.map_cons,List.map_nil];rfl) (fun wx hS => (LF HL.out hS.1.1 HR.out.l).mono (by rintro x w6 ⟨v,rfl,ho,hb⟩;obtain ⟨A1,c1,rfl, -, -⟩:=Kd.DI ho;exact ⟨_,rfl,⟨A1,c1,rfl⟩,⟨bj hS.1.1 hb,Nat.le_trans hS.1.2.1 hb.size,hS.1.2.2.1.up hb,hS.1.2.2.2.up hb⟩,fun _ => Kd.Br (hS.2.1 (by kernel_rfl)) hb,fun _ _ => (hS.2.2.1 (by kernel_rfl) (by kernel_rfl)).below hb,fun _ => Kd.Gu ho hS.1.2.1⟩)) (fun vx hg => ?_);simp only [sc0,sc1]
  obtain ⟨Bl,dl,rfl⟩:=hg
  refine Ae (i:=13) (v:=?_) HT rfl (by kernel_rfl) rfl (kA Aa (kA (Ab rfl rfl) (kA (BR rfl rfl rfl rfl) (Ab rfl rfl)))) (by rfl) (fun _ _ _ h => h) (fun lx ax wx hS => ?_) ?_;rotate_left;(go_simp;with_reducible rfl);rotate_left;simp only [sc0,sc1]
  refine Cg (i:=14) (by kernel_rfl) rfl (fun wx hS => ?_)
  obtain ⟨⟨h1,h2, -,hy⟩, -,hs2,hs3⟩:=hS
  have ho : AU wx (w.heap.size + 2) (.slice Bd e.disk.length dd) (.slice Bm e.mem.length dm) (.slice Bl e.log.length dl) e:=TwoPs.eng (hs2 (by kernel_rfl) (by kernel_rfl)) (hs3 (by kernel_rfl))
  clear hs2 hs3
  have y0:=hy.c0
  have y1:=hy.c1
  have y2:=hy.c2
  have y3:=hy.c3
  have y4:=hy.c4
  have f0:=hy.frz 0
  have f1:=hy.frz 1
  have f2:=hy.frz 2
  have f3:=hy.frz 3
  have f4:=hy.frz 4
  refine BJ (w1:=Go.Proofs.YtpjmlpmhgfghbaaGreat.Az wx (w.heap.size + 1) e (.slice Bd e.disk.length dd) (.slice Bm e.mem.length dm) (.slice Bl e.log.length dl)) rfl (by rfl) (by go_simp) ?_
  have hy2:=hy.Az e (.slice Bd e.disk.length dd) (.slice Bm e.mem.length dm) (.slice Bl e.log.length dl)
  have ho2:=ho.Az (f:=e) (xd:=.slice Bd e.disk.length dd) (xm:=.slice Bm e.mem.length dm) (xl:=.slice Bl e.log.length dl) hy
  have h3:=Ao (g:=w.heap.size + 1) h1 (by omega) e (.slice Bd e.disk.length dd) (.slice Bm e.mem.length dm) (.slice Bl e.log.length dl)
  have z0:=hy2.c0
  have z1:=hy2.c1
  have z2:=hy2.c2
  have z3:=hy2.c3
  have z4:=hy2.c4
  refine BQ (by kernel_rfl) ?_
  go_wp2
  exact bodyPost_ret (v:=e.ag (.slice Bd e.disk.length dd) (.slice Bm e.mem.length dm) (.slice Bl e.log.length dl)) (by simp [results,Tryz.results38,go_sem,z0,z1,z2,z3,z4]) rfl ⟨_,_,_,rfl,ho2.lower (by omega),h3⟩
section
variable {ops : Array Oper} {rest : List Oper} {o : Oper} {a : Act} {Q : Exit → Act → World → Prop}
end
/-- Both tables' pages, of a call's own, apart. -/
def N7 (w : World) (b : Nat) (vd vm : Value) (ps qs : List Page) : Prop := ∃ okd okm : Nat → Prop,(∀ k,okd k → okm k → False) ∧ OwnPk w b okd vd ps ∧ OwnPk w b okm vm qs
theorem FX {w : World} {b g : Nat} {ok : Nat → Prop} {v ud um ul : Value} {ps : List Page} {q : Eng} (h : OwnPk w b ok v ps) (hq : Ai w g q ud um ul) (j : Nat) (u : Value) : OwnPk (w.setCell ⟨g,j,none⟩ u) b ok v ps:=
  Kd.Ro h hq (fun q hq => by rcases L9 q hq with rfl | rfl <;> decide) j u
theorem N7.set {w : World} {b g : Nat} {vd vm ud um ul : Value} {ps qs : List Page} {q : Eng} (h : N7 w b vd vm ps qs) (hq : Ai w g q ud um ul) (j : Nat) (u : Value) : N7 (w.setCell ⟨g,j,none⟩ u) b vd vm ps qs:=by
  obtain ⟨okd,okm,h1,h2,h3⟩:=h
  exact ⟨okd,okm,h1,FX h2 hq j u,FX h3 hq j u⟩
theorem N7.below {w w1 : World} {b : Nat} {vd vm : Value} {ps qs : List Page} (h : N7 w b vd vm ps qs) (hb : Below w.heap.size w w1) : N7 w1 b vd vm ps qs:=by
  obtain ⟨okd,okm,h1,h2,h3⟩:=h
  exact ⟨okd,okm,h1,Kd.Br h2 hb,Kd.Br h3 hb⟩
theorem N7.mk2 {w5 w6 : World} {b : Nat} {vd vm : Value} {ps qs : List Page} (hd : E9 w5 b vd ps) (hm : E9 w6 w5.heap.size vm qs) (hb : Below w5.heap.size w5 w6) (hle : b ≤ w5.heap.size) : N7 w6 b vd vm ps qs:=
  ⟨fun k => True ∧ k < w5.heap.size,fun k => w5.heap.size ≤ k,fun k h1 h2 => by omega,Kd.DC hd hb,Kd.EQ (Kd.DN (Kd.Fv hm) (fun k hk => hk.2.1)) hle⟩
theorem AU.Gc {w : World} {b g : Nat} {vd vm vl ud um ul : Value} {e q : Eng} (h : AU w b vd vm vl e) (hq : Ai w g q ud um ul) (j : Nat) (u : Value) : AU (w.setCell ⟨g,j,none⟩ u) b vd vm vl e:=h.set hq (by decide) (by decide) (by decide) j u
theorem Ea.far {w : World} {g : Nat} {e : Eng} {vd vm vl : Value} (h : Ea w g e vd vm vl) {b : Nat} (hne : b ≠ g) (j : Nat) (u : Value) : Ea (w.setCell ⟨b,j,none⟩ u) g e vd vm vl:=(Below.heap_setCell w ⟨b,j,none⟩ u g (Ne.symm hne)).trans h
end Go.Proofs.YtpjmlpmhgfghbaaGreat
/- The statements' marks written, and held: records. -/
namespace Go.Proofs.YtpjmlpmhgfghbaaGreat
open Go.RowKit Go.Proofs.YtpjmlpmhgfghbaaGreatW.PrintWords Go.Proofs.YtpjmlpmhgfghbaaGreatW.PrintLast Go.Proofs.YtpjmlpmhgfghbaaGreatW.PrintMore
def Mk (w : World) (e : Ending) (w' : World) : Prop:=e = .returned (.bool true) ∧ Below w.heap.size w w'
theorem Ff (x : Int) : (x != x) = false:=by simp
set_option maxHeartbeats 4000000 in
theorem LA {w0 w1 w : World} {A B : Option Addr} {c d : Nat} {xs : List Int} (hb : Below w0.heap.size w0 w) (hr : Kd.C (Kd.int .i64) w0 A xs.length xs) (hb1 : Below w1.heap.size w1 w) (hr2 : Kd.C (Kd.int .i64) w1 B xs.length xs) : Calls Tryz.prog 122 #[.slice A xs.length c, .slice B xs.length d] w (Mk w):=by
  have HR:=As (Bu hr hb)
  have HR2:=As (Bu hr2 hb1)
  have hm:=(CJ hr).2
  have hne:=Ff xs.length
  clear hr hb hr2 hb1
  go_enter Tryz.func122,Tryz.ntmps122
  go_wp2
  go_loopw [5] (fun i wr => ∃ k : Nat,k ≤ xs.length ∧ i = .int .i64 (k : Int) ∧ Ac (Below w.heap.size w wr)) (fun i _ => (xs.length - intOf i).toNat)
  case atStart => exact ⟨0,Nat.zero_le _,rfl,⟨Below.refl _ _⟩⟩
  case round =>
    obtain ⟨k,hk,rfl,HW⟩:=hrel
    by_cases hlt : k < xs.length
    · obtain ⟨ad,rfl,g0⟩:=Dg (Bu HR.out HW.out) k hlt
      obtain ⟨bd,rfl,h0⟩:=Dg (Bu HR2.out HW.out) k hlt
      have G0:=As g0
      have H0:=As h0
      have hni:=Ff (iv xs k)
      clear g0 h0
      go_wp2
      refine Bo (fun w' => Below wr.heap.size wr w') rfl rfl (by kernel_rfl) (Ak (Below.refl _ _)) (fun HT => ?_)
      repeat (first
        | (refine BU (fun wx hS => ?_))
        | (refine BK HT rfl (by rfl) (fun _ _ _ h => h) ?_;simp only [sc0,sc1])
        | (refine BS (v:=?_) HT rfl (by rfl) (fun _ _ _ h => h) (fun wx hS => ?_) ?_;rotate_left;(have g0:=bc hS G0.out;have h0:=bc hS H0.out;go_simp;with_reducible rfl);rotate_left;simp only [sc0,sc1]))
      have HX:=As (bj HW.out hS)
      clear hS
      go_wp2
      go_roundw
      case rel => exact ⟨k + 1,by omega,by go_num,HX⟩
      case measure => simp [intOf];omega
    · have HE:=As (show k = xs.length by omega)
      go_wp2
      go_ret
      exact ⟨rfl,HW.out⟩
set_option maxRecDepth 100000 in
set_option maxHeartbeats 4000000 in
theorem PO {w0 w1 w : World} {A B : Option Addr} {c d : Nat} {p : Page} (hb : Below w0.heap.size w0 w) (hr : Kd.C (Kd.int .i64) w0 A p.vals.length p.vals) (hb1 : Below w1.heap.size w1 w) (hr2 : Kd.C (Kd.int .i64) w1 B p.vals.length p.vals) : Calls Tryz.prog 62 #[p.val A c,p.val B d] w (Mk w):=by
  have HR:=As (Bu hr hb)
  have HR2:=As (Bu hr2 hb1)
  have HW:=As (bj (PW w p A c) ((Below.refl _ _).alloc (Nat.le_refl _) (p.box B d)))
  have h1:=Ff p.lsn
  have h2:=Ff p.owner
  clear hr hb hr2 hb1
  go_enter Tryz.func62,Tryz.ntmps62
  go_wp2_with (first | (go_at_call 122;refine (LA HW.out HR.out HW.out HR2.out).mono ?_;rintro x w9 ⟨rfl,hb9⟩;have HX:=As (bj HW.out hb9);clear hb9))
  go_ret
  exact ⟨rfl,HX.out⟩
set_option maxRecDepth 100000 in
set_option maxHeartbeats 4000000 in
theorem Hw {w0 w1 w : World} {A B : Option Addr} {c d : Nat} {xs : List Page} (hb : Below w0.heap.size w0 w) (hr : Kd.C Dn w0 A xs.length xs) (hb1 : Below w1.heap.size w1 w) (hr2 : Kd.C Dn w1 B xs.length xs) : Calls Tryz.prog 23 #[.slice A xs.length c, .slice B xs.length d] w (Mk w):=by
  have HR:=As (Bu hr hb)
  have HR2:=As (Bu hr2 hb1)
  have hm:=(CJ hr).2
  have hne:=Ff xs.length
  clear hr hb hr2 hb1
  go_enter Tryz.func23,Tryz.ntmps23
  go_wp2
  go_loopw [5] (fun i wr => ∃ k : Nat,k ≤ xs.length ∧ i = .int .i64 (k : Int) ∧ Ac (Below w.heap.size w wr)) (fun i _ => (xs.length - intOf i).toNat)
  case atStart => exact ⟨0,Nat.zero_le _,rfl,⟨Below.refl _ _⟩⟩
  case round =>
    obtain ⟨k,hk,rfl,HW⟩:=hrel
    by_cases hlt : k < xs.length
    · obtain ⟨ad,A2,c2,rfl,QP, -,g2⟩:=EP (Bu HR.out HW.out) k hlt
      obtain ⟨bd,B2,d2,rfl,QP2, -,h2⟩:=EP (Bu HR2.out HW.out) k hlt
      have G2:=As g2
      have H2:=As h2
      have HQ:=As QP
      have HQ2:=As QP2
      clear g2 h2 QP QP2
      go_wp2
      refine Bo (fun w' => Below wr.heap.size wr w') rfl rfl (by kernel_rfl) (Ak (Below.refl _ _)) (fun HT => ?_)
      repeat (first
        | (refine BU (fun wx hS => ?_))
        | ((with_reducible refine Bw (f:=62) rfl ?_);refine Bz (v:=.bool true) (args:=#[(pg xs k).val A2 c2,(pg xs k).val B2 d2]) HT rfl Tryz.func62 (by kernel_rfl) rfl rfl (by rfl) (fun _ _ _ h => h) (by simp only [List.map_toArray,List.map_cons,List.map_nil];rfl) (fun wx hS => (PO hS G2.out hS H2.out).mono fun _ _ h => ⟨h.1,bj hS h.2⟩) ?_;simp only [sc0,sc1])
        | (refine BK HT rfl (by rfl) (fun _ _ _ h => h) ?_;simp only [sc0,sc1])
        | (refine BS (v:=?_) HT rfl (by rfl) (fun _ _ _ h => h) (fun wx hS => ?_) ?_;rotate_left;(obtain ⟨x0,x1,x2⟩:=HQ.out.up hS;obtain ⟨y0,y1,y2⟩:=HQ2.out.up hS;go_simp;with_reducible rfl);rotate_left;simp only [sc0,sc1]))
      have HX:=As (bj HW.out hS)
      clear hS
      go_wp2
      go_roundw
      case rel => exact ⟨k + 1,by omega,by go_num,HX⟩
      case measure => simp [intOf];omega
    · have HE:=As (show k = xs.length by omega)
      go_wp2
      go_ret
      exact ⟨rfl,HW.out⟩
theorem DY.d' {w : World} {e : Eng} {Ad Am Al : Option Addr} (h : DY w e Ad Am Al) : Kd.C Dn w Ad e.disk.length e.disk:=h.d
/-- What holds as long as operation i did not come up. -/
def Un (i : Nat) (p : World → Prop) (l : Array Bool) (_a : Act) (w : World) : Prop:=l.getD i false = false → p w
theorem Ag {j i : Nat} {d : Option Nat} {p : World → Prop} (h : (j == i) = false) : Keeps (Un i p) j d:=fun l a v w => by
  have h : j ≠ i:=by simpa using h
  have e : (l.setIfInBounds j true).getD i false = l.getD i false:=getD_set_ne false h
  rw [Un,Un,e]
/-- What holds as long as operation i7 did not come up; of slot s, once i6 did. -/
def Pre (i7 i6 s : Nat) (p : World → Prop) (q : Value → World → Prop) (l : Array Bool) (a : Act) (w : World) : Prop:=l.getD i7 false = false → p w ∧ (l.getD i6 false = true → q (a.tmps.getD s undef) w)
theorem Au {j i7 i6 s d : Nat} {p : World → Prop} {q : Value → World → Prop} (h1 : (d == s) = false) (h2 : (j == i6) = false) (h3 : (j == i7) = false) : Keeps (Pre i7 i6 s p q) j (some d):=fun l a v w => by
  have h1 : d ≠ s:=by simpa using h1
  have h2 : j ≠ i6:=by simpa using h2
  have h3 : j ≠ i7:=by simpa using h3
  have e1 : (a.put (some d) v).tmps.getD s undef = a.tmps.getD s undef:=by simp [Act.put,h1]
  have e2 : (l.setIfInBounds j true).getD i6 false = l.getD i6 false:=getD_set_ne false h2
  have e3 : (l.setIfInBounds j true).getD i7 false = l.getD i7 false:=getD_set_ne false h3
  rw [Pre,Pre,e1,e2,e3]
theorem FM {n i7 i6 s : Nat} {p : World → Prop} {q : Value → World → Prop} {a : Act} {w : World} (h : p w) : Pre i7 i6 s p q (lsd n []) a w:=fun _ => ⟨h,fun h => by
  rw [JP] at h
  simp [Array.getD] at h⟩
theorem wpOp_step {P : Program} {ops : Array Oper} {Q : Exit → Act → World → Prop} {K : Act → World → Prop} {i : Nat} {o : Oper} {a : Act} {w : World} (hi : ops.toList[i]? = some o) (h : if Region.wanted o (yielded ops a.tmps) = true then Oper.wp P o a w K Q else K (a.put o.dst undef) w) : wpOp P ops Q i K a w:=by
  have hi' : ops[i]? = some o:=by rw [← Array.getElem?_toList];exact hi
  unfold Go.wpOp
  simp only [hi']
  split
  · rename_i hw
    rw [if_pos hw] at h
    exact .inl h
  · rename_i hw
    rw [if_neg hw] at h
    exact h
theorem FU : ∀ q,q ∈ 81 :: Dn.E → q ≠ 98:=by decide
theorem I6 {w : World} {b : Nat} {v : Value} {l : List Rec} (h : OwnRs w b v l) : ∀ k,v.ownBlock = some k → ∃ cells,w.heap[k]? = some (.cells cells 98 (0,0)):=fun k hk => by
  obtain ⟨inner,ho⟩:=Kd.Kq h
  exact Dr ho k hk
theorem AU.logged {w w1 : World} {base : Nat} {vd vm vl v1 : Value} {e : Eng} {l' : List Rec} (h : AU w base vd vm vl e) (hg : w.grownBy w1 vl.ownBlock) (hl : OwnRs w1 base v1 l') : AU w1 base vd vm v1 { e with log:=l' }:=by
  obtain ⟨⟨okd,okm,ha,hx,hy⟩,hz⟩:=h
  exact ⟨⟨okd,okm,ha,Kd.Nl hx (I6 hz) FU hg,Kd.Nl hy (I6 hz) FU hg⟩,hl⟩
theorem Ai.Xk {w : World} {b g : Nat} {q : Eng} {ud um ul v : Value} {l : List Rec} (h : Ai w g q ud um ul) (hl : OwnRs w b v l) : some g ≠ v.ownBlock:=fun e => by
  obtain ⟨cells,hc⟩:=I6 hl g e.symm
  have h1 : w.heap[g]? = _:=h
  rw [hc] at h1
  injection h1 with h1
  injection h1 with _ h2
  exact absurd h2 (by decide)
theorem Ai.grown {w w1 : World} {b g : Nat} {q : Eng} {ud um ul v : Value} {l : List Rec} (h : Ai w g q ud um ul) (hl : OwnRs w b v l) (hg : w.grownBy w1 v.ownBlock) : Ai w1 g q ud um ul:=(hg.block g h.lt (h.Xk hl)).trans h
theorem S9 {w w1 : World} {row : Option Nat} (hg : w.grownBy w1 row) : Kept w w1 (fun k => some k = row):=⟨hg.size,fun k hk hn => hg.block k hk hn⟩
theorem Vu (w : World) (g j : Nat) (u : Value) : Kept w (w.setCell ⟨g,j,none⟩ u) (fun k => k = g):=⟨by simp,fun k _ hn => Below.heap_setCell w ⟨g,j,none⟩ u k hn⟩
theorem Rw {W : World} {B : Nat} {r : Rec} (h : FZ W ⟨B,0,none⟩ r) : Kd.C Ca W (some ⟨B,0,none⟩) 1 [r]:=by
  obtain ⟨c0,c1,c2,c3,c4,c5,c6,c7⟩:=h
  simp only [Nat.zero_add] at c1 c2 c3 c4 c5 c6 c7
  refine ⟨rfl,by omega,fun _ => ⟨⟨B,0,none⟩,rfl,fun j p hj => ?_⟩⟩
  obtain ⟨rfl,rfl⟩ : j = 0 ∧ p = r:=by
    cases j with
    | zero => simp at hj;exact ⟨rfl,hj.symm⟩
    | succ j => simp at hj
  refine ⟨p.cells,rfl,Kd.K_of_M _ (TH W 0 (fun _ => True) p),fun i u hi => ?_⟩
  have hlt : i < 8:=(List.getElem?_eq_some_iff.1 hi).1
  have hadd : (⟨B,0,none⟩ : Addr).add (0 * Ca.sz + i) = ⟨B,i,none⟩:=by
    unfold Addr.add
    split
    · rename_i h0
      simp only [Nat.zero_mul,Nat.zero_add] at h0
      rw [h0]
    · simp
  rw [hadd]
  match i,hlt,hi with
  | 0,_,hi => cases hi;exact c0
  | 1,_,hi => cases hi;exact c1
  | 2,_,hi => cases hi;exact c2
  | 3,_,hi => cases hi;exact c3
  | 4,_,hi => cases hi;exact c4
  | 5,_,hi => cases hi;exact c5
  | 6,_,hi => cases hi;exact c6
  | 7,_,hi => cases hi;exact c7
/-- A record, its place ahead told. -/
def Dl (r : Rec) (k : Int) : Rec:={ r with prev:=k }
def Df (w : World) (g : Nat) (r : Rec) : Prop:=w.heap[g]? = some (.cells #[.int .i64 r.kind, .int .i64 r.tx, .int .i64 r.page, .int .i64 r.slot, .int .i64 r.old, .int .i64 r.new, .int .i64 r.prev, .int .i64 r.next] 98 (0,0))
theorem Df.mk1 (w : World) (r : Rec) : Df (w.alloc r.box) w.heap.size r:=by
  show (w.heap.push _)[w.heap.size]? = _
  simp
theorem Df.lt {w : World} {g : Nat} {r : Rec} (h : Df w g r) : g < w.heap.size:=(Array.getElem?_eq_some_iff.1 h).1
theorem Df.up {w w1 : World} {g : Nat} {r : Rec} (h : Df w g r) (hb : Below w.heap.size w w1) : Df w1 g r:=(hb.block g h.lt).trans h
theorem Df.at {w : World} {g : Nat} {r : Rec} (h : Df w g r) : FZ w ⟨g,0,none⟩ r:=Blk.recAt (t:=98) h
theorem Df.frz {w : World} {g : Nat} {r : Rec} (h : Df w g r) (k : Nat) : w.frozen? ⟨g,k,none⟩ = false:=by unfold Df at h;simp [World.frozen?,h]
theorem Df.Ob {w : World} {g : Nat} {r : Rec} (h : Df w g r) (k : Int) : Df (w.setCell ⟨g,6,none⟩ (.int .i64 k)) g (Dl r k):=heap_setCell_same h _
/-- An engine in block g is E now; all else that there was, but its log's row, is as it was. -/
def XD (w0 w : World) (g : Nat) (vd vm vl : Value) (E : Eng) (n : Int) (x : Ending) (w' : World) : Prop := ∃ vl',x = .returned (.int .i64 n) ∧ Ai w' g E vd vm vl' ∧ AU w' w0.heap.size vd vm vl' E ∧ Below w0.heap.size w0 w' ∧ Kept w w' (fun k => k = g ∨ some k = vl.ownBlock)
set_option maxRecDepth 100000 in
set_option maxHeartbeats 8000000 in
theorem K3 {w0 w : World} {g : Nat} {vd vm vl : Value} {e : Eng} (r : Rec) (hl : e.log.length ≤ 150) (hb : Below w0.heap.size w0 w) (hg : w0.heap.size ≤ g) (hq : Ai w g e vd vm vl) (hr : AU w w0.heap.size vd vm vl e) : Calls Tryz.prog 111 #[ptr g,r.val] w (XD w0 w g vd vm vl { e with log:=e.log ++ [Dl r (Aj e.log r.tx e.log.length)] } ((e.log.length : Int) + 1)):=by
  obtain ⟨Ad,cd,Am,cm,Al,cl,rfl,rfl,rfl,hcl,hrd⟩:=hr.reads
  have HR:=As hrd
  have HO:=As hr
  have HB:=As hb
  have HQ:=As hq
  have HL:=As hl
  have HG:=As hg
  obtain ⟨w1,hw1⟩ : ∃ w1,w.alloc r.box = w1:=⟨_,rfl⟩
  have HW1:=As hw1
  have HB1 : Ac (Below w.heap.size w w1):=⟨by rw [← hw1];exact Ah (Below.refl _ _) _⟩
  have HRB : Ac (Df w1 w.heap.size r):=⟨by rw [← hw1];exact Df.mk1 _ _⟩
  have hgl : g < w.heap.size:=hq.lt
  have hne : w.heap.size ≠ g:=by omega
  obtain ⟨ln,hln⟩ : ∃ ln : Nat,Aj e.log r.tx e.log.length = ln:=⟨_,rfl⟩
  have HLN:=As hln
  rw [hln]
  clear hw1 hrd hr hb hq hl hg hln
  have hq1:=HQ.out.up HB1.out
  have x2:=hq1.c2
  have r1:=HRB.out.at.c1
  simp only [Nat.zero_add] at r1
  clear hq1
  go_enter Tryz.func111,Tryz.ntmps111
  go_wp2
  rw [HW1.out]
  refine AX (fun lx a wx => Below w1.heap.size w1 wx) 8 rfl (by kernel_rfl) (Ak (Below.refl _ _)) (fun HT => ?_)
  refine Ae (i:=0) (v:=?_) HT rfl (by kernel_rfl) rfl (Aa) (by rfl) (fun _ _ _ h => h) (fun lx ax wx hS => ?_) ?_;rotate_left;(replace x2:=bc hS x2;replace r1:=bc hS r1;go_simp;with_reducible rfl);rotate_left;simp only [sc0,sc1]
  refine Ae (i:=1) (v:=?_) HT rfl (by kernel_rfl) rfl (Aa) (by rfl) (fun _ _ _ h => h) (fun lx ax wx hS => ?_) ?_;rotate_left;(replace x2:=bc hS x2;replace r1:=bc hS r1;go_simp;with_reducible rfl);rotate_left;simp only [sc0,sc1]
  refine Ae (i:=2) (v:=?_) HT rfl (by kernel_rfl) rfl (Aa) (by rfl) (fun _ _ _ h => h) (fun lx ax wx hS => ?_) ?_;rotate_left;(replace x2:=bc hS x2;replace r1:=bc hS r1;go_simp;with_reducible rfl);rotate_left;simp only [sc0,sc1]
  refine Ae (i:=3) (v:=?_) HT rfl (by kernel_rfl) rfl (Aa) (by rfl) (fun _ _ _ h => h) (fun lx ax wx hS => ?_) ?_;rotate_left;(replace x2:=bc hS x2;replace r1:=bc hS r1;go_simp;with_reducible rfl);rotate_left;simp only [sc0,sc1]
  refine Ae (i:=4) (v:=?_) HT rfl (by kernel_rfl) rfl (Aa) (by rfl) (fun _ _ _ h => h) (fun lx ax wx hS => ?_) ?_;rotate_left;(replace x2:=bc hS x2;replace r1:=bc hS r1;go_simp;with_reducible rfl);rotate_left;simp only [sc0,sc1]
  refine Ae (i:=5) (v:=?_) HT rfl (by kernel_rfl) rfl (Aa) (by rfl) (fun _ _ _ h => h) (fun lx ax wx hS => ?_) ?_;rotate_left;(replace x2:=bc hS x2;replace r1:=bc hS r1;go_simp;with_reducible rfl);rotate_left;simp only [sc0,sc1]
  refine Jq (i:=6) (f:=107) (v:=.int .i64 ln) (args:=#[.slice Al e.log.length cl, .int .i64 r.tx]) HT rfl (by kernel_rfl) rfl Tryz.func107 (by kernel_rfl) rfl rfl (Aa) (by rfl) (fun _ _ _ h => h) (by simp only [List.map_toArray,List.map_cons,List.map_nil];rfl) (fun lx ax wx hS => (HLN.out ▸ IJ r.tx (bj HB1.out hS) HR.out.l : Calls Tryz.prog 107 #[.slice Al e.log.length cl, .int .i64 r.tx] wx fun e w' => e = .returned (.int .i64 ln) ∧ Below wx.heap.size wx w').mono fun _ _ h => ⟨h.1,bj hS h.2⟩) ?_;simp only [sc0,sc1]
  refine Ae (i:=7) (v:=?_) HT rfl (by kernel_rfl) rfl (Aa) (by rfl) (fun _ _ _ h => h) (fun lx ax wx hS => ?_) ?_;rotate_left;(go_simp;with_reducible rfl);rotate_left;simp only [sc0,sc1]
  refine Cg (i:=8) (by kernel_rfl) rfl (fun wx hS => ?_)
  have hrb:=HRB.out.up hS
  have p6:=hrb.at.c6
  simp only [Nat.zero_add] at p6
  have f6:=hrb.frz 6
  refine BJ (w1:=wx.setCell ⟨w.heap.size,6,none⟩ (.int .i64 ln)) rfl (by rfl) (by go_simp) ?_
  refine BQ (by kernel_rfl) ?_
  obtain ⟨w2,hw2⟩ : ∃ w2,wx.setCell ⟨w.heap.size,6,none⟩ (.int .i64 ln) = w2:=⟨_,rfl⟩
  have hb2 : Below w.heap.size w w2:=by rw [← hw2];exact (bj HB1.out hS).setCell (p:=⟨w.heap.size,6,none⟩) (Nat.le_refl _) _
  have hrb2 : Df w2 w.heap.size (Dl r ln):=by rw [← hw2];exact hrb.Ob ln
  rw [hw2]
  have HB2:=As hb2
  have HRB2:=As hrb2
  have HQ2:=As (HQ.out.up hb2)
  have HO2:=As (HO.out.below hb2)
  clear hS hrb p6 f6 hw2 hb2 hrb2 x2 r1
  go_wp2
  obtain ⟨l',hl'⟩ : ∃ l',e.log ++ [Dl r ln] = l':=⟨_,rfl⟩
  have HLL:=As hl'
  have hll : l'.length = e.log.length + 1:=by rw [← hl'];simp
  have HLE:=As hll
  have hB02 : Below w0.heap.size w0 w2:=bj HB.out HB2.out
  have HB02:=As hB02
  clear hl' hll hB02
  refine AX (fun lx a wx => (Below w0.heap.size w0 wx ∧ Kept w2 wx (fun k => some k = (Value.slice Al e.log.length cl).ownBlock) ∧ Ai wx g e (.slice Ad e.disk.length cd) (.slice Am e.mem.length cm) (.slice Al e.log.length cl) ∧ Df wx w.heap.size (Dl r ln)) ∧ (Pre 7 6 19 (fun wx => Below w2.heap.size w2 wx) (fun v wx => ∃ B,v = .slice (some ⟨B,0,none⟩) 1 1 ∧ Kd.C Ca wx (some ⟨B,0,none⟩) 1 [Dl r ln]) lx a wx ∧ Sl 7 20 (fun v wx => ∃ A1 c1,v = .slice A1 (e.log.length + 1) c1 ∧ AU wx w0.heap.size (.slice Ad e.disk.length cd) (.slice Am e.mem.length cm) v { e with log:=l' }) lx a wx)) 8 rfl (by kernel_rfl) (⟨⟨Ak HB02.out,Kept.of_below (Ak (Below.refl _ _)) _,HQ2.out.up (Ak (Below.refl _ _)),HRB2.out.up (Ak (Below.refl _ _))⟩,FM (Ak (Below.refl _ _)),Bc⟩) (fun HT => ?_)
  refine Ae (i:=0) (v:=?_) HT rfl (by kernel_rfl) rfl (kA Aa (kA (Au rfl rfl rfl) (Ab rfl rfl))) (by rfl) (fun _ _ _ h => h) (fun lx ax wx hS => ?_) ?_;rotate_left;(obtain ⟨⟨-, -,hq,hrb⟩, -⟩:=hS;have x2:=hq.c2;obtain ⟨z0,z1,z2,z3,z4,z5,z6,z7⟩:=hrb.at;simp only [Nat.zero_add] at z1 z2 z3 z4 z5 z6 z7;clear hq hrb;go_simp;with_reducible rfl);rotate_left;simp only [sc0,sc1]
  refine Ae (i:=1) (v:=?_) HT rfl (by kernel_rfl) rfl (kA Aa (kA (Au rfl rfl rfl) (Ab rfl rfl))) (by rfl) (fun _ _ _ h => h) (fun lx ax wx hS => ?_) ?_;rotate_left;(obtain ⟨⟨-, -,hq,hrb⟩, -⟩:=hS;have x2:=hq.c2;obtain ⟨z0,z1,z2,z3,z4,z5,z6,z7⟩:=hrb.at;simp only [Nat.zero_add] at z1 z2 z3 z4 z5 z6 z7;clear hq hrb;go_simp;with_reducible rfl);rotate_left;simp only [sc0,sc1]
  refine Ae (i:=2) (v:=?_) HT rfl (by kernel_rfl) rfl (kA Aa (kA (Au rfl rfl rfl) (Ab rfl rfl))) (by rfl) (fun _ _ _ h => h) (fun lx ax wx hS => ?_) ?_;rotate_left;(obtain ⟨⟨-, -,hq,hrb⟩, -⟩:=hS;have x2:=hq.c2;obtain ⟨z0,z1,z2,z3,z4,z5,z6,z7⟩:=hrb.at;simp only [Nat.zero_add] at z1 z2 z3 z4 z5 z6 z7;clear hq hrb;go_simp;with_reducible rfl);rotate_left;simp only [sc0,sc1]
  refine Ae (i:=3) (v:=?_) HT rfl (by kernel_rfl) rfl (kA Aa (kA (Au rfl rfl rfl) (Ab rfl rfl))) (by rfl) (fun _ _ _ h => h) (fun lx ax wx hS => ?_) ?_;rotate_left;(obtain ⟨⟨-, -,hq,hrb⟩, -⟩:=hS;have x2:=hq.c2;obtain ⟨z0,z1,z2,z3,z4,z5,z6,z7⟩:=hrb.at;simp only [Nat.zero_add] at z1 z2 z3 z4 z5 z6 z7;clear hq hrb;go_simp;with_reducible rfl);rotate_left;simp only [sc0,sc1]
  refine Ae (i:=4) (v:=?_) HT rfl (by kernel_rfl) rfl (kA Aa (kA (Au rfl rfl rfl) (Ab rfl rfl))) (by rfl) (fun _ _ _ h => h) (fun lx ax wx hS => ?_) ?_;rotate_left;(obtain ⟨⟨-, -,hq,hrb⟩, -⟩:=hS;have x2:=hq.c2;obtain ⟨z0,z1,z2,z3,z4,z5,z6,z7⟩:=hrb.at;simp only [Nat.zero_add] at z1 z2 z3 z4 z5 z6 z7;clear hq hrb;go_simp;with_reducible rfl);rotate_left;simp only [sc0,sc1]
  refine Ae (i:=5) (v:=?_) HT rfl (by kernel_rfl) rfl (kA Aa (kA (Au rfl rfl rfl) (Ab rfl rfl))) (by rfl) (fun _ _ _ h => h) (fun lx ax wx hS => ?_) ?_;rotate_left;(obtain ⟨⟨-, -,hq,hrb⟩, -⟩:=hS;have x2:=hq.c2;obtain ⟨z0,z1,z2,z3,z4,z5,z6,z7⟩:=hrb.at;simp only [Nat.zero_add] at z1 z2 z3 z4 z5 z6 z7;clear hq hrb;go_simp;with_reducible rfl);rotate_left;simp only [sc0,sc1]
  refine Ba [6] (by kernel_rfl) (fun i hi wx hS => ?_)
  obtain rfl:=List.mem_singleton.1 hi
  refine BX (w1:=wx.alloc (Dl r ln).box) (.slice (some ⟨wx.heap.size,0,none⟩) 1 1) rfl rfl (by rfl) (by go_simp) ?_
  have hbx : Below wx.heap.size wx (wx.alloc (Dl r ln).box):=Ah (Below.refl _ _) _
  refine ⟨⟨⟨bj hS.1.1 hbx,hS.1.2.1.D6 (Kept.of_below hbx (fun _ => False)) (fun k hk => hk.elim),hS.1.2.2.1.up hbx,hS.1.2.2.2.up hbx⟩,fun h => ⟨bj (hS.2.1 (by kernel_rfl)).1 hbx,fun _ => ⟨wx.heap.size,rfl,Rw (Gh wx (Dl r ln))⟩⟩,fun h => (AL h (by kernel_rfl)).elim⟩,?_⟩
  clear hS hbx
  simp only [sc0,sc1]
  refine Ba [7] (by kernel_rfl) (fun i hi w3 hS => ?_)
  obtain rfl:=List.mem_singleton.1 hi
  obtain ⟨⟨h1,h2,h3,h4⟩,hpre, -⟩:=hS
  obtain ⟨hb3,hq3⟩:=hpre (by kernel_rfl)
  obtain ⟨B,hB,hC⟩:=hq3 (by kernel_rfl)
  have hB : Value.slice (some ⟨wx.heap.size,0,none⟩) 1 1 = .slice (some ⟨B,0,none⟩) 1 1:=hB
  obtain rfl : wx.heap.size = B:=by simpa using hB
  have ho3:=HO2.out.below hb3
  refine wpOp_step rfl (Kd.CV Ca (Rr:=Ca.K w3) w0.heap.size (by rfl) (.tmp 17) (.tmp 19) 26 98 _ 64 rfl ER Il rfl (by decide) (by decide) (.slice Al e.log.length cl) e.log [Dl r ln] (some ⟨wx.heap.size,0,none⟩) 1 1 (fun _ => True) (fun _ => False) rfl rfl ho3.l hC (fun _ _ hk => JR hk) (fun _ hk => hk.elim) (fun _ _ => trivial) h1 h1.size (by have:=HL.out;omega) (fun v1 w4 hown hb4 hg4 _ => ?_))
  rw [HLL.out] at hown
  obtain ⟨A1,c1,rfl, -, -⟩:=Kd.DI hown
  rw [HLE.out] at hown ⊢
  simp only [Cv,sc0,sc1]
  have hrb4 : Df w4 w.heap.size (Dl r ln):=(hg4.block _ h4.lt (fun e => by have:=Kd.UL HO.out.l w.heap.size e.symm;omega)).trans h4
  refine ⟨⟨⟨hb4,h2.D6 (S9 hg4) (fun k hk => .inl hk),h3.grown ho3.l hg4,hrb4⟩,fun h => (AL (by kernel_rfl) h).elim,fun _ => ⟨A1,c1,rfl,(show AU w4 w0.heap.size (.slice Ad e.disk.length cd) (.slice Am e.mem.length cm) (.slice A1 (e.log.length + 1) c1) { e with log:=l' } from ho3.logged hg4 hown)⟩⟩,?_⟩
  clear h1 h2 h3 h4 hpre hb3 hq3 hB hC ho3 hown hb4 hg4 hrb4
  refine Cg (i:=8) (by kernel_rfl) rfl (fun w5 hS => ?_)
  obtain ⟨⟨h1,h2,h3,h4⟩, -,hpost⟩:=hS
  obtain ⟨A2,c2,hA,ho5⟩:=hpost (by kernel_rfl)
  have hA : Value.slice A1 (e.log.length + 1) c1 = .slice A2 (e.log.length + 1) c2:=hA
  obtain ⟨rfl,rfl⟩ : A1 = A2 ∧ c1 = c2:=by simpa using hA
  have x2:=h3.c2
  have f2:=h3.frz 2
  refine BX (w1:=w5) (ptr g) rfl rfl (by rfl) (by go_simp) ?_
  simp only [sc0,sc1]
  refine KA (i:=9) (by kernel_rfl) ?_
  refine BX (w1:=w5) (.pointer (some ⟨g,2,none⟩)) rfl rfl (by rfl) (by go_simp) ?_
  simp only [sc0,sc1]
  refine KA (i:=10) (by kernel_rfl) ?_
  refine BJ (w1:=w5.setCell ⟨g,2,none⟩ (.slice A1 (e.log.length + 1) c1)) rfl (by rfl) (by go_simp) ?_
  refine BQ (by kernel_rfl) ?_
  have hq6 : Ai (w5.setCell ⟨g,2,none⟩ (.slice A1 (e.log.length + 1) c1)) g { e with log:=l' } (.slice Ad e.disk.length cd) (.slice Am e.mem.length cm) (.slice A1 (e.log.length + 1) c1):=h3.set2 _
  have ho6 : AU (w5.setCell ⟨g,2,none⟩ (.slice A1 (e.log.length + 1) c1)) w0.heap.size (.slice Ad e.disk.length cd) (.slice Am e.mem.length cm) (.slice A1 (e.log.length + 1) c1) { e with log:=l' }:=ho5.set h3.blk (by decide) (by decide) (by decide) 2 _
  have hb6 : Below w0.heap.size w0 (w5.setCell ⟨g,2,none⟩ (.slice A1 (e.log.length + 1) c1)):=h1.setCell (p:=⟨g,2,none⟩) HG.out _
  have hk6 : Kept w2 (w5.setCell ⟨g,2,none⟩ (.slice A1 (e.log.length + 1) c1)) (fun k => k = g ∨ some k = (Value.slice Al e.log.length cl).ownBlock):=(h2.mono (fun k hk => .inr hk)).D6 (Vu w5 g 2 _) (fun k hk => .inl (.inl hk))
  obtain ⟨w6,hw6⟩ : ∃ w6,w5.setCell ⟨g,2,none⟩ (.slice A1 (e.log.length + 1) c1) = w6:=⟨_,rfl⟩
  rw [hw6] at hq6 ho6 hb6 hk6 ⊢
  have HQ6:=As hq6
  have HO6:=As ho6
  have HB6:=As hb6
  have HK6:=As hk6
  clear h1 h2 h3 h4 hpost hA ho5 x2 f2 ho6 hb6 hk6 hw6
  have x2:=hq6.c2
  clear hq6
  go_wp2
  go_ret
  have hk0 : Kept w w2 (fun k => k = g ∨ some k = (Value.slice Al e.log.length cl).ownBlock):=Kept.of_below HB2.out _
  exact ⟨_,rfl,by rw [HLL.out];exact HQ6.out,by rw [HLL.out];exact HO6.out,HB6.out,hk0.D6 HK6.out (fun k hk => .inl hk)⟩
end Go.Proofs.YtpjmlpmhgfghbaaGreat
