/- A part of the proof: what the last text of the claim says leans on this one. -/
import Derived.Test.YtklmhkglcfjclaaGreatZA2
set_option linter.unusedVariables false
set_option linter.unusedSimpArgs false
namespace Go.Proofs.YtklmhkglcfjclaaGreat
def Agree (l l' : List Rec) (n : Nat) : Prop := ∀ k,k < n → rc l k = rc l' k
theorem Agree.le {l l' : List Rec} {n m : Nat} (h : Agree l l' n) (hm : m ≤ n) : Agree l l' m:=fun k hk => h k (by omega)
theorem Agree.symm {l l' : List Rec} {n : Nat} (h : Agree l l' n) : Agree l' l n:=fun k hk => (h k hk).symm
theorem Lp (l : List Rec) (n : Nat) : Agree (l.take n) l n:=fun k hk => by
 simp [rc,List.getD_eq_getElem?_getD,List.getElem?_take,hk]
theorem Cw (l m : List Rec) : Agree (l ++ m) l l.length:=fun k hk => by
 simp [rc,List.getD_eq_getElem?_getD,List.getElem?_append_left hk]
theorem MG {l m : List Rec} {k : Nat} (h : k < l.length) : rc (l ++ m) k = rc l k:=Cw l m k h
theorem BR (l : List Rec) (r : Rec) : rc (l ++ [r]) l.length = r:=by
 simp [rc,List.getD_eq_getElem?_getD]
theorem CY {l l' : List Rec} (tx : Int) : ∀ {n : Nat},Agree l l' n → Ap l tx n = Ap l' tx n
 | 0,_ => rfl
 | n + 1,h => by
  unfold Ap
  rw [h n (by omega),CY tx (h.le (Nat.le_succ n))]
theorem Nh {l l' : List Rec} {n k : Nat} (h : Agree l l' n) (hk : k < n) : BQ l (k + 1) = BQ l' (k + 1):=by
 simp only [BQ,Nat.add_sub_cancel]
 rw [h k hk]
theorem R8 {l l' : List Rec} {n k : Nat} (h : Agree l l' n) (hk : k < n) : EW l (k + 1) = EW l' (k + 1):=by
 simp only [EW,Nat.add_sub_cancel]
 rw [h k hk]
theorem Jr {l l' : List Rec} {n : Nat} (h : Agree l l' n) (m : Nat) : m ≤ n → BM l m = BM l' m:=by
 induction m using Nat.strongRecOn with
 | _ m ih =>
  intro hm
  match m with
  | 0 => rw [Ct,Ct]
  | m + 1 =>
   rw [BM,BM,Nh h (by omega)]
   split
   ·rw [ih _ (by omega) (by omega)]
   ·rfl
theorem O4 {l l' : List Rec} {n : Nat} (h : Agree l l' n) (m : Nat) : m ≤ n → D5 l m = D5 l' m:=by
 induction m using Nat.strongRecOn with
 | _ m ih =>
  intro hm
  match m with
  | 0 => rw [D9,D9]
  | m + 1 =>
   rw [D5,D5,Nh h (by omega),R8 h (by omega),h m (by omega)]
   split
   ·split
    ·rw [ih _ (by omega) (by omega)]
    ·rfl
   ·split
    ·split
     ·rw [ih _ (by omega) (by omega)]
     ·rfl
    ·split
     ·rw [ih _ (by omega) (by omega)]
     ·rfl
theorem Ey {l : List Rec} (n : Nat) : ∀ m ∈ BM l n,0 < m ∧ m ≤ n:=by
 induction n using Nat.strongRecOn with
 | _ n ih =>
  intro m hm
  match n with
  | 0 => rw [Ct] at hm;cases hm
  | n + 1 =>
   rw [BM] at hm
   rcases List.mem_cons.1 hm with rfl | hm
   ·omega
   ·split at hm
    ·have:=ih _ (by omega) m hm
     omega
    ·cases hm
theorem QE {l : List Rec} (n : Nat) : ∀ m ∈ D5 l n,0 < m ∧ m ≤ n:=by
 induction n using Nat.strongRecOn with
 | _ n ih =>
  intro m hm
  match n with
  | 0 => rw [D9] at hm;cases hm
  | n + 1 =>
   rw [D5] at hm
   split at hm
   ·rcases List.mem_cons.1 hm with rfl | hm
    ·omega
    ·split at hm
     ·have:=ih _ (by omega) m hm
      omega
     ·cases hm
   ·split at hm
    ·split at hm
     ·have:=ih _ (by omega) m hm
      omega
     ·cases hm
    ·split at hm
     ·have:=ih _ (by omega) m hm
      omega
     ·cases hm
theorem KT {α : Type} {l : List α} {p q : α → Bool} (h : ∀ x ∈ l,p x = q x) : l.any p = l.any q:=by
 induction l with
 | nil => rfl
 | cons a t ih => rw [List.any_cons,List.any_cons,h a (by simp),ih fun x hx => h x (by simp [hx])]
theorem SQ {l l' : List Rec} {n : Nat} (h : Agree l l' n) (p : Int) {m : Nat} (hm : m ≤ n) : GN l m p = GN l' m p:=by
 rw [GN,GN,Jr h m hm]
 exact KT fun x hx => by
  have:=Ey m x hx
  rw [h (x - 1) (by omega)]
theorem Rj {l l' : List Rec} {n : Nat} (h : Agree l l' n) (p : Int) {m : Nat} (hm : m ≤ n) : F8 l m p = F8 l' m p:=by
 rw [F8,F8,Jr h m hm]
 exact KT fun x hx => by
  have:=Ey m x hx
  rw [h (x - 1) (by omega)]
theorem SY {l l' : List Rec} {n k : Nat} (h : Agree l l' n) (hk : k < n) : atOk l k = atOk l' k:=by
 have hl:=CY (rc l' k).tx (h.le (show k ≤ n by omega))
 unfold atOk
 rw [h k hk,hl]
 by_cases hn : (rc l' k).next ≤ k
 ·by_cases h0 : (rc l' k).next ≤ 0
  ·simp [h0]
  ·rw [h ((rc l' k).next.toNat - 1) (by omega)]
 ·simp [hn]
theorem Jh {l l' : List Rec} : ∀ {n : Nat},Agree l l' n → Ez l n = Ez l' n
 | 0,_ => rfl
 | n + 1,h => by
  unfold Ez
  rw [Jh (h.le (Nat.le_succ n)),SY h (by omega)]
theorem Eu {l l' : List Rec} (p : Int) : ∀ {n : Nat},Agree l l' n → BN l p n = BN l' p n
 | 0,_ => rfl
 | n + 1,h => by
  unfold BN
  rw [Eu p (h.le (Nat.le_succ n)),h n (by omega)]
theorem Lf {l : List Rec} (h : AQ l = true) (n : Nat) : AQ (l.take n) = true:=by
  simp only [AQ,Bool.and_eq_true,decide_eq_true_eq] at h ⊢
  rw [List.length_take]
  refine ⟨?_,by omega⟩
  rcases Nat.lt_or_ge n l.length with hn | hn
  · rw [Nat.min_eq_left (by omega),Jh (Lp l n)]
    have hp : ∀ {m k},Ez l m = true → k ≤ m → Ez l k = true:=by
      intro m
      induction m with
      | zero => intro k hm hk; obtain rfl : k = 0 := by omega
                exact hm
      | succ m ih =>
        intro k hm hk
        rcases Nat.eq_or_lt_of_le hk with rfl | hk
        · exact hm
        · simp only [Ez,Bool.and_eq_true] at hm
          exact ih hm.1 (by omega)
    exact hp h.1 (by omega)
  · rw [List.take_of_length_le hn,Nat.min_eq_right hn]
    exact h.1
theorem Jg {l : List Rec} {r : Rec} (h : AQ l = true) (hr : D6 r = true) (hp : r.prev = Ap l r.tx l.length) (hn : r.next ≤ l.length) (hn2 : r.next ≤ 0 ∨ (rc l (r.next.toNat - 1)).tx = r.tx) (hl : l.length + 1 ≤ 150) : AQ (l ++ [r]) = true:=by
 simp only [AQ,Bool.and_eq_true,decide_eq_true_eq] at h ⊢
 rw [List.length_append,List.length_singleton]
 refine ⟨?_,hl⟩
 rw [Ez,Jh (Cw l [r]),h.1,Bool.true_and,atOk,BR,CY r.tx (Cw l [r])]
 simp only [Bool.and_eq_true,beq_iff_eq,decide_eq_true_eq,Bool.or_eq_true]
 refine ⟨⟨⟨hr,hp⟩,hn⟩,?_⟩
 rcases hn2 with hn2 | hn2
 ·exact .inl hn2
 ·by_cases h0 : r.next ≤ 0
  ·exact .inl h0
  ·refine .inr ?_
   rw [MG (by omega)]
   exact hn2
def U (l : List Rec) (tx : Int) (n : Nat) : List Nat:=D5 l (Ap l tx n)
def Ch (l : List Rec) (tx : Int) (n : Nat) : List Nat:=BM l (Ap l tx n)
def has (l : List Rec) (tx : Int) (n : Nat) (p : Int) : Bool:=GN l (Ap l tx n) p
theorem TP {l : List Rec} {tx p : Int} {n : Nat} : has l tx n p = true ↔ ∃ m ∈ Ch l tx n,(rc l (m - 1)).page = p:=by
 simp [has,GN,Ch]
theorem Gf {l : List Rec} {tx : Int} {k : Nat} (h : (rc l k).tx ≠ tx) : Ap l tx (k + 1) = Ap l tx k:=by
 rw [Ap,if_neg h]
theorem IV {l : List Rec} {tx : Int} {k : Nat} (h : (rc l k).tx = tx) (he : EY (rc l k).kind = true) : Ap l tx (k + 1) = 0:=by
 rw [Ap,if_pos h,if_pos he]
theorem FH {l : List Rec} {tx : Int} {k : Nat} (h : (rc l k).tx = tx) (he : EY (rc l k).kind = false) : Ap l tx (k + 1) = k + 1:=by
 rw [Ap,if_pos h,if_neg (by simp [he])]
theorem Il {l : List Rec} {tx : Int} {k : Nat} (h : (rc l k).tx ≠ tx) : U l tx (k + 1) = U l tx k:=by rw [U,Gf h,U]
theorem PL {l : List Rec} {tx : Int} {k : Nat} (h : (rc l k).tx = tx) (he : EY (rc l k).kind = true) : U l tx (k + 1) = []:=by rw [U,IV h he,D9]
theorem Ep {k : Int} (h : k = 1 ∨ k = 2 ∨ k = 3 ∨ k = 6) : EY k = false:=by
 simp only [EY,Bool.or_eq_false_iff,beq_eq_false_iff_ne];omega
theorem U1 {l : List Rec} (hl : AQ l = true) {k : Nat} (hk : k < l.length) (h : (rc l k).kind = 1 ∨ (rc l k).kind = 2) : U l (rc l k).tx (k + 1) = (k + 1) :: U l (rc l k).tx k:=by
 have F:=AJ hl hk
 rw [U,FH rfl (Ep (by omega)),LB h F.prev_le,F.last,U]
theorem Te {l : List Rec} (hl : AQ l = true) {k : Nat} (hk : k < l.length) (h : (rc l k).kind = 3) : U l (rc l k).tx (k + 1) = U l (rc l k).tx k:=by
 have F:=AJ hl hk
 rw [U,FH rfl (Ep (by omega)),Mx (by omega) (by omega) (by omega) F.prev_le,F.last,U]
theorem OI {l : List Rec} {tx : Int} {k : Nat} (h : (rc l k).tx ≠ tx) : Ch l tx (k + 1) = Ch l tx k:=by rw [Ch,Gf h,Ch]
theorem XC {l : List Rec} {tx : Int} {k : Nat} (h : (rc l k).tx = tx) (he : EY (rc l k).kind = true) : Ch l tx (k + 1) = []:=by rw [Ch,IV h he,Ct]
theorem Mr {l : List Rec} (hl : AQ l = true) {k : Nat} (hk : k < l.length) (h : EY (rc l k).kind = false) : Ch l (rc l k).tx (k + 1) = (k + 1) :: Ch l (rc l k).tx k:=by
 have F:=AJ hl hk
 rw [Ch,FH rfl h,Eb F.prev_le,F.last,Ch]
structure GR (l : List Rec) (k : Nat) : Prop where
 own : (rc l k).kind = 2 → (rc l k).new ≠ 0 → (rc l k).old = 0
 JN : (rc l k).kind = 6 → ∃ m ms,U l (rc l k).tx k = m :: ms ∧ rc l k = BD (rc l (m - 1)) (rc l k).prev
 ended : (rc l k).kind = 5 → U l (rc l k).tx k = []
 fin : EY (rc l k).kind = true → 0 < Ap l (rc l k).tx k
 lock : (rc l k).kind = 1 ∨ (rc l k).kind = 2 ∨ (rc l k).kind = 3 → ∀ t,t ≠ (rc l k).tx → has l t k (rc l k).page = false
def EZ (l : List Rec) : Prop := ∀ k,k < l.length → GR l k
theorem GQ {l l' : List Rec} {n : Nat} (h : Agree l l' n) (tx : Int) {k : Nat} (hk : k ≤ n) : U l tx k = U l' tx k:=by
 rw [U,U,CY tx (h.le hk)]
 exact O4 h _ (by have:=Bf l' tx k;omega)
theorem RP {l l' : List Rec} {n : Nat} (h : Agree l l' n) (tx : Int) {k : Nat} (hk : k ≤ n) : Ch l tx k = Ch l' tx k:=by
 rw [Ch,Ch,CY tx (h.le hk)]
 exact Jr h _ (by have:=Bf l' tx k;omega)
theorem Kw {l l' : List Rec} {n : Nat} (h : Agree l l' n) (tx p : Int) {k : Nat} (hk : k ≤ n) : has l tx k p = has l' tx k p:=by
 rw [has,has,CY tx (h.le hk)]
 exact SQ h p (by have:=Bf l' tx k;omega)
theorem NA {l : List Rec} {tx : Int} {n m : Nat} (h : m ∈ U l tx n) : 0 < m ∧ m ≤ n:=by
 have:=QE _ m h
 have:=Bf l tx n
 omega
theorem KL {l l' : List Rec} {n k : Nat} (h : Agree l l' n) (hk : k < n) (hp : GR l k) : GR l' k:=by
 have e:=h k hk
 obtain ⟨h1,h2,h3,h4,h5⟩:=hp
 rw [e] at h1 h2 h3 h4 h5
 refine ⟨h1,fun k6 => ?_,fun k5 => ?_,fun he => ?_,fun hk3 t ht => ?_⟩
 ·obtain ⟨m,ms,hm,hb⟩:=h2 k6
  have hm2 : m ∈ U l (rc l' k).tx k:=by rw [hm];simp
  have:=NA hm2
  refine ⟨m,ms,by rw [← GQ h _ (by omega)];exact hm,?_⟩
  rw [← h (m - 1) (by omega)]
  exact hb
 ·rw [← GQ h _ (by omega)];exact h3 k5
 ·rw [← CY _ (h.le (by omega))];exact h4 he
 ·rw [← Kw h _ _ (by omega)];exact h5 hk3 t ht
theorem QT {l : List Rec} (h : EZ l) (n : Nat) : EZ (l.take n):=fun k hk => by
 rw [List.length_take] at hk
 exact KL (Lp l n).symm (by omega) (h k (by omega))
theorem Fy {l : List Rec} {r : Rec} (h : EZ l) (hr : GR (l ++ [r]) l.length) : EZ (l ++ [r]):=fun k hk => by
 rw [List.length_append,List.length_singleton] at hk
 rcases Nat.lt_or_ge k l.length with hlt | hge
 ·exact KL (Cw l [r]).symm hlt (h k hlt)
 ·obtain rfl : k = l.length:=by omega
  exact hr
theorem Td {l : List Rec} (hl : AQ l = true) (hp : EZ l) {k : Nat} (hk : k < l.length) (h : (rc l k).kind = 6) : ∃ m,U l (rc l k).tx k = m :: U l (rc l k).tx (k + 1) ∧ rc l k = BD (rc l (m - 1)) (rc l k).prev:=by
 have F:=AJ hl hk
 obtain ⟨m,ms,hm,hb⟩:=(hp k hk).JN h
 refine ⟨m,?_,hb⟩
 have hmk:=NA (show m ∈ U l (rc l k).tx k by rw [hm];simp)
 have hnx : EW l (k + 1) = BQ l m:=by
  simp only [EW,BQ,Nat.add_sub_cancel]
  rw [hb]
  rfl
 obtain ⟨h1,h2,h3,h4⟩:=G9 _ m ms hm
 have Fm:=AJ hl (k:=m - 1) (by omega)
 have hpm:=Fm.prev_le
 rw [show m - 1 + 1 = m by omega] at hpm
 rw [hm,(h4 (by omega)).1,U,FH rfl (Ep (by omega)),Mv h F.next_le,hnx]
theorem Ll {l : List Rec} (hl : AQ l = true) {k : Nat} (hk : k < l.length) : (rc l k).kind = 1 ∨ (rc l k).kind = 2 ∨ (rc l k).kind = 3 ∨ (rc l k).kind = 4 ∨ (rc l k).kind = 5 ∨ (rc l k).kind = 6:=by
 have:=(AJ hl hk).ok
 rw [Dg] at this
 omega
theorem WO {l : List Rec} (hl : AQ l = true) (hp : EZ l) (tx : Int) : ∀ n,n ≤ l.length → ∀ m ∈ U l tx n,m ∈ Ch l tx n
 | 0,_,m,h => by simp [U,Ap,D9] at h
 | n + 1,hn,m,h => by
  have ih:=WO hl hp tx n (by omega)
  by_cases ht : (rc l n).tx = tx
  ·subst ht
   rcases Ll hl (k:=n) (by omega) with hk | hk | hk | hk | hk | hk
   ·rw [Mr hl (by omega) (Ep (by omega))]
    rw [U1 hl (by omega) (.inl hk)] at h
    rcases List.mem_cons.1 h with rfl | h
    ·simp
    ·exact List.mem_cons_of_mem _ (ih m h)
   ·rw [Mr hl (by omega) (Ep (by omega))]
    rw [U1 hl (by omega) (.inr hk)] at h
    rcases List.mem_cons.1 h with rfl | h
    ·simp
    ·exact List.mem_cons_of_mem _ (ih m h)
   ·rw [Mr hl (by omega) (Ep (by omega))]
    rw [Te hl (by omega) hk] at h
    exact List.mem_cons_of_mem _ (ih m h)
   ·rw [PL rfl (by rw [hk];rfl)] at h;cases h
   ·rw [PL rfl (by rw [hk];rfl)] at h;cases h
   ·rw [Mr hl (by omega) (Ep (by omega))]
    obtain ⟨m',hm',_⟩:=Td hl hp (k:=n) (by omega) hk
    exact List.mem_cons_of_mem _ (ih m (by rw [hm'];exact List.mem_cons_of_mem _ h))
  ·rw [Il ht] at h
   rw [OI ht]
   exact ih m h
theorem Rw {l : List Rec} (hl : AQ l = true) {k : Nat} (hk : k < l.length) (h : EY (rc l k).kind = false) (p : Int) : has l (rc l k).tx (k + 1) p = ((rc l k).page == p || has l (rc l k).tx k p):=by
 have F:=AJ hl hk
 rw [has,FH rfl h,PG F.prev_le,F.last,has]
theorem FI {l : List Rec} {tx : Int} {k : Nat} (h : (rc l k).tx ≠ tx) (p : Int) : has l tx (k + 1) p = has l tx k p:=by rw [has,Gf h,has]
theorem TQ {l : List Rec} {tx : Int} {k : Nat} (h : (rc l k).tx = tx) (he : EY (rc l k).kind = true) (p : Int) : has l tx (k + 1) p = false:=by rw [has,IV h he,IX]
theorem Ou {l : List Rec} (hl : AQ l = true) (hp : EZ l) {tx : Int} {n m : Nat} (hn : n ≤ l.length) (h : m ∈ U l tx n) : has l tx n (rc l (m - 1)).page = true:=TP.2 ⟨m,WO hl hp tx n hn m h,rfl⟩
theorem Hq {l : List Rec} (hl : AQ l = true) (hp : EZ l) : ∀ n,n ≤ l.length → ∀ t t' p,t ≠ t' → has l t n p = true → has l t' n p = false
 | 0,_,t,t',p,_,h => by simp [has,Ap,IX] at h
 | n + 1,hn,t,t',p,hne,h => by
  have ih:=Hq hl hp n (by omega)
  have hn' : n < l.length:=by omega
  cases he : EY (rc l n).kind
  ·have hnew : ∀ s,s ≠ (rc l n).tx → has l s n (rc l n).page = false:=by
    intro s hs
    rcases Ll hl hn' with hk | hk | hk | hk | hk | hk
    ·exact (hp n hn').lock (by omega) s hs
    ·exact (hp n hn').lock (by omega) s hs
    ·exact (hp n hn').lock (by omega) s hs
    ·rw [hk] at he;cases he
    ·rw [hk] at he;cases he
    ·obtain ⟨m,hm,hb⟩:=Td hl hp hn' hk
     have h1:=Ou hl hp (tx:=(rc l n).tx) (n:=n) (m:=m) (by omega) (by rw [hm];simp)
     have h2 : (rc l n).page = (rc l (m - 1)).page:=by rw [hb];rfl
     rw [h2]
     exact ih _ _ _ (Ne.symm hs) h1
   by_cases ht : (rc l n).tx = t
   ·subst ht
    rw [FI hne]
    rw [Rw hl hn' he,Bool.or_eq_true,beq_iff_eq] at h
    rcases h with rfl | h
    ·exact hnew t' (Ne.symm hne)
    ·exact ih _ _ _ hne h
   ·rw [FI ht] at h
    by_cases ht' : (rc l n).tx = t'
    ·subst ht'
     rw [Rw hl hn' he,ih _ _ _ hne h,Bool.or_false,beq_eq_false_iff_ne]
     rintro rfl
     rw [hnew t hne] at h
     cases h
    ·rw [FI ht']
     exact ih _ _ _ hne h
  ·by_cases ht : (rc l n).tx = t
   ·rw [TQ ht he] at h;cases h
   ·rw [FI ht] at h
    by_cases ht' : (rc l n).tx = t'
    ·exact TQ ht' he p
    ·rw [FI ht']
     exact ih _ _ _ hne h
def F (l : List Rec) (n : Nat) (p t : Int) : List Nat:=(U l t n).filter fun m => (rc l (m - 1)).page == p
def UA (l : List Rec) (n : Nat) (p : Int) : List Nat:=F l n p 1 ++ (F l n p 2 ++ F l n p 3)
theorem VT {l : List Rec} (hl : AQ l = true) (hp : EZ l) {n : Nat} (hn : n ≤ l.length) {p t : Int} (h : has l t n p = false) : F l n p t = []:=by
 rw [F,List.filter_eq_nil_iff]
 intro m hm
 have h1:=Ou hl hp hn hm
 rw [beq_iff_eq]
 rintro rfl
 rw [h] at h1
 cases h1
theorem JQ {l : List Rec} (hl : AQ l = true) {k : Nat} (hk : k < l.length) : (rc l k).tx = 1 ∨ (rc l k).tx = 2 ∨ (rc l k).tx = 3:=by
 have F:=AJ hl hk
 have:=F.tx1
 have:=F.tx3
 omega
theorem Lr {l : List Rec} (hl : AQ l = true) (hp : EZ l) {n : Nat} (hn : n ≤ l.length) {p t : Int} (ht : t = 1 ∨ t = 2 ∨ t = 3) (h : ∀ s,s ≠ t → has l s n p = false) : UA l n p = F l n p t:=by
 have hF : ∀ s,s ≠ t → F l n p s = []:=fun s hs => VT hl hp hn (h s hs)
 rw [UA]
 rcases ht with rfl | rfl | rfl
 ·rw [hF 2 (by decide),hF 3 (by decide)];simp
 ·rw [hF 1 (by decide),hF 3 (by decide)];simp
 ·rw [hF 1 (by decide),hF 2 (by decide)];simp
theorem Fb {l l' : List Rec} {n : Nat} (h : Agree l l' n) (p : Int) {k : Nat} (hk : k ≤ n) : UA l k p = UA l' k p:=by
 have hF : ∀ t,F l k p t = F l' k p t:=fun t => by
  rw [F,F,GQ h t hk]
  refine List.filter_congr fun m hm => ?_
  have:=NA hm
  rw [h (m - 1) (by omega)]
 rw [UA,UA,hF,hF,hF]
theorem Mg {l : List Rec} {n : Nat} {p : Int} (h : ∀ t,F l (n + 1) p t = F l n p t) : UA l (n + 1) p = UA l n p:=by
 rw [UA,UA,h,h,h]
theorem Tf {l : List Rec} (hl : AQ l = true) (hp : EZ l) {n : Nat} (hn : n < l.length) (h : (rc l n).kind = 1 ∨ (rc l n).kind = 2) (p : Int) : UA l (n + 1) p = if (rc l n).page = p then (n + 1) :: UA l n p else UA l n p:=by
 have hU:=U1 hl hn h
 split
 ·rename_i e
  subst e
  have hlk:=(hp n hn).lock (by omega)
  rw [Lr hl hp (by omega) (JQ hl hn) hlk,Lr hl hp (n:=n + 1) (by omega) (JQ hl hn) (fun s hs => by rw [FI (Ne.symm hs)];exact hlk s hs),F,hU,List.filter_cons,F]
  simp
 ·rename_i e
  refine Mg fun t => ?_
  by_cases ht : (rc l n).tx = t
  ·subst ht
   rw [F,hU,List.filter_cons,F]
   simp [e]
  ·rw [F,Il ht,F]
theorem U3 {l : List Rec} (hl : AQ l = true) {n : Nat} (hn : n < l.length) (h : (rc l n).kind = 3) (p : Int) : UA l (n + 1) p = UA l n p:=by
 refine Mg fun t => ?_
 by_cases ht : (rc l n).tx = t
 ·subst ht
  rw [F,Te hl hn h,F]
 ·rw [F,Il ht,F]
theorem OC {l : List Rec} (hp : EZ l) {n : Nat} (hn : n < l.length) (h : (rc l n).kind = 5) (p : Int) : UA l (n + 1) p = UA l n p:=by
 refine Mg fun t => ?_
 by_cases ht : (rc l n).tx = t
 ·subst ht
  rw [F,PL rfl (by rw [h];rfl),F,(hp n hn).ended h]
 ·rw [F,Il ht,F]
theorem Wy {l : List Rec} (hl : AQ l = true) (hp : EZ l) {n : Nat} (hn : n < l.length) (h : (rc l n).kind = 4) (p : Int) : UA l (n + 1) p = if has l (rc l n).tx n p = true then [] else UA l n p:=by
 have hF : F l (n + 1) p (rc l n).tx = []:=by rw [F,PL rfl (by rw [h];rfl)];rfl
 split
 ·rename_i e
  rw [Lr hl hp (n:=n + 1) (by omega) (JQ hl hn) (fun s hs => by rw [FI (Ne.symm hs)];exact Hq hl hp n (by omega) _ _ _ (Ne.symm hs) e),hF]
 ·rename_i e
  refine Mg fun t => ?_
  by_cases ht : (rc l n).tx = t
  ·subst ht
   rw [hF,VT hl hp (by omega) (by simpa using e)]
  ·rw [F,Il ht,F]
theorem Qq {l : List Rec} (hl : AQ l = true) (hp : EZ l) {n : Nat} (hn : n < l.length) (h : (rc l n).kind = 6) : ∃ m,rc l n = BD (rc l (m - 1)) (rc l n).prev ∧ ∀ p,UA l n p = if (rc l n).page = p then m :: UA l (n + 1) p else UA l (n + 1) p:=by
 obtain ⟨m,hm,hb⟩:=Td hl hp hn h
 refine ⟨m,hb,fun p => ?_⟩
 have hpg : (rc l n).page = (rc l (m - 1)).page:=by rw [hb];rfl
 have hhas:=Ou hl hp (tx:=(rc l n).tx) (n:=n) (m:=m) (by omega) (by rw [hm];simp)
 rw [← hpg] at hhas
 split
 ·rename_i e
  subst e
  have hlk : ∀ s,s ≠ (rc l n).tx → has l s n (rc l n).page = false:=fun s hs => Hq hl hp n (by omega) _ _ _ (Ne.symm hs) hhas
  rw [Lr hl hp (by omega) (JQ hl hn) hlk,Lr hl hp (n:=n + 1) (by omega) (JQ hl hn) (fun s hs => by rw [FI (Ne.symm hs)];exact hlk s hs),F,hm,List.filter_cons,F]
  simp [hpg]
 ·rename_i e
  refine (Mg fun t => ?_).symm
  by_cases ht : (rc l n).tx = t
  ·subst ht
   rw [F,F,hm,List.filter_cons]
   rw [hpg] at e
   simp [e]
  ·rw [F,Il ht,F]
theorem Ki (p : Page) (r : Rec) : (Bj p r).lsn = p.lsn:=by
 unfold Bj
 split
 ·rfl
 ·split <;> rfl
theorem Uf (p : Page) (r : Rec) (k : Int) : Bj ⟨k,p.owner,p.vals⟩ r = ⟨k,(Bj p r).owner,(Bj p r).vals⟩:=by
 unfold Bj
 split
 ·rfl
 ·split <;> rfl
theorem I9 {p q : Page} (r : Rec) (h : p.owner = q.owner) : (Bj p r).owner = (Bj q r).owner:=by
 unfold Bj
 split
 ·exact h
 ·split <;> rfl
theorem Hg {p : Page} {k : Int} (h : Bt p = true) (h0 : 0 ≤ k) (h1 : k ≤ 150) : Bt ⟨k,p.owner,p.vals⟩ = true:=by
 rw [Cq] at h ⊢
 exact ⟨h0,h1,h.2.2⟩
theorem R3 {p q : Page} (h1 : p.lsn = q.lsn) (h2 : p.owner = q.owner) (h3 : p.vals = q.vals) : p = q:=by
 cases p;cases q
 simp only at h1 h2 h3
 rw [h1,h2,h3]
def EL (l : List Rec) (c : Page) : List Nat → Page → Prop
 | [],P => Bt P = true ∧ P.owner = c.owner ∧ P.vals = c.vals
 | m :: ms,P => Bt P = true ∧ EL l c ms (Bj P (BD (rc l (m - 1)) 0))
theorem II {l : List Rec} {c : Page} {ms : List Nat} {P : Page} (h : EL l c ms P) : Bt P = true:=by
 cases ms
 ·exact h.1
 ·exact h.1
theorem Jc {l : List Rec} {c : Page} {k : Int} (h0 : 0 ≤ k) (h1 : k ≤ 150) : ∀ {ms : List Nat} {P : Page},EL l c ms P → EL l c ms ⟨k,P.owner,P.vals⟩
 | [],P,h => ⟨Hg h.1 h0 h1,h.2⟩
 | m :: ms,P,h => ⟨Hg h.1 h0 h1,by rw [Uf];exact Jc h0 h1 h.2⟩
theorem Db {l l' : List Rec} {c : Page} {n : Nat} (h : Agree l l' n) : ∀ {ms : List Nat} {P : Page},(∀ m ∈ ms,0 < m ∧ m ≤ n) → EL l c ms P → EL l' c ms P
 | [],_,_,hp => hp
 | m :: ms,P,hm,hp => ⟨hp.1,by
  have:=hm m (by simp)
  rw [← h (m - 1) (by omega)]
  exact Db h (fun x hx => hm x (by simp [hx])) hp.2⟩
def Qj (l : List Rec) (ms : List Nat) : Prop := ∃ m ∈ ms,(rc l (m - 1)).slot < 0 ∧ (rc l (m - 1)).old = 0
theorem Eg {l l' : List Rec} {n : Nat} {ms : List Nat} (h : Agree l l' n) (hm : ∀ m ∈ ms,0 < m ∧ m ≤ n) (hz : Qj l ms) : Qj l' ms:=by
 obtain ⟨m,h1,h2,h3⟩:=hz
 have:=hm m h1
 rw [h (m - 1) (by omega)] at h2 h3
 exact ⟨m,h1,h2,h3⟩
theorem G8 {p : Page} {r : Rec} (h : r.slot < 0) (h0 : r.new = 0) : Bj p r = ⟨p.lsn,0, [0,0,0]⟩:=by
 rw [Bj,if_neg (by omega),if_pos h0]
theorem UW {vs : List Int} (h : vs.length = 3) (h0 : ∀ x ∈ vs,x = 0) : vs = [0,0,0]:=by
 match vs,h with
 | [a,b,c],_ => rw [h0 a (by simp),h0 b (by simp),h0 c (by simp)]
theorem R9 {vs : List Int} {i : Nat} {x y : Int} (h : y ∈ vs.set i x) : y ∈ vs ∨ y = x:=List.mem_or_eq_of_mem_set h
theorem Wd {vs : List Int} {i : Nat} {x : Int} (h : i < vs.length) : x ∈ vs.set i x:=by
 rw [List.mem_iff_getElem?]
 exact ⟨i,by simp [h]⟩
theorem UY {P P' : Page} {r : Rec} (hr : r.slot ≤ 2) (h : Bt P = true) (h' : Bt P' = true) (ho : P'.owner = P.owner) (hw : Bt (Bj P r) = true) : Bt (Bj P' r) = true:=by
 rw [Cq] at h h' hw ⊢
 rw [Ki] at hw ⊢
 have hown:=I9 (p:=P') (q:=P) r ho
 rw [hown]
 refine ⟨h'.1,h'.2.1,hw.2.2.1,hw.2.2.2.1,Kj h'.2.2.2.2.1,?_⟩
 rcases Int.lt_or_le r.slot 0 with hs | hs
 ·by_cases h0 : r.new = 0
  ·rw [G8 hs h0]
   intro x hx
   simp at hx
   rw [hx]
   simp
  ·have e1 : Bj P' r = ⟨P'.lsn,r.new,P'.vals⟩:=by rw [Bj,if_neg (by omega),if_neg h0]
   have e2 : Bj P r = ⟨P.lsn,r.new,P.vals⟩:=by rw [Bj,if_neg (by omega),if_neg h0]
   rw [e1,e2]
   intro x hx
   have:=h'.2.2.2.2.2 x hx
   exact ⟨this.1,this.2.1,fun e => absurd e h0⟩
 ·have e1 : Bj P' r = ⟨P'.lsn,P'.owner,P'.vals.set r.slot.toNat r.new⟩:=by rw [Bj,if_pos hs]
  have e2 : Bj P r = ⟨P.lsn,P.owner,P.vals.set r.slot.toNat r.new⟩:=by rw [Bj,if_pos hs]
  rw [e2] at hw ⊢
  rw [e1]
  have hnew:=hw.2.2.2.2.2 r.new (Wd (by rw [h.2.2.2.2.1];omega))
  intro x hx
  rcases R9 hx with hx | rfl
  ·have:=h'.2.2.2.2.2 x hx
   exact ⟨this.1,this.2.1,fun e => this.2.2 (by rw [ho];exact e)⟩
  ·exact hnew
theorem JX {l : List Rec} {c : Page} : ∀ {ms : List Nat} {P P' : Page},(∀ m ∈ ms,(rc l (m - 1)).slot ≤ 2) → Qj l ms → Bt P' = true → P'.owner = P.owner → EL l c ms P → EL l c ms P'
 | [],_,_,_,⟨_,h,_⟩,_,_,_ => by cases h
 | m :: ms,P,P',hs,hz,h',ho,h => by
  refine ⟨h',?_⟩
  have hok:=II h.2
  have hb : (BD (rc l (m - 1)) 0).slot ≤ 2:=hs m (by simp)
  have hw:=UY hb h.1 h' ho hok
  by_cases hzz : (rc l (m - 1)).slot < 0 ∧ (rc l (m - 1)).old = 0
  ·have e1 : Bj P' (BD (rc l (m - 1)) 0) = ⟨P'.lsn,0, [0,0,0]⟩:=G8 hzz.1 hzz.2
   have e2 : Bj P (BD (rc l (m - 1)) 0) = ⟨P.lsn,0, [0,0,0]⟩:=G8 hzz.1 hzz.2
   rw [e1]
   have h2:=h.2
   rw [e2] at h2
   rw [Cq] at h'
   exact Jc h'.1 h'.2.1 h2
  ·refine JX (fun x hx => hs x (by simp [hx])) ?_ hw (I9 _ ho) h.2
   obtain ⟨x,hx,h1,h2⟩:=hz
   rcases List.mem_cons.1 hx with rfl | hx
   ·exact absurd ⟨h1,h2⟩ hzz
   ·exact ⟨x,hx,h1,h2⟩
def Cf (P : Page) (l : List Rec) (p : Nat) : Nat → Page
 | 0 => P
 | n + 1 => if CP (rc l n).kind = true ∧ (rc l n).page = p ∧ (Cf P l p n).lsn < (n + 1 : Nat) then doR (Cf P l p n) (rc l n) (n + 1 : Nat) else Cf P l p n
theorem FM {ps : List Page} {i j : Nat} {q : Page} (h : i < ps.length) : pg (ps.set i q) j = if i = j then q else pg ps j:=by
 by_cases e : i = j
 ·subst e
  simp [pg,List.getD_eq_getElem?_getD,h]
 ·simp [pg,List.getD_eq_getElem?_getD,e]
theorem IB (ps : List Page) (l : List Rec) (n : Nat) : (Cs ps l n).length = ps.length:=by
 induction n with
 | zero => rfl
 | succ n ih =>
  rw [Cs,En]
  split
  ·rw [List.length_set,ih]
  ·exact ih
theorem LP {ps : List Page} {l : List Rec} (h5 : ps.length = 5) (hl : ∀ k,k < l.length → D6 (rc l k) = true) (p : Nat) : ∀ n,n ≤ l.length → pg (Cs ps l n) p = Cf (pg ps p) l p n
 | 0,_ => rfl
 | n + 1,hn => by
  have ih:=fun p => LP h5 hl p n (by omega)
  rw [Cs,En,Cf]
  by_cases hc : CP (rc l n).kind = true
  ·have hpg:=Hz (hl n (by omega)) hc
   by_cases hp : (rc l n).page = p
   ·have e : (rc l n).page.toNat = p:=by omega
    rw [e,ih p]
    by_cases hlt : (Cf (pg ps p) l p n).lsn < ((n + 1 : Nat) : Int)
    ·rw [if_pos ⟨hc,hlt⟩,if_pos ⟨hc,hp,hlt⟩,FM (by rw [IB];omega),if_pos rfl]
    ·rw [if_neg (fun h => hlt h.2),if_neg (fun h => hlt h.2.2),ih p]
   ·rw [if_neg (c:=_ ∧ _ = _ ∧ _) (fun h => hp h.2.1)]
    split
    ·rw [FM (by rw [IB];omega),if_neg (by omega),ih p]
    ·exact ih p
  ·rw [if_neg (fun h => hc h.1),if_neg (fun h => hc h.1),ih p]
theorem Ic {l l' : List Rec} (P : Page) (p : Nat) : ∀ {n : Nat},Agree l l' n → Cf P l p n = Cf P l' p n
 | 0,_ => rfl
 | n + 1,h => by
  unfold Cf
  rw [Ic P p (h.le (Nat.le_succ n)),h n (by omega)]
theorem MF {P : Page} {l : List Rec} {p : Nat} : ∀ n : Nat,P.lsn ≤ (Cf P l p n).lsn ∧ ((Cf P l p n).lsn ≤ P.lsn ∨ (Cf P l p n).lsn ≤ n)
 | 0 => ⟨Int.le_refl _, .inl (Int.le_refl _)⟩
 | n + 1 => by
  have ih:=MF (P:=P) (l:=l) (p:=p) n
  rw [Cf]
  split
  ·rename_i h
   have : (doR (Cf P l p n) (rc l n) ((n + 1 : Nat) : Int)).lsn = ((n + 1 : Nat) : Int):=rfl
   rw [this]
   have:=h.2.2
   omega
  ·omega
def TU (l : List Rec) (p k : Nat) : Prop:=CP (rc l k).kind = true ∧ (rc l k).page = p
theorem Oa {P : Page} {l : List Rec} {p : Nat} : ∀ {n : Nat} {k : Nat},k < n → (Cf P l p n).lsn < (k + 1 : Nat) → ¬ TU l p k
 | 0,k,hk,_ => by omega
 | n + 1,k,hk,h => by
  rw [Cf] at h
  split at h
  ·have : (doR (Cf P l p n) (rc l n) ((n + 1 : Nat) : Int)).lsn = ((n + 1 : Nat) : Int):=rfl
   rw [this] at h
   omega
  ·rename_i hc
   rcases Nat.eq_or_lt_of_le (Nat.le_of_lt_succ hk) with rfl | hlt
   ·exact fun hch => hc ⟨hch.1,hch.2,h⟩
   ·exact Oa hlt h
theorem J9 {P : Page} {l : List Rec} {p : Nat} : ∀ {n : Nat},(∀ k,k < n → P.lsn < (k + 1 : Nat) → ¬ TU l p k) → Cf P l p n = P
 | 0,_ => rfl
 | n + 1,h => by
  have ih:=J9 (P:=P) (l:=l) (p:=p) (n:=n) (fun k hk => h k (by omega))
  rw [Cf,ih,if_neg]
  exact fun hc => h n (by omega) hc.2.2 ⟨hc.1,hc.2.1⟩
theorem He {P : Page} {l : List Rec} {r : Rec} {p : Nat} : Cf P (l ++ [r]) p (l.length + 1) = if CP r.kind = true ∧ r.page = p ∧ (Cf P l p l.length).lsn < (l.length + 1 : Nat) then doR (Cf P l p l.length) r (l.length + 1 : Nat) else Cf P l p l.length:=by
 rw [Cf,BR,Ic P p (Cw l [r])]
theorem DZ {l : List Rec} {n m : Nat} {p : Int} (h : m ∈ UA l n p) : 0 < m ∧ m ≤ n ∧ (rc l (m - 1)).page = p ∧ ∃ t,m ∈ U l t n:=by
 have hF : ∀ t,m ∈ F l n p t → 0 < m ∧ m ≤ n ∧ (rc l (m - 1)).page = p ∧ ∃ t,m ∈ U l t n:=fun t hm => by
  obtain ⟨h1,h2⟩:=List.mem_filter.1 hm
  have:=NA h1
  exact ⟨this.1,this.2,by simpa using h2,t,h1⟩
 rw [UA,List.mem_append,List.mem_append] at h
 rcases h with h | h | h
 ·exact hF _ h
 ·exact hF _ h
 ·exact hF _ h
theorem Qp {l : List Rec} (hl : AQ l = true) {t : Int} {n m : Nat} (hn : n ≤ l.length) (h : m ∈ U l t n) : (rc l (m - 1)).kind = 1 ∨ (rc l (m - 1)).kind = 2:=by
 have:=Bf l t n
 exact (Tw hl _ (by omega) m h).2.2
theorem U2 {l : List Rec} (hl : AQ l = true) {n : Nat} {p : Int} (hn : n ≤ l.length) : ∀ m ∈ UA l n p,(rc l (m - 1)).slot ≤ 2:=fun m hm => by
 obtain ⟨h1,h2,h3,t,h4⟩:=DZ hm
 have:=(Ia hl (m:=m) h1 (by omega) (Qp hl hn h4)).2.2.2
 omega
theorem RG {l : List Rec} (hl : AQ l = true) (hp : EZ l) {p m : Nat} : ∀ {n : Nat},m ≤ n → n ≤ l.length → (∀ k,m ≤ k → k < n → ¬ TU l p k ∧ (rc l k).kind ≠ 4) → UA l n p = UA l m p
  | 0, hm, _, _ => by obtain rfl : m = 0 := by omega
                      rfl
  | n + 1,hm,hn,h => by
    rcases Nat.eq_or_lt_of_le hm with rfl | hlt
    · rfl
    · have ih:=RG hl hp (p:=p) (m:=m) (n:=n) (by omega) (by omega) (fun k h1 h2 => h k h1 (by omega))
      obtain ⟨h1,h2⟩:=h n (by omega) (by omega)
      rw [← ih]
      rcases Ll hl (k:=n) (by omega) with hk | hk | hk | hk | hk | hk
      · rw [Tf hl hp (by omega) (.inl hk),if_neg fun e => h1 ⟨by rw [hk];rfl,e⟩]
      · rw [Tf hl hp (by omega) (.inr hk),if_neg fun e => h1 ⟨by rw [hk];rfl,e⟩]
      · rw [U3 hl (by omega) hk]
      · exact absurd hk h2
      · rw [OC hp (by omega) hk]
      · obtain ⟨x,_,hx⟩:=Qq hl hp (n:=n) (by omega) hk
        rw [hx p,if_neg fun e => h1 ⟨by rw [hk];rfl,e⟩]
def cst (l : List Rec) (t : Int) (n : Nat) : Nat:=(U l t n).length + (if Ap l t n = 0 then 0 else 1)
def Bu (l : List Rec) (n : Nat) : Nat:=cst l 1 n + (cst l 2 n + cst l 3 n)
theorem LV (l : List Rec) : need l = Bu l l.length:=by
 have e1 : (3 - ((2 : Nat) : Int)) = 1:=rfl
 have e2 : (3 - ((1 : Nat) : Int)) = 2:=rfl
 have e3 : (3 - ((0 : Nat) : Int)) = 3:=rfl
 rw [need,IK,IK,IK,IK,e1,e2,e3]
 rfl
theorem Ky {l l' : List Rec} {n : Nat} (h : Agree l l' n) (t : Int) {k : Nat} (hk : k ≤ n) : cst l t k = cst l' t k:=by
 rw [cst,cst,GQ h t hk,CY t (h.le hk)]
theorem GI {l l' : List Rec} {n : Nat} (h : Agree l l' n) {k : Nat} (hk : k ≤ n) : Bu l k = Bu l' k:=by
 rw [Bu,Bu,Ky h 1 hk,Ky h 2 hk,Ky h 3 hk]
theorem UJ {l : List Rec} {t : Int} {n : Nat} (h : (rc l n).tx ≠ t) : cst l t (n + 1) = cst l t n:=by
 rw [cst,cst,Il h,Gf h]
theorem JZ {l : List Rec} {n : Nat} {t : Int} (ht : (rc l n).tx = t) (h3 : t = 1 ∨ t = 2 ∨ t = 3) : Bu l (n + 1) + cst l t n = Bu l n + cst l t (n + 1):=by
 have ho : ∀ s,s ≠ t → cst l s (n + 1) = cst l s n:=fun s hs => UJ (by rw [ht];exact Ne.symm hs)
 rw [Bu,Bu]
 rcases h3 with rfl | rfl | rfl
 ·rw [ho 2 (by decide),ho 3 (by decide)];omega
 ·rw [ho 1 (by decide),ho 3 (by decide)];omega
 ·rw [ho 1 (by decide),ho 2 (by decide)];omega
def Dy (e : Eng) (p : Nat) : Page:=Cf (pg e.disk p) e.log p e.log.length
structure Core (e : Eng) (C : Nat → Page) (B : Nat) : Prop where
 dlen : e.disk.length = 5
 dok : ∀ p,p < 5 → Bt (pg e.disk p) = true
 log : AQ e.log = true
 prop : EZ e.log
 s0 : 0 ≤ e.safe
 s1 : e.safe ≤ e.log.length
 b150 : B ≤ 150
 room : ∀ n,n ≤ e.log.length → n + Bu e.log n ≤ B
 done : ∀ k,k < e.log.length → (rc e.log k).kind = 4 → ((k + 1 : Nat) : Int) ≤ e.safe
 Mc : ∀ p,p < 5 → (pg e.disk p).lsn ≤ e.safe
 good : ∀ n : Nat,e.safe ≤ n → n ≤ e.log.length → ∀ p,p < 5 → EL e.log (C p) (UA e.log n p) (Cf (pg e.disk p) e.log p n)
theorem Core.mem {e : Eng} {C : Nat → Page} {B : Nat} (h : Core e C B) (m : List Page) (d : Bool) : Core { e with mem:=m,down:=d } C B:=
 ⟨h.dlen,h.dok,h.log,h.prop,h.s0,h.s1,h.b150,h.room,h.done,h.Mc,h.good⟩
theorem Core.Ws {e : Eng} {C : Nat → Page} {B : Nat} (h : Core e C B) : e.log.length ≤ 150:=Bg h.log
theorem Core.Wi {e : Eng} {C : Nat → Page} {B : Nat} (h : Core e C B) {p n : Nat} (hp : p < 5) (hn : e.safe ≤ n) : (Cf (pg e.disk p) e.log p n).lsn ≤ n:=by
 have h1:=MF (P:=pg e.disk p) (l:=e.log) (p:=p) n
 have h2:=h.Mc p hp
 omega
theorem Core.rok {e : Eng} {C : Nat → Page} {B : Nat} (h : Core e C B) {p n : Nat} (hp : p < 5) (hn : e.safe ≤ n) (hl : n ≤ e.log.length) : Bt (Cf (pg e.disk p) e.log p n) = true:=II (h.good n hn hl p hp)
theorem Core.snoc {e : Eng} {C : Nat → Page} {B B' : Nat} {r : Rec} (h : Core e C B) (hB : B ≤ B') (hB' : B' ≤ 150) (hl : AQ (e.log ++ [r]) = true) (hr : GR (e.log ++ [r]) e.log.length) (hk : r.kind ≠ 4)
  (hroom : e.log.length + 1 + Bu (e.log ++ [r]) (e.log.length + 1) ≤ B') (hg : ∀ p,p < 5 → EL (e.log ++ [r]) (C p) (UA (e.log ++ [r]) (e.log.length + 1) p) (Cf (pg e.disk p) (e.log ++ [r]) p (e.log.length + 1))) : Core { e with log:=e.log ++ [r] } C B':=by
 have hA:=Cw e.log [r]
 have hlen : (e.log ++ [r]).length = e.log.length + 1:=by simp
 refine ⟨h.dlen,h.dok,hl,Fy h.prop hr,h.s0,?_,hB',fun n hn => ?_,fun k hk' hk4 => ?_,h.Mc,fun n hs hn p hp => ?_⟩
 ·have:=h.s1
  show e.safe ≤ ((e.log ++ [r]).length : Nat)
  rw [hlen];omega
 ·have hn : n ≤ (e.log ++ [r]).length:=hn
  show n + Bu (e.log ++ [r]) n ≤ B'
  rw [hlen] at hn
  rcases Nat.lt_or_ge e.log.length n with hlt | hge
  ·obtain rfl : n = e.log.length + 1:=by omega
   exact hroom
  ·rw [GI hA hge]
   have:=h.room n hge
   omega
 ·have hk' : k < (e.log ++ [r]).length:=hk'
  have hk4 : (rc (e.log ++ [r]) k).kind = 4:=hk4
  rw [hlen] at hk'
  rcases Nat.lt_or_ge k e.log.length with hlt | hge
  ·rw [MG hlt] at hk4
   exact h.done k hlt hk4
  ·obtain rfl : k = e.log.length:=by omega
   rw [BR] at hk4
   exact absurd hk4 hk
 ·have hn : n ≤ (e.log ++ [r]).length:=hn
  rw [hlen] at hn
  show EL (e.log ++ [r]) (C p) (UA (e.log ++ [r]) n p) (Cf (pg e.disk p) (e.log ++ [r]) p n)
  rcases Nat.lt_or_ge e.log.length n with hlt | hge
  ·obtain rfl : n = e.log.length + 1:=by omega
   exact hg p hp
  ·rw [Fb hA p hge,Ic _ p (hA.le hge)]
   exact Db hA.symm (fun m hm => by have:=DZ hm;omega) (h.good n hs hge p hp)
def ld (l : List Rec) (t : Int) (n : Nat) (p : Int) : Bool:=F8 l (Ap l t n) p
theorem Vm (l : List Rec) (p : Int) : IQ l p 3 = (ld l 1 l.length p || (ld l 2 l.length p || ld l 3 l.length p)):=by
 have e1 : (3 - ((2 : Nat) : Int)) = 1:=rfl
 have e2 : (3 - ((1 : Nat) : Int)) = 2:=rfl
 have e3 : (3 - ((0 : Nat) : Int)) = 3:=rfl
 rw [IQ,IQ,IQ,IQ,e1,e2,e3,Bool.or_false]
 rfl
theorem Vo {l : List Rec} {t p : Int} {n : Nat} : ld l t n p = true ↔ ∃ m ∈ Ch l t n,(rc l (m - 1)).kind = 3 ∧ (rc l (m - 1)).page = p:=by
 simp [ld,F8,Ch]
theorem MN {l : List Rec} {t p : Int} {n : Nat} (h : ld l t n p = true) : has l t n p = true:=by
 obtain ⟨m,h1,_,h2⟩:=Vo.1 h
 exact TP.2 ⟨m,h1,h2⟩
theorem Hr {l l' : List Rec} {n : Nat} (h : Agree l l' n) (t p : Int) {k : Nat} (hk : k ≤ n) : ld l t k p = ld l' t k p:=by
 rw [ld,ld,CY t (h.le hk)]
 exact Rj h p (by have:=Bf l' t k;omega)
theorem M0 {l : List Rec} {t : Int} {k : Nat} (h : (rc l k).tx ≠ t) (p : Int) : ld l t (k + 1) p = ld l t k p:=by rw [ld,Gf h,ld]
theorem SC {l : List Rec} {t : Int} {k : Nat} (h : (rc l k).tx = t) (he : EY (rc l k).kind = true) (p : Int) : ld l t (k + 1) p = false:=by rw [ld,IV h he,Lg]
theorem TI {l : List Rec} (hl : AQ l = true) {k : Nat} (hk : k < l.length) (h : EY (rc l k).kind = false) (p : Int) : ld l (rc l k).tx (k + 1) p = (((rc l k).kind == 3 && (rc l k).page == p) || ld l (rc l k).tx k p):=by
 have F:=AJ hl hk
 rw [ld,FH rfl h,SA F.prev_le,F.last,ld]
def lds (l : List Rec) (n : Nat) (p : Int) : Bool:=ld l 1 n p || (ld l 2 n p || ld l 3 n p)
theorem LZ {l : List Rec} {n : Nat} {p : Int} : lds l n p = true ↔ ∃ t,(t = 1 ∨ t = 2 ∨ t = 3) ∧ ld l t n p = true:=by
 simp only [lds,Bool.or_eq_true]
 constructor
 ·rintro (h | h | h)
  ·exact ⟨1,by simp,h⟩
  ·exact ⟨2,by simp,h⟩
  ·exact ⟨3,by simp,h⟩
 ·rintro ⟨t,rfl | rfl | rfl,h⟩
  ·exact .inl h
  ·exact .inr (.inl h)
  ·exact .inr (.inr h)
theorem Rn {l : List Rec} {n : Nat} {p : Int} (h : ∀ t,ld l t (n + 1) p = ld l t n p) : lds l (n + 1) p = lds l n p:=by rw [lds,lds,h,h,h]
theorem IU {l l' : List Rec} {n : Nat} (h : Agree l l' n) (p : Int) {k : Nat} (hk : k ≤ n) : lds l k p = lds l' k p:=by
 rw [lds,lds,Hr h 1 p hk,Hr h 2 p hk,Hr h 3 p hk]
theorem Oj {l : List Rec} (hl : AQ l = true) {n : Nat} (hn : n < l.length) (he : EY (rc l n).kind = false) {p : Int} (h : ¬ ((rc l n).kind = 3 ∧ (rc l n).page = p)) : lds l (n + 1) p = lds l n p:=by
 refine Rn fun t => ?_
 by_cases ht : (rc l n).tx = t
 ·subst ht
  rw [TI hl hn he]
  have : ((rc l n).kind == 3 && (rc l n).page == p) = false:=by
   rw [Bool.eq_false_iff]
   intro h2
   simp only [Bool.and_eq_true,beq_iff_eq] at h2
   exact h h2
  rw [this,Bool.false_or]
 ·exact M0 ht p
theorem TH {l : List Rec} {n : Nat} (he : EY (rc l n).kind = true) {p : Int} (h : ld l (rc l n).tx n p = false) : lds l (n + 1) p = lds l n p:=by
 refine Rn fun t => ?_
 by_cases ht : (rc l n).tx = t
 ·subst ht
  rw [SC rfl he,h]
 ·exact M0 ht p
structure Qv (e : Eng) (p : Nat) : Prop where
 ok : Bt (pg e.mem p) = true
 owner : (pg e.mem p).owner = (Dy e p).owner
 lsn : (pg e.mem p).lsn ≤ e.log.length
 cases : (lds e.log e.log.length p = false ∧ pg e.mem p = Dy e p) ∨ (lds e.log e.log.length p = true ∧ (pg e.mem p).lsn = BN e.log p e.log.length ∧ ((pg e.disk p).lsn < (pg e.mem p).lsn ∨ pg e.mem p = pg e.disk p) ∧ (pg e.mem p = Dy e p ∨ Qj e.log (UA e.log e.log.length p)))
def UpC (l : List Rec) : Prop := ∀ t, ∀ m ∈ Ch l t l.length,(rc l (m - 1)).kind ≠ 6
structure Inv (e : Eng) (C : Nat → Page) (B : Nat) : Prop where
 core : Core e C B
 mlen : e.mem.length = 5
 dn : e.down = true → e.mem = e.disk
 upc : e.down = false → UpC e.log
 upm : e.down = false → ∀ p,p < 5 → Qv e p
theorem Qv.alt {e : Eng} {p : Nat} (h : Qv e p) : pg e.mem p = Dy e p ∨ Qj e.log (UA e.log e.log.length p):=by
 rcases h.cases with h | h
 ·exact .inl h.2
 ·exact h.2.2.2
theorem Core.Q6 {e : Eng} {C : Nat → Page} {B : Nat} (h : Core e C B) {p : Nat} (hp : p < 5) {M : Page} (hok : Bt M = true) (ho : M.owner = (Dy e p).owner) (ha : M = Dy e p ∨ Qj e.log (UA e.log e.log.length p)) : EL e.log (C p) (UA e.log e.log.length p) M:=by
 have hg:=h.good e.log.length h.s1 (Nat.le_refl _) p hp
 rcases ha with ha | ha
 ·rw [ha];exact hg
 ·exact JX (U2 h.log (Nat.le_refl _)) ha hok ho hg
def Eng.app (e : Eng) (r : Rec) : Eng:=
 { e with log:=e.log ++ [{ r with prev:=Ap e.log r.tx e.log.length }],mem:=if CP r.kind = true then e.mem.set r.page.toNat (doR (pg e.mem r.page.toNat) r (e.log.length + 1 : Nat)) else e.mem }
abbrev lastT (e : Eng) (tx : Int) : Nat:=Ap e.log tx e.log.length
def DN (e : Eng) (tx : Int) : Rec:=if BG e.log (lastT e tx) = 0 then ⟨5,tx,0,0,0,0,0,0⟩ else BD (rc e.log (BG e.log (lastT e tx) - 1)) 0
def BA (e : Eng) (tx : Int) : Eng:=e.app (DN e tx)
theorem ES (p : Page) (r : Rec) (n : Int) : doR p r n = ⟨n,(Bj p r).owner,(Bj p r).vals⟩:=rfl
theorem Le {l : List Rec} (r : Rec) : Bu (l ++ [r]) l.length = Bu l l.length:=GI (Cw l [r]) (Nat.le_refl _)
theorem Qk {l : List Rec} (r : Rec) (t : Int) : cst (l ++ [r]) t l.length = cst l t l.length:=Ky (Cw l [r]) t (Nat.le_refl _)
theorem Ht (l : List Rec) (tx : Int) : ∀ n,Ap l tx n = 0 ∨ (rc l (Ap l tx n - 1)).tx = tx
 | 0 => .inl rfl
 | n + 1 => by
  rw [Ap]
  split
  ·rename_i h
   split
   ·exact .inl rfl
   ·exact .inr h
  ·exact Ht l tx n
theorem Wo {l : List Rec} (hl : AQ l = true) {k : Nat} (hk : k < l.length) : EW l (k + 1) = 0 ∨ (rc l (EW l (k + 1) - 1)).tx = (rc l k).tx:=by
 have h:=hl
 simp only [AQ,Bool.and_eq_true] at h
 have ha:=Px h.1 hk
 simp only [atOk,Bool.and_eq_true,beq_iff_eq,decide_eq_true_eq,Bool.or_eq_true] at ha
 simp only [EW,Nat.add_sub_cancel]
 rcases ha.2 with h4 | h4
 ·exact .inl (by omega)
 ·exact .inr h4
theorem VZ {l : List Rec} (hl : AQ l = true) (tx : Int) (n : Nat) : n ≤ l.length → (n = 0 ∨ (rc l (n - 1)).tx = tx) → ∀ m ∈ D5 l n,(rc l (m - 1)).tx = tx:=by
 induction n using Nat.strongRecOn with
 | _ n ih =>
  intro hn ht m hm
  match n with
  | 0 => rw [D9] at hm;cases hm
  | n + 1 =>
   have ht : (rc l n).tx = tx:=by
    rcases ht with ht | ht
    ·omega
    ·simpa using ht
   have FF:=AJ hl (k:=n) (by omega)
   have hp : BQ l (n + 1) = 0 ∨ (rc l (BQ l (n + 1) - 1)).tx = tx:=by
    rw [FF.last,ht]
    exact Ht l tx n
   have h1:=FF.prev_le
   have h2:=FF.next_le
   rw [D5] at hm
   split at hm
   ·rcases List.mem_cons.1 hm with rfl | hm
    ·simpa using ht
    ·try rw [dif_pos h1] at hm
     exact ih _ (by omega) (by omega) hp m hm
   ·split at hm
    ·try rw [dif_pos h2] at hm
     exact ih _ (by omega) (by omega) (by rw [← ht];exact Wo hl (by omega)) m hm
    ·try rw [dif_pos h1] at hm
     exact ih _ (by omega) (by omega) hp m hm
theorem Y5 {l : List Rec} (hl : AQ l = true) {tx : Int} {n m : Nat} (hn : n ≤ l.length) (h : m ∈ U l tx n) : (rc l (m - 1)).tx = tx:=by
 have:=Bf l tx n
 exact VZ hl tx _ (by omega) (Ht l tx n) m h
inductive StepKind (l : List Rec) (tx : Int) : Rec → Prop
 | fin (h : U l tx l.length = []) : StepKind l tx ⟨5,tx,0,0,0,0,Ap l tx l.length,0⟩
 | JN (m : Nat) (ms : List Nat) (h : U l tx l.length = m :: ms) (h0 : 0 < m) (hm : m ≤ l.length) (hk : (rc l (m - 1)).kind = 1 ∨ (rc l (m - 1)).kind = 2) (ht : (rc l (m - 1)).tx = tx) : StepKind l tx (BD (rc l (m - 1)) (Ap l tx l.length))
def CX (e : Eng) (tx : Int) : Rec:={ DN e tx with prev:=Ap e.log (DN e tx).tx e.log.length }
theorem EQ {e : Eng} (hl : AQ e.log = true) (tx : Int) : StepKind e.log tx (CX e tx):=by
 have hle:=Bf e.log tx e.log.length
 unfold CX DN
 split
 ·rename_i h0
  exact .fin (Gz h0)
 ·rename_i h0
  obtain ⟨ms,hm⟩:=Nf (l:=e.log) (n:=lastT e tx) rfl (by omega)
  obtain ⟨h1,h2,h3,h4⟩:=G9 _ _ ms hm
  have hU : U e.log tx e.log.length = BG e.log (lastT e tx) :: ms:=hm
  have ht:=Y5 hl (Nat.le_refl _) (tx:=tx) (m:=BG e.log (lastT e tx)) (by rw [hU];exact List.mem_cons_self)
  have:=StepKind.JN (l:=e.log) (tx:=tx) (BG e.log (lastT e tx)) ms hU h1 (by unfold lastT at h2 ⊢;omega) h3 ht
  have e1 : Ap e.log tx e.log.length = Ap e.log (BD (rc e.log (BG e.log (lastT e tx) - 1)) 0).tx e.log.length:=by
   show Ap e.log tx e.log.length = Ap e.log (rc e.log (BG e.log (lastT e tx) - 1)).tx e.log.length
   rw [ht]
  rw [← e1]
  exact this
theorem StepKind.tx {l : List Rec} {tx : Int} {r : Rec} (h : StepKind l tx r) : r.tx = tx:=by
 cases h with
 | fin => rfl
 | JN m ms _ _ _ _ ht => exact ht
theorem StepKind.prev {l : List Rec} {tx : Int} {r : Rec} (h : StepKind l tx r) : r.prev = Ap l tx l.length:=by
 cases h <;> rfl
theorem StepKind.ne4 {l : List Rec} {tx : Int} {r : Rec} (h : StepKind l tx r) : r.kind ≠ 4:=by
 cases h <;> simp [BD]
theorem StepKind.ok {l : List Rec} {tx : Int} {r : Rec} (hl : AQ l = true) (h : StepKind l tx r) (ht : 1 ≤ tx ∧ tx ≤ 3) : D6 r = true:=by
 have hle:=Bf l tx l.length
 have h150:=Bg hl
 cases h with
 | fin => rw [Dg];simp;omega
 | JN m ms h h0 hm hk ht =>
  have hr:=(Ia hl h0 hm hk).1
  have FF:=AJ hl (k:=m - 1) (by omega)
  have hp:=FF.prev
  have hpl:=FF.prev_le
  rw [Dg] at hr
  rw [Dg]
  simp only [BD]
  have hs:=Bf l tx l.length
  refine ⟨.inr (.inr (.inr (.inr ⟨trivial,by omega,by omega,by omega,by omega,trivial,by omega,fun _ => by omega,by omega,by omega,by omega⟩))),by omega,by omega,by omega,by omega⟩
theorem StepKind.log {l : List Rec} {tx : Int} {r : Rec} (hl : AQ l = true) (h : StepKind l tx r) (ht : 1 ≤ tx ∧ tx ≤ 3) (h150 : l.length + 1 ≤ 150) : AQ (l ++ [r]) = true:=by
 have hok:=h.ok hl ht
 refine Jg hl hok (by rw [h.prev,h.tx]) ?_ ?_ h150
 ·cases h with
  | fin => simp
  | JN m ms h h0 hm hk ht =>
   have FF:=AJ hl (k:=m - 1) (by omega)
   have h1:=FF.prev
   have h2:=FF.prev_le
   simp only [BD]
   omega
 ·cases h with
  | fin => exact .inl (Int.le_refl _)
  | JN m ms h h0 hm hk ht =>
   have FF:=AJ hl (k:=m - 1) (by omega)
   have h1:=FF.prev
   have h3:=Ht l (rc l (m - 1)).tx (m - 1)
   rw [← FF.last] at h3
   rw [show m - 1 + 1 = m by omega] at h1 h3
   simp only [BD]
   rcases h3 with h3 | h3
   ·exact .inl (by omega)
   ·refine .inr ?_
    rw [h1]
    exact h3
theorem StepKind.next {l : List Rec} {tx : Int} {r : Rec} (hl : AQ l = true) (h : StepKind l tx r) (ht : 1 ≤ tx ∧ tx ≤ 3) (h150 : l.length + 1 ≤ 150) : U (l ++ [r]) tx (l.length + 1) = (U l tx l.length).tail ∧ (∀ t,t ≠ tx → U (l ++ [r]) t (l.length + 1) = U l t l.length ∧ Ap (l ++ [r]) t (l.length + 1) = Ap l t l.length) ∧ Ap (l ++ [r]) tx (l.length + 1) = if U l tx l.length = [] then 0 else l.length + 1:=by
 have hl':=h.log hl ht h150
 have hA:=Cw l [r]
 have hlen : l.length < (l ++ [r]).length:=by simp
 have hrt : (rc (l ++ [r]) l.length).tx = tx:=by rw [BR,h.tx]
 refine ⟨?_,fun t hne => ?_,?_⟩
 ·cases h with
  | fin h =>
   rw [PL hrt (by rw [BR];rfl),h]
   rfl
  | JN m ms h h0 hm hk htx =>
   have FF:=AJ hl' hlen
   have hn : EW (l ++ [BD (rc l (m - 1)) (Ap l tx l.length)]) (l.length + 1) = BQ l m:=by
    simp only [EW,BQ,Nat.add_sub_cancel]
    rw [BR]
    rfl
   have h2:=G9 _ _ _ h
   have Fm:=AJ hl (k:=m - 1) (by omega)
   have hpm:=Fm.prev_le
   rw [show m - 1 + 1 = m by omega] at hpm
   rw [U,FH hrt (by rw [BR];rfl),Mv (by rw [BR];rfl) FF.next_le,hn,O4 hA _ (by omega),h,List.tail_cons,(h2.2.2.2 (by omega)).1]
 ·have hne' : (rc (l ++ [r]) l.length).tx ≠ t:=by rw [hrt];exact Ne.symm hne
  rw [Il hne',Gf hne',GQ hA t (Nat.le_refl _),CY t hA]
  exact ⟨rfl,rfl⟩
 ·cases h with
  | fin h => rw [if_pos h,IV hrt (by rw [BR];rfl)]
  | JN m ms h h0 hm hk htx => rw [if_neg (by rw [h];simp),FH hrt (by rw [BR];rfl)]
theorem StepKind.need {l : List Rec} {tx : Int} {r : Rec} (hl : AQ l = true) (h : StepKind l tx r) (ht : tx = 1 ∨ tx = 2 ∨ tx = 3) (h150 : l.length + 1 ≤ 150) (hlast : Ap l tx l.length ≠ 0) : Bu (l ++ [r]) (l.length + 1) + 1 = Bu l l.length:=by
 have hN:=h.next hl (by omega) h150
 have hs:=JZ (l:=l ++ [r]) (n:=l.length) (t:=tx) (by rw [BR,h.tx]) ht
 rw [Le,Qk] at hs
 have e1 : cst (l ++ [r]) tx (l.length + 1) = (U l tx l.length).tail.length + (if U l tx l.length = [] then 0 else 1):=by
  rw [cst,hN.1,hN.2.2]
  split
  ·simp
  ·simp
 have e2 : cst l tx l.length = (U l tx l.length).length + 1:=by rw [cst,if_neg hlast]
 rw [e1,e2] at hs
 cases hU : U l tx l.length with
 | nil => rw [hU] at hs;simp at hs;omega
 | cons a t => rw [hU] at hs;simp at hs;omega
theorem Core.one {e : Eng} {C : Nat → Page} {B : Nat} (h : Core e C B) {tx : Int} (ht : tx = 1 ∨ tx = 2 ∨ tx = 3) (hlast : lastT e tx ≠ 0) : e.log.length + 1 ≤ 150:=by
 have h1:=h.room e.log.length (Nat.le_refl _)
 have h2:=h.b150
 have h3 : cst e.log tx e.log.length ≥ 1:=by rw [cst,if_neg hlast];omega
 have h4 : cst e.log tx e.log.length ≤ Bu e.log e.log.length:=by
  rw [Bu]
  rcases ht with rfl | rfl | rfl <;> omega
 omega
theorem Kk (e : Eng) (tx : Int) : (BA e tx).log = e.log ++ [CX e tx]:=rfl
theorem PK {e : Eng} {tx : Int} : (CX e tx).kind = (DN e tx).kind ∧ (CX e tx).page = (DN e tx).page:=⟨rfl,rfl⟩
theorem Pt {e : Eng} {C : Nat → Page} {B : Nat} (_h : Core e C B) {tx : Int} {r : Rec} (hk : StepKind e.log tx r) (hlast : lastT e tx ≠ 0) : GR (e.log ++ [r]) e.log.length:=by
 have hA:=Cw e.log [r]
 cases hk with
 | fin hU =>
  refine ⟨?_,?_,?_,?_,?_⟩
  all_goals rw [BR]
  ·intro hk;simp at hk
  ·intro hk;simp at hk
  ·intro _;rw [GQ hA tx (Nat.le_refl _)];exact hU
  ·intro _
   rw [CY tx hA]
   exact Nat.pos_of_ne_zero hlast
  ·intro hk;simp at hk
 | JN m ms hU h0 hm hkk htx =>
  refine ⟨?_,?_,?_,?_,?_⟩
  all_goals rw [BR]
  ·intro hk;simp [BD] at hk
  ·intro _
   refine ⟨m,ms,?_,?_⟩
   ·show U _ (rc e.log (m - 1)).tx _ = _
    rw [htx,GQ hA tx (Nat.le_refl _)]
    exact hU
   ·rw [MG (by omega)]
    rfl
  ·intro hk;simp [BD] at hk
  ·intro he;simp [BD,EY] at he
  ·intro hk;simp [BD] at hk
theorem Core.step {e : Eng} {C : Nat → Page} {B : Nat} (h : Core e C B) {tx : Int} (ht : tx = 1 ∨ tx = 2 ∨ tx = 3) (hlast : lastT e tx ≠ 0) : Core (BA e tx) C B:=by
 have h1:=h.one ht hlast
 have hk:=EQ (e:=e) h.log tx
 have hl':=hk.log h.log (by omega) h1
 have hpr:=Pt h hk hlast
 have hneed:=hk.need h.log ht h1 hlast
 have hroom:=h.room e.log.length (Nat.le_refl _)
 have hP:=Fy h.prop hpr
 have hlen : e.log.length < (e.log ++ [CX e tx]).length:=by simp
 have hA:=Cw e.log [CX e tx]
 have hgood:=h.good e.log.length h.s1 (Nat.le_refl _)
 refine (Core.snoc h (Nat.le_refl _) h.b150 hl' hpr ?_ (by omega) ?_).mem _ _
 ·exact hk.ne4
 ·intro p hp
  have hg:=hgood p hp
  have hrl:=h.Wi (p:=p) hp h.s1
  generalize CX e tx = r at hk hl' hpr hneed hP hlen hA ⊢
  rw [He]
  cases hk with
  | fin hU =>
   rw [if_neg (fun hc => by simp [CP] at hc),OC hP hlen (by rw [BR]),Fb hA p (Nat.le_refl _)]
   exact Db hA.symm (fun m hm => by have:=DZ hm;omega) hg
  | JN m ms hU h0 hm hkk htx =>
   obtain ⟨m',hm',hUA⟩:=Qq hl' hP hlen (by rw [BR];rfl)
   rw [BR] at hm' hUA
   have hU2:=hUA p
   rw [Fb hA p (Nat.le_refl _)] at hU2
   by_cases hpg : (BD (rc e.log (m - 1)) (Ap e.log tx e.log.length)).page = p
   ·rw [if_pos hpg] at hU2
    rw [if_pos ⟨rfl,hpg,by omega⟩]
    have hg':=Db hA.symm (fun m hm => by have:=DZ hm;omega) hg
    rw [hU2] at hg'
    rw [ES]
    have hw : Bj (Cf (pg e.disk p) e.log p e.log.length) (BD (rc e.log (m - 1)) (Ap e.log tx e.log.length)) = Bj (Cf (pg e.disk p) e.log p e.log.length) (BD (rc (e.log ++ [BD (rc e.log (m - 1)) (Ap e.log tx e.log.length)]) (m' - 1)) 0):=(congrArg (Bj _) hm').trans rfl
    rw [hw]
    exact Jc (by omega) (by omega) hg'.2
   ·rw [if_neg hpg] at hU2
    rw [if_neg (fun hc => hpg hc.2.1), ← hU2]
    exact Db hA.symm (fun m hm => by have:=DZ hm;omega) hg
theorem KC {e : Eng} {r : Rec} (hm : e.mem.length = 5) (hpg : CP r.kind = true → 0 ≤ r.page ∧ r.page ≤ 4) (p : Nat) : pg (e.app r).mem p = if CP r.kind = true ∧ r.page = p then doR (pg e.mem p) r (e.log.length + 1 : Nat) else pg e.mem p:=by
 unfold Eng.app
 by_cases hc : CP r.kind = true
 ·have h1:=hpg hc
  simp only [hc,if_true]
  rw [FM (by omega)]
  by_cases e1 : r.page = p
  ·have e2 : r.page.toNat = p:=by omega
   rw [if_pos e2,if_pos ⟨trivial,e1⟩,e2]
  ·rw [if_neg (by omega),if_neg (fun h => e1 h.2)]
 ·simp only [hc]
  rw [if_neg (fun h => by simp at h)]
  rfl
theorem Mf (e : Eng) (r : Rec) : (e.app r).mem.length = e.mem.length:=by
 unfold Eng.app
 split
 ·simp
 ·rfl
theorem OB {e : Eng} {C : Nat → Page} {B : Nat} (h : Core e C B) (r : Rec) {p : Nat} (hp : p < 5) : Dy (e.app r) p = if CP r.kind = true ∧ r.page = p then doR (Dy e p) r (e.log.length + 1 : Nat) else Dy e p:=by
 have hrl:=h.Wi (p:=p) hp h.s1
 have : Dy (e.app r) p = Cf (pg e.disk p) (e.log ++ [{ r with prev:=Ap e.log r.tx e.log.length }]) p (e.log.length + 1):=by
  unfold Dy Eng.app
  simp
 rw [this,He]
 unfold Dy
 by_cases hc : CP r.kind = true ∧ r.page = p
 ·rw [if_pos hc,if_pos ⟨hc.1,hc.2,by omega⟩]
  rfl
 ·rw [if_neg hc,if_neg (fun h => hc ⟨h.1,h.2.1⟩)]
theorem Iz {e : Eng} (hl : AQ e.log = true) (tx : Int) : CP (DN e tx).kind = true → 0 ≤ (DN e tx).page ∧ (DN e tx).page ≤ 4:=by
 have hk:=EQ (e:=e) hl tx
 intro hc
 rw [← PK.1] at hc
 rw [← PK.2]
 generalize CX e tx = r at hk hc ⊢
 cases hk with
 | fin => simp [CP] at hc
 | JN m ms h h0 hm hk ht =>
  have:=Ia hl h0 hm hk
  simp only [BD]
  omega
theorem Uj {e : Eng} {C : Nat → Page} {B : Nat} (h : Core e C B) (hm : e.mem.length = 5) (tx : Int) (hr : ∀ p,p < 5 → pg e.mem p = Dy e p) : ∀ p,p < 5 → pg (BA e tx).mem p = Dy (BA e tx) p:=fun p hp => by
 unfold BA
 rw [KC hm (Iz h.log tx),OB h _ hp,hr p hp]
theorem Li {l : List Rec} {p : Int} {n : Nat} (h : (rc l n).page = p ∧ (CP (rc l n).kind = true ∨ (rc l n).kind = 3)) : BN l p (n + 1) = n + 1:=by rw [BN,if_pos h]
theorem Gr {l : List Rec} {p : Int} {n : Nat} (h : ¬ ((rc l n).page = p ∧ (CP (rc l n).kind = true ∨ (rc l n).kind = 3))) : BN l p (n + 1) = BN l p n:=by rw [BN,if_neg h]
theorem Qv.step {e : Eng} {C : Nat → Page} {B : Nat} (h : Core e C B) (hm : e.mem.length = 5) {tx : Int} (ht : tx = 1 ∨ tx = 2 ∨ tx = 3) (hlast : lastT e tx ≠ 0) {p : Nat} (hp : p < 5) (hr : Qv e p) : Qv (BA e tx) p:=by
 have h1:=h.one ht hlast
 have hk:=EQ (e:=e) h.log tx
 have hl':=hk.log h.log (by omega) h1
 have hpr:=Pt h hk hlast
 have hP:=Fy h.prop hpr
 have hlen : e.log.length < (e.log ++ [CX e tx]).length:=by simp
 have hlen1 : (e.log ++ [CX e tx]).length = e.log.length + 1:=by simp
 have hA:=Cw e.log [CX e tx]
 have hM:=KC hm (Iz h.log tx) p
 have hR:=OB h (DN e tx) hp
 have hpath:=h.Q6 hp hr.ok hr.owner hr.alt
 have hLl : (BA e tx).log = e.log ++ [CX e tx]:=rfl
 have hds:=h.Mc p hp
 have hs1:=h.s1
 have hdisk : (BA e tx).disk = e.disk:=rfl
 have hM : pg (BA e tx).mem p = if CP (CX e tx).kind = true ∧ (CX e tx).page = p then doR (pg e.mem p) (CX e tx) (e.log.length + 1 : Nat) else pg e.mem p:=hM
 have hR : Dy (BA e tx) p = if CP (CX e tx).kind = true ∧ (CX e tx).page = p then doR (Dy e p) (CX e tx) (e.log.length + 1 : Nat) else Dy e p:=hR
 have hcs:=hr.cases
 generalize CX e tx = r at hk hl' hpr hP hlen hlen1 hA hM hR hLl
 cases hk with
 | fin hU =>
  have hno : ¬ (CP (5 : Int) = true ∧ (0 : Int) = p):=fun hc => by simp [CP] at hc
  rw [if_neg hno] at hM hR
  have hUA : UA (e.log ++ [⟨5,tx,0,0,0,0,Ap e.log tx e.log.length,0⟩]) (e.log.length + 1) p = UA e.log e.log.length p:=by
   rw [OC hP hlen (by rw [BR]),Fb hA p (Nat.le_refl _)]
  have hlo : BN (e.log ++ [⟨5,tx,0,0,0,0,Ap e.log tx e.log.length,0⟩]) p (e.log.length + 1) = BN e.log p e.log.length:=by
   rw [Gr (by rw [BR];simp [CP]),Eu _ hA]
  refine ⟨by rw [hM];exact hr.ok,by rw [hM,hR];exact hr.owner,?_,?_⟩
  ·rw [hM,hLl,hlen1];have:=hr.lsn;omega
  ·rw [hM,hR,hLl,hlen1,hdisk,hUA,hlo]
   cases hldt : ld e.log tx e.log.length p
   ·have hls : lds (e.log ++ [⟨5,tx,0,0,0,0,Ap e.log tx e.log.length,0⟩]) (e.log.length + 1) p = lds e.log e.log.length p:=by
     rw [TH (by rw [BR];rfl) (by rw [BR,Hr hA _ _ (Nat.le_refl _)];exact hldt),IU hA p (Nat.le_refl _)]
    rw [hls]
    rcases hcs with hc | ⟨a,b,c,d⟩
    ·exact .inl hc
    ·exact .inr ⟨a,b,c,d.imp id (fun hz => Eg hA.symm (fun m hm => by have:=DZ hm;omega) hz)⟩
   ·have hhas:=MN hldt
    have hoth : ∀ s,s ≠ tx → has e.log s e.log.length p = false:=fun s hs => Hq h.log h.prop _ (Nat.le_refl _) _ _ _ (Ne.symm hs) hhas
    have hUe : UA e.log e.log.length p = []:=by
     rw [Lr h.log h.prop (Nat.le_refl _) ht hoth,F,hU];rfl
    refine .inl ⟨?_,?_⟩
    ·rw [Bool.eq_false_iff]
     intro hl
     obtain ⟨t,_,hlt⟩:=LZ.1 hl
     by_cases e1 : tx = t
     ·subst e1
      rw [SC (by rw [BR]) (by rw [BR];rfl)] at hlt
      cases hlt
     ·rw [M0 (by rw [BR];exact e1),Hr hA _ _ (Nat.le_refl _)] at hlt
      have:=hoth t (Ne.symm e1)
      rw [MN hlt] at this
      cases this
    ·rcases hcs with hc | ⟨a,b,c,d⟩
     ·exact hc.2
     ·rcases d with d | d
      ·exact d
      ·rw [hUe] at d
       obtain ⟨m,hm,_⟩:=d
       cases hm
 | JN m ms hU h0 hm hkk htx =>
  have hls : lds (e.log ++ [BD (rc e.log (m - 1)) (Ap e.log tx e.log.length)]) (e.log.length + 1) p = lds e.log e.log.length p:=by
   rw [Oj hl' hlen (by rw [BR];rfl) (by rw [BR];simp [BD]),IU hA p (Nat.le_refl _)]
  obtain ⟨m',hm',hUA⟩:=Qq hl' hP hlen (by rw [BR];rfl)
  rw [BR] at hm' hUA
  have hU2:=hUA p
  rw [Fb hA p (Nat.le_refl _)] at hU2
  by_cases hpg : (BD (rc e.log (m - 1)) (Ap e.log tx e.log.length)).page = p
  ·rw [if_pos hpg] at hU2
   rw [if_pos ⟨rfl,hpg⟩] at hM hR
   have hpath':=Db hA.symm (fun m hm => by have:=DZ hm;omega) hpath
   rw [hU2] at hpath'
   have hw : ∀ P : Page,Bj P (BD (rc e.log (m - 1)) (Ap e.log tx e.log.length)) = Bj P (BD (rc (e.log ++ [BD (rc e.log (m - 1)) (Ap e.log tx e.log.length)]) (m' - 1)) 0):=fun P => (congrArg (Bj P) hm').trans rfl
   have hok:=II hpath'.2
   rw [← hw] at hok
   refine ⟨?_,?_,?_,?_⟩
   ·rw [hM,ES]
    exact Hg hok (by omega) (by omega)
   ·rw [hM,hR,ES,ES]
    exact I9 _ hr.owner
   ·rw [hM,hLl,hlen1]
    exact Int.le_refl _
   ·rw [hLl,hlen1,hls,hdisk]
    rcases hcs with hc | ⟨a,b,c,d⟩
    ·exact .inl ⟨hc.1,by rw [hM,hR,hc.2]⟩
    ·refine .inr ⟨a,?_,?_,?_⟩
     ·rw [hM,Li (by rw [BR];exact ⟨hpg, .inl rfl⟩)]
      rfl
     ·left
      rw [hM]
      show _ < ((e.log.length + 1 : Nat) : Int)
      omega
     ·rcases d with d | d
      ·exact .inl (by rw [hM,hR,d])
      ·have d':=Eg hA.symm (fun m hm => by have:=DZ hm;omega) d
       rw [hU2] at d'
       obtain ⟨x,hx,hx1,hx2⟩:=d'
       rcases List.mem_cons.1 hx with rfl | hx
       ·left
        have hz : ∀ P : Page,Bj P (BD (rc (e.log ++ [BD (rc e.log (m - 1)) (Ap e.log tx e.log.length)]) (x - 1)) 0) = ⟨P.lsn,0, [0,0,0]⟩:=fun P => G8 (r:=BD (rc (e.log ++ [BD (rc e.log (m - 1)) (Ap e.log tx e.log.length)]) (x - 1)) 0) hx1 hx2
        rw [hM,hR,ES,ES,hw,hw,hz,hz]
       ·exact .inr ⟨x,hx,hx1,hx2⟩
  ·rw [if_neg hpg] at hU2
   rw [if_neg (fun hc => hpg hc.2)] at hM hR
   have hlo : BN (e.log ++ [BD (rc e.log (m - 1)) (Ap e.log tx e.log.length)]) p (e.log.length + 1) = BN e.log p e.log.length:=by
    rw [Gr (by rw [BR];exact fun hc => hpg hc.1),Eu _ hA]
   refine ⟨by rw [hM];exact hr.ok,by rw [hM,hR];exact hr.owner,?_,?_⟩
   ·rw [hM,hLl,hlen1];have:=hr.lsn;omega
   ·rw [hM,hR,hLl,hlen1,hdisk,hls,hlo, ← hU2]
    rcases hcs with hc | ⟨a,b,c,d⟩
    ·exact .inl hc
    ·exact .inr ⟨a,b,c,d.imp id (fun hz => Eg hA.symm (fun m hm => by have:=DZ hm;omega) hz)⟩
def Apt (M : Page) (r : Rec) : Prop:=
 (r.kind = 1 ∧ M.owner ≠ 0 ∧ 0 ≤ r.slot ∧ r.slot ≤ 2 ∧ 0 ≤ r.new ∧ r.new ≤ 9 ∧ r.old = iv M.vals r.slot.toNat) ∨
 (r.kind = 2 ∧ r.slot = -1 ∧ 0 ≤ r.new ∧ r.new ≤ 3 ∧ (M.owner = 0 ↔ r.new ≠ 0) ∧ M.vals = [0,0,0] ∧ r.old = M.owner)
theorem Apt.kind {M : Page} {r : Rec} (h : Apt M r) : r.kind = 1 ∨ r.kind = 2:=by rcases h with h | h;exact .inl h.1;exact .inr h.1
theorem Apt.chg {M : Page} {r : Rec} (h : Apt M r) : CP r.kind = true:=by rcases h.kind with h | h <;> (rw [h];rfl)
theorem Vt {M : Page} (h : Bt M = true) {k : Nat} (hk : k < 3) : 0 ≤ iv M.vals k ∧ iv M.vals k ≤ 9:=by
 rw [Cq] at h
 have:=h.2.2.2.2.2 _ (Xg (l:=M.vals) (k:=k) (by omega))
 omega
theorem Apt.old {M : Page} {r : Rec} (h : Apt M r) (hM : Bt M = true) : 0 ≤ r.old ∧ r.old ≤ (if r.slot = -1 then 3 else 9):=by
 rcases h with h | h
 ·have:=Vt hM (k:=r.slot.toNat) (by omega)
  rw [if_neg (by omega),h.2.2.2.2.2.2]
  exact this
 ·rw [if_pos h.2.1,h.2.2.2.2.2.2]
  rw [Cq] at hM
  exact ⟨hM.2.2.1,hM.2.2.2.1⟩
theorem X5 {vs : List Int} {i : Nat} (h : i < vs.length) : vs.set i (iv vs i) = vs:=by
 apply List.ext_getElem?
 intro j
 rw [List.getElem?_set]
 split
 ·rename_i e
  subst e
  simp [iv,List.getD_eq_getElem?_getD,h]
 ·rfl
theorem Apt.page {M R : Page} {r : Rec} {n : Int} (ha : Apt M r) (hM : Bt M = true) (hR : Bt R = true) (ho : M.owner = R.owner) (h0 : 0 ≤ n) (h1 : n ≤ 150) :
  Bt (doR R r n) = true ∧ Bt (Bj (doR R r n) (BD r 0)) = true ∧ (Bj (doR R r n) (BD r 0)).owner = R.owner ∧ (M = R → (Bj (doR R r n) (BD r 0)).vals = R.vals):=by
 have hold:=ha.old hM
 have hR':=Cq.1 hR
 rcases ha with ⟨_,a1,a2,a3,a4,a5,a6⟩ | ⟨_,a1,a2,a3,a4,a5,a6⟩
 ·rw [if_neg (by omega)] at hold
  have e1 : doR R r n = ⟨n,R.owner,R.vals.set r.slot.toNat r.new⟩:=by rw [doR,Bj,if_pos a2]
  have e2 : Bj (doR R r n) (BD r 0) = ⟨n,R.owner,R.vals.set r.slot.toNat r.old⟩:=by
   rw [e1,Bj,if_pos (show 0 ≤ (BD r 0).slot from a2)]
   show (⟨n,R.owner,(R.vals.set r.slot.toNat r.new).set r.slot.toNat r.old⟩ : Page) = _
   rw [List.set_set]
  have hR0 : R.owner ≠ 0:=by rw [← ho];exact a1
  have hset : ∀ v : Int,0 ≤ v → v ≤ 9 → Bt ⟨n,R.owner,R.vals.set r.slot.toNat v⟩ = true:=fun v v0 v9 => by
   rw [Cq]
   refine ⟨h0,h1,hR'.2.2.1,hR'.2.2.2.1,by simpa using hR'.2.2.2.2.1,fun x hx => ?_⟩
   rcases R9 hx with hx | rfl
   ·exact hR'.2.2.2.2.2 x hx
   ·exact ⟨v0,v9,fun e => absurd e hR0⟩
  refine ⟨by rw [e1];exact hset _ a4 a5,by rw [e2];exact hset _ hold.1 hold.2,by rw [e2],fun e => ?_⟩
  rw [e2]
  show R.vals.set _ _ = R.vals
  rw [a6,e]
  exact X5 (by omega)
 ·have hs : r.slot < 0:=by omega
  by_cases hn : r.new = 0
  ·have hM0 : M.owner ≠ 0:=fun e => (a4.1 e) hn
   have e1 : doR R r n = ⟨n,0, [0,0,0]⟩:=by rw [doR,G8 hs hn]
   have e2 : Bj (doR R r n) (BD r 0) = ⟨n,r.old, [0,0,0]⟩:=by
    rw [e1,Bj,if_neg (show ¬ 0 ≤ (BD r 0).slot by simp only [BD];omega),if_neg (show ¬ (BD r 0).new = 0 by simp only [BD];rw [a6];exact hM0)]
    rfl
   have hz : ∀ o : Int,0 ≤ o → o ≤ 3 → Bt ⟨n,o, [0,0,0]⟩ = true:=fun o o0 o3 => by
    rw [Cq]
    exact ⟨h0,h1,o0,o3,rfl,fun x hx => by simp at hx;rw [hx];simp⟩
   refine ⟨by rw [e1];exact hz 0 (by omega) (by omega),by rw [e2];exact hz _ hold.1 (by rw [if_pos a1] at hold;exact hold.2),by rw [e2,a6,ho],fun e => ?_⟩
   rw [e2, ← e,a5]
  ·have hM0 : M.owner = 0:=a4.2 hn
   have hRz : R.vals = [0,0,0]:=UW hR'.2.2.2.2.1 (fun x hx => (hR'.2.2.2.2.2 x hx).2.2 (by rw [← ho];exact hM0))
   have e1 : doR R r n = ⟨n,r.new, [0,0,0]⟩:=by rw [doR,Bj,if_neg (by omega),if_neg hn,hRz]
   have e2 : Bj (doR R r n) (BD r 0) = ⟨n,0, [0,0,0]⟩:=by
    rw [G8 (show (BD r 0).slot < 0 from hs) (show (BD r 0).new = 0 by simp only [BD];rw [a6,hM0]),e1]
   have hz : ∀ o : Int,0 ≤ o → o ≤ 3 → Bt ⟨n,o, [0,0,0]⟩ = true:=fun o o0 o3 => by
    rw [Cq]
    exact ⟨h0,h1,o0,o3,rfl,fun x hx => by simp at hx;rw [hx];simp⟩
   refine ⟨by rw [e1];exact hz _ a2 a3,by rw [e2];exact hz 0 (by omega) (by omega),by rw [e2, ← ho,hM0],fun _ => ?_⟩
   rw [e2,hRz]
theorem Core.Ko {e : Eng} {C : Nat → Page} {B : Nat} (h : Core e C B) : e.log.length ≤ B:=by
 have:=h.room e.log.length (Nat.le_refl _)
 omega
theorem Pv {l : List Rec} {r : Rec} {t : Int} (ht : t = 1 ∨ t = 2 ∨ t = 3) (hr : r.tx = t) (hU : (U (l ++ [r]) t (l.length + 1)).length ≤ (U l t l.length).length + 1) : Bu (l ++ [r]) (l.length + 1) ≤ Bu l l.length + 2:=by
 have hs:=JZ (l:=l ++ [r]) (n:=l.length) (t:=t) (by rw [BR,hr]) ht
 rw [Le,Qk] at hs
 have e1 : cst (l ++ [r]) t (l.length + 1) ≤ (U l t l.length).length + 2:=by
  rw [cst]
  split <;> omega
 have e2 : (U l t l.length).length ≤ cst l t l.length:=by rw [cst];omega
 omega
theorem UpC.more {l : List Rec} {r : Rec} (h : UpC l) (hl : AQ (l ++ [r]) = true) (hk : r.kind ≠ 6) : UpC (l ++ [r]):=by
 intro t m hm
 have hA:=Cw l [r]
 have hlen : l.length < (l ++ [r]).length:=by simp
 have hlen1 : (l ++ [r]).length = l.length + 1:=by simp
 have old : ∀ t, ∀ m ∈ Ch (l ++ [r]) t l.length,(rc (l ++ [r]) (m - 1)).kind ≠ 6:=fun t m hm => by
  rw [RP hA t (Nat.le_refl _)] at hm
  have h1:=Ey _ m hm
  have h2:=Bf l t l.length
  rw [MG (by omega)]
  exact h t m hm
 rw [hlen1] at hm
 by_cases e1 : (rc (l ++ [r]) l.length).tx = t
 ·subst e1
  cases he : EY (rc (l ++ [r]) l.length).kind
  ·rw [Mr hl hlen he] at hm
   rcases List.mem_cons.1 hm with rfl | hm
   ·rw [Nat.add_sub_cancel,BR];exact hk
   ·exact old _ m hm
  ·rw [XC rfl he] at hm;cases hm
 ·rw [OI e1] at hm
  exact old t m hm
theorem Inv.chg {e : Eng} {C : Nat → Page} {B : Nat} (h : Inv e C B) (hup : e.down = false) {r : Rec} {p : Nat} (hp : p < 5) (hpg : r.page = p) (ht : r.tx = 1 ∨ r.tx = 2 ∨ r.tx = 3) (ha : Apt (pg e.mem p) r) (hnx : r.next = 0) (hfree : ∀ t,t ≠ r.tx → has e.log t e.log.length p = false) (hB : B + 3 ≤ 150) : Inv (e.app r) C (B + 3):=by
 have hc:=h.core
 have hm:=h.upm hup
 have hMp:=hm p hp
 have hle:=Bf e.log r.tx e.log.length
 have hn:=hc.Ko
 have hold:=ha.old hMp.ok
 have hs1:=hc.s1
 obtain ⟨r',hr'⟩ : ∃ r' : Rec,{ r with prev:=(Ap e.log r.tx e.log.length : Int) } = r':=⟨_,rfl⟩
 have k1 : r'.kind = r.kind:=by rw [← hr']
 have k2 : r'.tx = r.tx:=by rw [← hr']
 have k3 : r'.page = r.page:=by rw [← hr']
 have k4 : r'.slot = r.slot:=by rw [← hr']
 have k5 : r'.old = r.old:=by rw [← hr']
 have k6 : r'.new = r.new:=by rw [← hr']
 have k7 : r'.prev = Ap e.log r.tx e.log.length:=by rw [← hr']
 have k8 : r'.next = r.next:=by rw [← hr']
 have hkind : r'.kind = 1 ∨ r'.kind = 2:=by rw [k1];exact ha.kind
 have hdo : ∀ P n,doR P r' n = doR P r n:=fun P n => by rw [← hr'];rfl
 have hbk : ∀ P,Bj P (BD r' 0) = Bj P (BD r 0):=fun P => by rw [← hr'];rfl
 have hok : D6 r' = true:=by
  rw [Dg,k1,k2,k3,k4,k5,k6,k7,k8]
  rcases ha with ⟨a0,a1,a2,a3,a4,a5,a6⟩ | ⟨a0,a1,a2,a3,a4,a5,a6⟩
  ·rw [if_neg (by omega)] at hold
   omega
  ·rw [if_pos a1] at hold
   omega
 have hl' : AQ (e.log ++ [r']) = true:=Jg hc.log hok (by rw [k7,k2]) (by rw [k8,hnx];omega) (.inl (by rw [k8,hnx];omega)) (by omega)
 have hA:=Cw e.log [r']
 have hlen : e.log.length < (e.log ++ [r']).length:=by simp
 have hlen1 : (e.log ++ [r']).length = e.log.length + 1:=by simp
 have hrl : rc (e.log ++ [r']) e.log.length = r':=BR _ _
 have hpr : GR (e.log ++ [r']) e.log.length:=by
  refine ⟨?_,?_,?_,?_,?_⟩
  all_goals rw [hrl]
  ·rw [k1,k5,k6]
   intro h2 hnew
   rcases ha with ha | ha
   ·omega
   ·rw [ha.2.2.2.2.2.2];exact ha.2.2.2.2.1.2 hnew
  ·intro hk;omega
  ·intro hk;omega
  ·intro he;rw [Ep (by omega)] at he;cases he
  ·intro _ t htn
   rw [k2] at htn
   rw [Kw hA _ _ (Nat.le_refl _),k3,hpg]
   exact hfree t htn
 have hP:=Fy hc.prop hpr
 have hUA:=fun q => Tf hl' hP hlen (by rw [hrl];exact hkind) q
 have hroom : e.log.length + 1 + Bu (e.log ++ [r']) (e.log.length + 1) ≤ B + 3:=by
  have h1:=hc.room e.log.length (Nat.le_refl _)
  have h2:=Pv (l:=e.log) (r:=r') ht k2 (by
   have:=U1 hl' hlen (by rw [hrl];exact hkind)
   rw [hrl,k2] at this
   rw [this,List.length_cons,GQ hA _ (Nat.le_refl _)];exact Nat.le_refl _)
  omega
 have hch : CP r'.kind = true:=by rw [k1];exact ha.chg
 have hRok:=fun q (hq : q < 5) => hc.rok (p:=q) hq hs1 (Nat.le_refl _)
 have hap:=ha.page (n:=(e.log.length + 1 : Nat)) hMp.ok (hRok p hp) hMp.owner (by omega) (by omega)
 have hapM:=ha.page (R:=pg e.mem p) (n:=(e.log.length + 1 : Nat)) hMp.ok hMp.ok rfl (by omega) (by omega)
 have hE : e.app r = { e with log:=e.log ++ [r'],mem:=e.mem.set r.page.toNat (doR (pg e.mem r.page.toNat) r (e.log.length + 1 : Nat)) }:=by
  rw [← hr',Eng.app,if_pos ha.chg]
 have hM:=fun q => KC h.mlen (r:=r) (fun _ => by omega) q
 have hR:=fun q (hq : q < 5) => OB hc r hq
 have hpathR:=fun q (hq : q < 5) => Db hA.symm (fun m hm => by have:=DZ hm;omega) (hc.good e.log.length hs1 (Nat.le_refl _) q hq)
 have hcore : Core { e with log:=e.log ++ [r'] } C (B + 3):=by
  refine Core.snoc hc (by omega) hB hl' hpr (by omega) hroom fun q hq => ?_
  have hrq:=hc.Wi (p:=q) hq hs1
  rw [hUA q,hrl,k3,He,k3,Fb hA q (Nat.le_refl _)]
  by_cases e1 : r.page = q
  ·obtain rfl : q = p:=by omega
   rw [if_pos e1,if_pos ⟨hch,e1,by omega⟩,hdo]
   refine ⟨hap.1,?_⟩
   rw [Nat.add_sub_cancel,hrl,hbk]
   rcases hMp.alt with hal | hal
   ·have hv:=hap.2.2.2 hal
    have ho:=hap.2.2.1
    have hpx:=Jc (k:=(e.log.length + 1 : Nat)) (by omega) (by omega) (hpathR q hq)
    rw [← ho, ← hv] at hpx
    have hls : (Bj (doR (Cf (pg e.disk q) e.log q e.log.length) r (e.log.length + 1 : Nat)) (BD r 0)).lsn = (e.log.length + 1 : Nat):=by rw [Ki];rfl
    rw [show Bj (doR (Cf (pg e.disk q) e.log q e.log.length) r (e.log.length + 1 : Nat)) (BD r 0) = ⟨(e.log.length + 1 : Nat),_,_⟩ from R3 hls rfl rfl]
    exact hpx
   ·exact JX (fun m hm => by rw [MG (by have:=DZ hm;omega)];exact U2 hc.log (Nat.le_refl _) m hm) (Eg hA.symm (fun m hm => by have:=DZ hm;omega) hal) hap.2.1 hap.2.2.1 (hpathR q hq)
  ·rw [if_neg e1,if_neg (fun hx => e1 hx.2.1)]
   exact hpathR q hq
 refine ⟨?_,by rw [Mf];exact h.mlen,fun hd => ?_,fun _ => ?_,fun _ q hq => ?_⟩
 ·rw [hE]
  exact hcore.mem _ _
 ·rw [hE] at hd
  rw [show e.down = true from hd] at hup;cases hup
 ·rw [hE]
  exact (h.upc hup).more hl' (by omega)
 ·have hMq:=hm q hq
  have hls : lds (e.log ++ [r']) (e.log.length + 1) q = lds e.log e.log.length q:=by
   rw [Oj hl' hlen (by rw [hrl];exact Ep (by omega)) (by rw [hrl];omega),IU hA q (Nat.le_refl _)]
  have hd:=hc.Mc q hq
  have hLl : (e.app r).log = e.log ++ [r']:=by rw [hE]
  have hdk : (e.app r).disk = e.disk:=rfl
  have hMx:=hM q
  have hRx:=hR q hq
  have hUq:=hUA q
  rw [hrl,k3,Fb hA q (Nat.le_refl _)] at hUq
  by_cases e1 : r.page = q
  ·obtain rfl : q = p:=by omega
   rw [if_pos ⟨ha.chg,e1⟩] at hMx hRx
   rw [if_pos e1] at hUq
   refine ⟨by rw [hMx];exact hapM.1,?_,?_,?_⟩
   ·rw [hMx,hRx,ES,ES]
    exact I9 _ hMq.owner
   ·rw [hMx,hLl,hlen1];exact Int.le_refl _
   ·rw [hLl,hlen1,hls,hdk]
    rcases hMq.cases with hx | ⟨a,b,c,d⟩
    ·exact .inl ⟨hx.1,by rw [hMx,hRx,hx.2]⟩
    ·refine .inr ⟨a,?_, .inl ?_,?_⟩
     ·rw [hMx,Li (by rw [hrl,k3];exact ⟨e1, .inl hch⟩)];rfl
     ·rw [hMx];show _ < ((e.log.length + 1 : Nat) : Int);omega
     ·rcases d with d | d
      ·exact .inl (by rw [hMx,hRx,d])
      ·right
       rw [hUq]
       obtain ⟨x,hx,h1,h2⟩:=Eg hA.symm (fun m hm => by have:=DZ hm;omega) d
       exact ⟨x,List.mem_cons_of_mem _ hx,h1,h2⟩
  ·rw [if_neg (fun hx => e1 hx.2)] at hMx hRx
   rw [if_neg e1] at hUq
   refine ⟨by rw [hMx];exact hMq.ok,by rw [hMx,hRx];exact hMq.owner,?_,?_⟩
   ·rw [hMx,hLl,hlen1];have:=hMq.lsn;omega
   ·rw [hMx,hRx,hLl,hlen1,hls,hdk,hUq,Gr (by rw [hrl,k3];exact fun hx => e1 hx.1),Eu _ hA]
    rcases hMq.cases with hx | ⟨a,b,c,d⟩
    ·exact .inl hx
    ·exact .inr ⟨a,b,c,d.imp id (fun hz => Eg hA.symm (fun m hm => by have:=DZ hm;omega) hz)⟩
theorem PS {l : List Rec} (hl : AQ l = true) (n : Nat) : n ≤ l.length → (∀ m ∈ BM l n,(rc l (m - 1)).kind ≠ 6) → ∀ m ∈ BM l n,(rc l (m - 1)).kind = 1 ∨ (rc l (m - 1)).kind = 2 → m ∈ D5 l n:=by
 induction n using Nat.strongRecOn with
 | _ n ih =>
  intro hn h6 m hm hk
  match n with
  | 0 => rw [Ct] at hm;cases hm
  | n + 1 =>
   have FF:=AJ hl (k:=n) (by omega)
   have hp:=FF.prev_le
   rw [Eb hp] at hm h6
   have ih':=ih (BQ l (n + 1)) (by omega) (by omega) (fun x hx => h6 x (List.mem_cons_of_mem _ hx)) m
   have hk6 : (rc l n).kind ≠ 6:=by have:=h6 (n + 1) (by simp);simpa using this
   by_cases hk1 : (rc l n).kind = 1 ∨ (rc l n).kind = 2
   ·rw [LB hk1 hp]
    rcases List.mem_cons.1 hm with rfl | hm
    ·simp
    ·exact List.mem_cons_of_mem _ (ih' hm hk)
   ·rw [Mx (by omega) (by omega) hk6 hp]
    rcases List.mem_cons.1 hm with rfl | hm
    ·rw [Nat.add_sub_cancel] at hk;exact absurd hk hk1
    ·exact ih' hm hk
theorem Nq {l : List Rec} {p : Int} : ∀ {n k : Nat},k < n → BN l p n < k + 1 → ¬ ((rc l k).page = p ∧ (CP (rc l k).kind = true ∨ (rc l k).kind = 3))
 | 0,k,hk,_ => by omega
 | n + 1,k,hk,h => by
  rw [BN] at h
  split at h
  ·omega
  ·rename_i hc
   rcases Nat.eq_or_lt_of_le (Nat.le_of_lt_succ hk) with rfl | hlt
   ·exact hc
   ·exact Nq hlt h
theorem Qv.calm {e : Eng} {p : Nat} (h : Qv e p) : ∀ k,k < e.log.length → (pg e.mem p).lsn < (k + 1 : Nat) → ¬ TU e.log p k:=by
 intro k hk hlt
 rcases h.cases with ⟨_,h2⟩ | ⟨_,h2,_⟩
 ·rw [h2] at hlt
  exact Oa hk hlt
 ·intro hc
  exact Nq (p:=(p : Int)) hk (by omega) ⟨hc.2, .inl hc.1⟩
theorem Inv.load {e : Eng} {C : Nat → Page} {B : Nat} (h : Inv e C B) (hup : e.down = false) {tx : Int} {p : Nat} {vals : List Int} (hp : p < 5) (ht : tx = 1 ∨ tx = 2 ∨ tx = 3) (ho : (pg e.mem p).owner ≠ 0) (hv : vals.length = 3 ∧ ∀ x ∈ vals,0 ≤ x ∧ x ≤ 9) (hfree : ∀ t,t ≠ tx → has e.log t e.log.length p = false)
  (htook : ∃ m ∈ Ch e.log tx e.log.length,(rc e.log (m - 1)).kind = 2 ∧ (rc e.log (m - 1)).page = p ∧ (rc e.log (m - 1)).new ≠ 0) (hB : B + 3 ≤ 150) :
  Inv { e with log:=e.log ++ [⟨3,tx,p,0,0,0,Ap e.log tx e.log.length,0⟩],mem:=e.mem.set p ⟨(e.log.length + 1 : Nat),(pg e.mem p).owner,vals⟩ } C (B + 3):=by
 have hc:=h.core
 have hm:=h.upm hup
 have hle:=Bf e.log tx e.log.length
 have hn:=hc.Ko
 have hs1:=hc.s1
 obtain ⟨r',hr'⟩ : ∃ r' : Rec,(⟨3,tx,p,0,0,0,Ap e.log tx e.log.length,0⟩ : Rec) = r':=⟨_,rfl⟩
 rw [hr']
 have k1 : r'.kind = 3:=by rw [← hr']
 have k2 : r'.tx = tx:=by rw [← hr']
 have k3 : r'.page = p:=by rw [← hr']
 have hok : D6 r' = true:=by
  rw [← hr',Dg]
  exact ⟨.inr (.inr (.inl ⟨rfl,(by show (0 : Int) ≤ (p : Int);omega),(by show (p : Int) ≤ 4;omega),rfl,rfl,rfl,rfl⟩)),(by show 1 ≤ tx;omega),(by show tx ≤ 3;omega),(by show (0 : Int) ≤ (Ap e.log tx e.log.length : Int);omega),(by show (Ap e.log tx e.log.length : Int) ≤ 150;omega)⟩
 have hl' : AQ (e.log ++ [r']) = true:=Jg hc.log hok (by rw [← hr']) (by rw [← hr'];simp) (.inl (by rw [← hr'];exact Int.le_refl _)) (by omega)
 have hA:=Cw e.log [r']
 have hlen : e.log.length < (e.log ++ [r']).length:=by simp
 have hlen1 : (e.log ++ [r']).length = e.log.length + 1:=by simp
 have hrl : rc (e.log ++ [r']) e.log.length = r':=BR _ _
 have hpr : GR (e.log ++ [r']) e.log.length:=by
  refine ⟨?_,?_,?_,?_,?_⟩
  all_goals rw [hrl]
  ·intro hk;omega
  ·intro hk;omega
  ·intro hk;omega
  ·intro he;rw [Ep (by omega)] at he;cases he
  ·intro _ t htn
   rw [k2] at htn
   rw [Kw hA _ _ (Nat.le_refl _),k3]
   exact hfree t htn
 have hP:=Fy hc.prop hpr
 have hUA:=fun q => U3 hl' hlen (by rw [hrl];exact k1) q
 have hUA' : ∀ q,UA (e.log ++ [r']) (e.log.length + 1) q = UA e.log e.log.length q:=fun q => by rw [hUA q,Fb hA q (Nat.le_refl _)]
 have hroom : e.log.length + 1 + Bu (e.log ++ [r']) (e.log.length + 1) ≤ B + 3:=by
  have h1:=hc.room e.log.length (Nat.le_refl _)
  have h2:=Pv (l:=e.log) (r:=r') ht k2 (by
   have:=Te hl' hlen (by rw [hrl];exact k1)
   rw [hrl,k2] at this
   rw [this,GQ hA _ (Nat.le_refl _)];omega)
  omega
 have hno : ∀ q : Nat, ¬ (CP r'.kind = true ∧ r'.page = (q : Int) ∧ (Cf (pg e.disk q) e.log q e.log.length).lsn < (e.log.length + 1 : Nat)):=fun q hx => by rw [k1] at hx;simp [CP] at hx
 have hrd : ∀ q : Nat,Cf (pg e.disk q) (e.log ++ [r']) q (e.log.length + 1) = Cf (pg e.disk q) e.log q e.log.length:=fun q => by rw [He,if_neg (hno q)]
 have hcore : Core { e with log:=e.log ++ [r'] } C (B + 3):=by
  refine Core.snoc hc (by omega) hB hl' hpr (by omega) hroom fun q hq => ?_
  rw [hUA',hrd]
  exact Db hA.symm (fun m hm => by have:=DZ hm;omega) (hc.good e.log.length hs1 (Nat.le_refl _) q hq)
 refine ⟨hcore.mem _ _,by simpa using h.mlen,fun hd => ?_,fun _ => (h.upc hup).more hl' (by omega),fun _ q hq => ?_⟩
 ·rw [show e.down = true from hd] at hup;cases hup
 ·have hMq:=hm q hq
  have hd:=hc.Mc q hq
  have hRx : Dy ({ e with log:=e.log ++ [r'],mem:=e.mem.set p ⟨(e.log.length + 1 : Nat),(pg e.mem p).owner,vals⟩ } : Eng) q = Dy e q:=by
   show Cf (pg e.disk q) (e.log ++ [r']) q (e.log ++ [r']).length = _
   rw [hlen1,hrd];rfl
  have hMx : pg (e.mem.set p ⟨(e.log.length + 1 : Nat),(pg e.mem p).owner,vals⟩) q = if p = q then ⟨(e.log.length + 1 : Nat),(pg e.mem p).owner,vals⟩ else pg e.mem q:=FM (by rw [h.mlen];exact hp)
  by_cases e1 : p = q
  ·subst e1
   rw [if_pos rfl] at hMx
   have hMo:=Cq.1 hMq.ok
   have hls : lds (e.log ++ [r']) (e.log.length + 1) p = true:=by
    rw [LZ]
    refine ⟨tx,ht,?_⟩
    have:=TI hl' hlen (by rw [hrl];exact Ep (by omega)) p
    rw [hrl,k2] at this
    rw [this,k1,k3]
    simp
   refine ⟨?_,?_,?_, .inr ⟨?_,?_, .inl ?_, .inr ?_⟩⟩
   ·show Bt (pg (e.mem.set p _) p) = true
    rw [hMx,Cq]
    exact ⟨by show (0 : Int) ≤ ((e.log.length + 1 : Nat) : Int);omega,by show ((e.log.length + 1 : Nat) : Int) ≤ 150;omega,hMo.2.2.1,hMo.2.2.2.1,hv.1,fun x hx => ⟨(hv.2 x hx).1,(hv.2 x hx).2,fun e => absurd e ho⟩⟩
   ·rw [hRx]
    show (pg (e.mem.set p _) p).owner = _
    rw [hMx]
    exact hMq.owner
   ·show (pg (e.mem.set p _) p).lsn ≤ ((e.log ++ [r']).length : Int)
    rw [hMx,hlen1]
    exact Int.le_refl _
   ·show lds (e.log ++ [r']) (e.log ++ [r']).length p = true
    rw [hlen1];exact hls
   ·show (pg (e.mem.set p _) p).lsn = (BN (e.log ++ [r']) p (e.log ++ [r']).length : Int)
    rw [hMx,hlen1,Li (by rw [hrl];exact ⟨k3, .inr k1⟩)]
   ·show (pg e.disk p).lsn < (pg (e.mem.set p _) p).lsn
    rw [hMx]
    show _ < ((e.log.length + 1 : Nat) : Int)
    omega
   ·show Qj (e.log ++ [r']) (UA (e.log ++ [r']) (e.log ++ [r']).length p)
    rw [hlen1,hUA']
    refine Eg hA.symm (fun m hm => by have:=DZ hm;omega) ?_
    obtain ⟨m,h1,h2,h3,h4⟩:=htook
    have hmU : m ∈ U e.log tx e.log.length:=PS hc.log _ hle (fun x hx => h.upc hup tx x hx) m h1 (.inr h2)
    have hmb:=NA hmU
    have hrec:=(AJ hc.log (k:=m - 1) (by omega)).ok
    have hprop:=(hc.prop (m - 1) (by omega)).own h2 h4
    rw [Dg] at hrec
    refine ⟨m,?_,by omega,hprop⟩
    rw [Lr hc.log hc.prop (Nat.le_refl _) ht hfree,F,List.mem_filter]
    exact ⟨hmU,by simpa using h3⟩
  ·rw [if_neg e1] at hMx
   have hls : lds (e.log ++ [r']) (e.log.length + 1) q = lds e.log e.log.length q:=by
    rw [Oj hl' hlen (by rw [hrl];exact Ep (by omega)) (by rw [hrl,k3];omega),IU hA q (Nat.le_refl _)]
   have hlo : BN (e.log ++ [r']) q (e.log.length + 1) = BN e.log q e.log.length:=by
    rw [Gr (by rw [hrl,k3];omega),Eu _ hA]
   refine ⟨?_,?_,?_,?_⟩
   ·show Bt (pg (e.mem.set p _) q) = true
    rw [hMx];exact hMq.ok
   ·rw [hRx]
    show (pg (e.mem.set p _) q).owner = _
    rw [hMx];exact hMq.owner
   ·show (pg (e.mem.set p _) q).lsn ≤ ((e.log ++ [r']).length : Int)
    rw [hMx,hlen1];have:=hMq.lsn;omega
   ·rw [hRx]
    show (lds (e.log ++ [r']) (e.log ++ [r']).length q = false ∧ pg (e.mem.set p _) q = Dy e q) ∨ (lds (e.log ++ [r']) (e.log ++ [r']).length q = true ∧ (pg (e.mem.set p _) q).lsn = (BN (e.log ++ [r']) q (e.log ++ [r']).length : Int) ∧ ((pg e.disk q).lsn < (pg (e.mem.set p _) q).lsn ∨ pg (e.mem.set p _) q = pg e.disk q) ∧ (pg (e.mem.set p _) q = Dy e q ∨ Qj (e.log ++ [r']) (UA (e.log ++ [r']) (e.log ++ [r']).length q)))
    rw [hMx,hlen1,hls,hlo,hUA']
    rcases hMq.cases with hx | ⟨a,b,c,d⟩
    ·exact .inl hx
    ·exact .inr ⟨a,b,c,d.imp id (fun hz => Eg hA.symm (fun m hm => by have:=DZ hm;omega) hz)⟩
def G5 (e : Eng) (tx : Int) : List Page:=(List.range 5).map fun p : Nat => if ld e.log tx e.log.length p = true then pg e.mem p else pg e.disk p
theorem JV (e : Eng) (tx : Int) {p : Nat} (hp : p < 5) : pg (G5 e tx) p = if ld e.log tx e.log.length p = true then pg e.mem p else pg e.disk p:=by
 simp [pg,G5,List.getD_eq_getElem?_getD,hp]
def DY (e : Eng) (tx : Int) : Eng:={ e with disk:=G5 e tx,log:=e.log ++ [⟨4,tx,0,0,0,0,Ap e.log tx e.log.length,0⟩],safe:=(e.log.length + 1 : Nat) }
def QF (e : Eng) (tx : Int) (C : Nat → Page) (p : Nat) : Page:=if has e.log tx e.log.length p = true then ⟨0,(pg e.mem p).owner,(pg e.mem p).vals⟩ else C p
theorem Inv.VE {e : Eng} {C : Nat → Page} {B : Nat} (h : Inv e C B) (hup : e.down = false) {tx : Int} (ht : tx = 1 ∨ tx = 2 ∨ tx = 3) (hlast : lastT e tx ≠ 0) : Inv (DY e tx) (QF e tx C) B:=by
 have hc:=h.core
 have hm:=h.upm hup
 have hle:=Bf e.log tx e.log.length
 have h150:=hc.one ht hlast
 have hs0:=hc.s0
 have hs1:=hc.s1
 obtain ⟨r',hr'⟩ : ∃ r' : Rec,(⟨4,tx,0,0,0,0,Ap e.log tx e.log.length,0⟩ : Rec) = r':=⟨_,rfl⟩
 unfold DY
 rw [hr']
 have k1 : r'.kind = 4:=by rw [← hr']
 have k2 : r'.tx = tx:=by rw [← hr']
 have hok : D6 r' = true:=by
  rw [← hr',Dg]
  exact ⟨.inr (.inr (.inr (.inl ⟨.inl rfl,rfl,rfl,rfl,rfl,rfl⟩))),(by show 1 ≤ tx;omega),(by show tx ≤ 3;omega),(by show (0 : Int) ≤ (Ap e.log tx e.log.length : Int);omega),(by show (Ap e.log tx e.log.length : Int) ≤ 150;omega)⟩
 have hl' : AQ (e.log ++ [r']) = true:=Jg hc.log hok (by rw [← hr']) (by rw [← hr'];simp) (.inl (by rw [← hr'];exact Int.le_refl _)) h150
 have hA:=Cw e.log [r']
 have hlen : e.log.length < (e.log ++ [r']).length:=by simp
 have hlen1 : (e.log ++ [r']).length = e.log.length + 1:=by simp
 have hrl : rc (e.log ++ [r']) e.log.length = r':=BR _ _
 have hend : EY (rc (e.log ++ [r']) e.log.length).kind = true:=by rw [hrl,k1];rfl
 have htx : (rc (e.log ++ [r']) e.log.length).tx = tx:=by rw [hrl,k2]
 have hpr : GR (e.log ++ [r']) e.log.length:=by
  refine ⟨?_,?_,?_,?_,?_⟩
  all_goals rw [hrl]
  ·intro hk;omega
  ·intro hk;omega
  ·intro hk;omega
  ·intro _;rw [k2,CY tx hA];exact Nat.pos_of_ne_zero hlast
  ·intro hk;omega
 have hP:=Fy hc.prop hpr
 have hUA : ∀ q,UA (e.log ++ [r']) (e.log.length + 1) q = if has e.log tx e.log.length q = true then [] else UA e.log e.log.length q:=fun q => by
  rw [Wy hl' hP hlen (by rw [hrl];exact k1),htx,Kw hA _ _ (Nat.le_refl _),Fb hA q (Nat.le_refl _)]
 have hroom : e.log.length + 1 + Bu (e.log ++ [r']) (e.log.length + 1) ≤ B:=by
  have h1:=hc.room e.log.length (Nat.le_refl _)
  have hs:=JZ (l:=e.log ++ [r']) (n:=e.log.length) (t:=tx) htx ht
  rw [Le,Qk] at hs
  have e1 : cst (e.log ++ [r']) tx (e.log.length + 1) = 0:=by rw [cst,PL htx hend,IV htx hend];rfl
  have e2 : 1 ≤ cst e.log tx e.log.length:=by rw [cst,if_neg hlast];omega
  omega
 have hoth : ∀ q,has e.log tx e.log.length q = true → lds (e.log ++ [r']) (e.log.length + 1) q = false:=fun q hq => by
  rw [Bool.eq_false_iff]
  intro hl
  obtain ⟨t,_,hlt⟩:=LZ.1 hl
  by_cases e1 : tx = t
  ·subst e1
   rw [SC htx hend] at hlt;cases hlt
  ·rw [M0 (by rw [htx];exact e1),Hr hA _ _ (Nat.le_refl _)] at hlt
   have:=Hq hc.log hc.prop _ (Nat.le_refl _) _ _ _ e1 hq
   rw [MN hlt] at this;cases this
 have hrd : ∀ (P : Page) (q : Nat),Cf P (e.log ++ [r']) q (e.log.length + 1) = Cf P e.log q e.log.length:=fun P q => by
  rw [He,if_neg]
  intro hx
  rw [k1] at hx
  simp [CP] at hx
 have hRed : ∀ q : Nat,q < 5 → has e.log tx e.log.length q = true → Cf (pg (G5 e tx) q) e.log q e.log.length = pg e.mem q:=fun q hq hhas => by
  rw [JV e tx hq]
  split
  ·exact J9 (hm q hq).calm
  ·rename_i hld
   rcases (hm q hq).cases with hx | ⟨a,_⟩
   ·exact hx.2.symm
   ·obtain ⟨t,_,hlt⟩:=LZ.1 a
    by_cases e1 : tx = t
    ·subst e1;exact absurd hlt hld
    ·have:=Hq hc.log hc.prop _ (Nat.le_refl _) _ _ _ e1 hhas
     rw [MN hlt] at this;cases this
 have hRed' : ∀ q : Nat,q < 5 → has e.log tx e.log.length q = false → pg (G5 e tx) q = pg e.disk q:=fun q hq hhas => by
  rw [JV e tx hq,if_neg]
  intro hld
  rw [MN hld] at hhas;cases hhas
 have hcore : Core ({ e with disk:=G5 e tx,log:=e.log ++ [r'],safe:=(e.log.length + 1 : Nat) } : Eng) (QF e tx C) B:=by
  refine ⟨by simp [G5],fun q hq => ?_,hl',hP,by show (0 : Int) ≤ ((e.log.length + 1 : Nat) : Int);omega,by show ((e.log.length + 1 : Nat) : Int) ≤ ((e.log ++ [r']).length : Int);rw [hlen1];exact Int.le_refl _,hc.b150,fun n hn => ?_,fun k hk _ => ?_,fun q hq => ?_,fun n hs hn q hq => ?_⟩
  ·show Bt (pg (G5 e tx) q) = true
   rw [JV e tx hq]
   split
   ·exact (hm q hq).ok
   ·exact hc.dok q hq
  ·have hn : n ≤ (e.log ++ [r']).length:=hn
   show n + Bu (e.log ++ [r']) n ≤ B
   rw [hlen1] at hn
   rcases Nat.lt_or_ge e.log.length n with hlt | hge
   ·obtain rfl : n = e.log.length + 1:=by omega
    exact hroom
   ·rw [GI hA hge]
    exact hc.room n hge
  ·have hk : k < (e.log ++ [r']).length:=hk
   rw [hlen1] at hk
   show ((k + 1 : Nat) : Int) ≤ ((e.log.length + 1 : Nat) : Int)
   omega
  ·show (pg (G5 e tx) q).lsn ≤ ((e.log.length + 1 : Nat) : Int)
   have h1:=hc.Mc q hq
   have h2:=(hm q hq).lsn
   rw [JV e tx hq]
   split <;> omega
  ·have hs : ((e.log.length + 1 : Nat) : Int) ≤ n:=hs
   have hn : n ≤ (e.log ++ [r']).length:=hn
   rw [hlen1] at hn
   obtain rfl : n = e.log.length + 1:=by omega
   show EL (e.log ++ [r']) (QF e tx C q) (UA (e.log ++ [r']) (e.log.length + 1) q) (Cf (pg (G5 e tx) q) (e.log ++ [r']) q (e.log.length + 1))
   rw [hUA,hrd]
   unfold QF
   cases hhas : has e.log tx e.log.length q
   ·rw [if_neg (by simp),if_neg (by simp),hRed' q hq hhas]
    exact Db hA.symm (fun m hm => by have:=DZ hm;omega) (hc.good e.log.length hs1 (Nat.le_refl _) q hq)
   ·rw [if_pos rfl,if_pos rfl,hRed q hq hhas]
    exact ⟨(hm q hq).ok,rfl,rfl⟩
 refine ⟨hcore,h.mlen,fun hd => ?_,fun _ => (h.upc hup).more hl' (by omega),fun _ q hq => ?_⟩
 ·rw [show e.down = true from hd] at hup;cases hup
 ·have hMq:=hm q hq
  have hRx : Dy ({ e with disk:=G5 e tx,log:=e.log ++ [r'],safe:=(e.log.length + 1 : Nat) } : Eng) q = Cf (pg (G5 e tx) q) e.log q e.log.length:=by
   show Cf (pg (G5 e tx) q) (e.log ++ [r']) q (e.log ++ [r']).length = _
   rw [hlen1,hrd]
  cases hhas : has e.log tx e.log.length q
  ·have hdq:=hRed' q hq hhas
   have hRe : Cf (pg (G5 e tx) q) e.log q e.log.length = Dy e q:=by rw [hdq];rfl
   have hls : lds (e.log ++ [r']) (e.log.length + 1) q = lds e.log e.log.length q:=by
    rw [TH hend (by rw [htx,Hr hA _ _ (Nat.le_refl _),Bool.eq_false_iff];intro hld;rw [MN hld] at hhas;cases hhas),IU hA q (Nat.le_refl _)]
   have hlo : BN (e.log ++ [r']) q (e.log.length + 1) = BN e.log q e.log.length:=by
    rw [Gr (by rw [hrl,k1];simp [CP]),Eu _ hA]
   have hUq:=hUA q
   rw [hhas,if_neg (by simp)] at hUq
   refine ⟨hMq.ok,by rw [hRx,hRe];exact hMq.owner,?_,?_⟩
   ·show (pg e.mem q).lsn ≤ ((e.log ++ [r']).length : Int)
    rw [hlen1];have:=hMq.lsn;omega
   ·rw [hRx,hRe]
    show (lds (e.log ++ [r']) (e.log ++ [r']).length q = false ∧ pg e.mem q = Dy e q) ∨ (lds (e.log ++ [r']) (e.log ++ [r']).length q = true ∧ (pg e.mem q).lsn = (BN (e.log ++ [r']) q (e.log ++ [r']).length : Int) ∧ ((pg (G5 e tx) q).lsn < (pg e.mem q).lsn ∨ pg e.mem q = pg (G5 e tx) q) ∧ (pg e.mem q = Dy e q ∨ Qj (e.log ++ [r']) (UA (e.log ++ [r']) (e.log ++ [r']).length q)))
    rw [hlen1,hls,hlo,hUq,hdq]
    rcases hMq.cases with hx | ⟨a,b,c,d⟩
    ·exact .inl hx
    ·exact .inr ⟨a,b,c,d.imp id (fun hz => Eg hA.symm (fun m hm => by have:=DZ hm;omega) hz)⟩
  ·have hRe:=hRed q hq hhas
   refine ⟨hMq.ok,by rw [hRx,hRe],?_, .inl ⟨?_,by rw [hRx,hRe]⟩⟩
   ·show (pg e.mem q).lsn ≤ ((e.log ++ [r']).length : Int)
    rw [hlen1];have:=hMq.lsn;omega
   ·show lds (e.log ++ [r']) (e.log ++ [r']).length q = false
    rw [hlen1];exact hoth q hhas
def CF (e : Eng) (p : Nat) : Eng:={ e with safe:=max e.safe (pg e.mem p).lsn,disk:=e.disk.set p (pg e.mem p) }
theorem Inv.write {e : Eng} {C : Nat → Page} {B : Nat} (h : Inv e C B) (hup : e.down = false) {p : Nat} (hp : p < 5) : Inv (CF e p) C B:=by
 have hc:=h.core
 have hm:=h.upm hup
 have hs0:=hc.s0
 have hs1:=hc.s1
 have hpl:=(hm p hp).lsn
 have hD : ∀ q,pg (e.disk.set p (pg e.mem p)) q = if p = q then pg e.mem p else pg e.disk q:=fun q => FM (by rw [hc.dlen];exact hp)
 have hcalm:=(hm p hp).calm
 have hcore : Core (CF e p) C B:=by
  refine ⟨by show (e.disk.set p _).length = 5;simpa using hc.dlen,fun q hq => ?_,hc.log,hc.prop,by show 0 ≤ max e.safe _;omega,by show max e.safe (pg e.mem p).lsn ≤ (e.log.length : Int);omega,hc.b150,hc.room,fun k hk h4 => ?_,fun q hq => ?_,fun n hs hn q hq => ?_⟩
  ·show Bt (pg (e.disk.set p _) q) = true
   rw [hD]
   split
   ·exact (hm p hp).ok
   ·exact hc.dok q hq
  ·have:=hc.done k hk h4
   show _ ≤ max e.safe _
   omega
  ·show (pg (e.disk.set p _) q).lsn ≤ max e.safe _
   have:=hc.Mc q hq
   rw [hD]
   split <;> omega
  ·have hs : max e.safe (pg e.mem p).lsn ≤ n:=hs
   show EL e.log (C q) (UA e.log n q) (Cf (pg (e.disk.set p (pg e.mem p)) q) e.log q n)
   rw [hD]
   split
   ·rename_i e1
    subst e1
    rw [J9 (fun k hk hlt => hcalm k (by have : n ≤ e.log.length:=hn;omega) hlt)]
    have hU : UA e.log e.log.length p = UA e.log n p:=RG hc.log hc.prop hn (Nat.le_refl _) fun k h1 h2 => ⟨hcalm k h2 (by omega),fun h4 => by have:=hc.done k h2 h4;omega⟩
    rw [← hU]
    exact hc.Q6 hp (hm p hp).ok (hm p hp).owner (hm p hp).alt
   ·exact hc.good n (by omega) hn q hq
 refine ⟨hcore,h.mlen,fun hd => ?_,h.upc,fun _ q hq => ?_⟩
 ·rw [show e.down = true from hd] at hup;cases hup
 ·have hMq:=hm q hq
  by_cases e1 : p = q
  ·subst e1
   have hRx : Dy (CF e p) p = pg e.mem p:=by
    show Cf (pg (e.disk.set p (pg e.mem p)) p) e.log p e.log.length = _
    rw [hD,if_pos rfl]
    exact J9 hcalm
   refine ⟨hMq.ok,by rw [hRx];rfl,hMq.lsn,?_⟩
   rw [hRx]
   rcases hMq.cases with hx | ⟨a,b,c,d⟩
   ·exact .inl ⟨hx.1,rfl⟩
   ·exact .inr ⟨a,b, .inr (by show _ = pg (e.disk.set p _) p;rw [hD,if_pos rfl];rfl), .inl rfl⟩
  ·have hdq : pg (CF e p).disk q = pg e.disk q:=by
    show pg (e.disk.set p _) q = _
    rw [hD,if_neg e1]
   have hRx : Dy (CF e p) q = Dy e q:=by
    show Cf (pg (CF e p).disk q) e.log q e.log.length = _
    rw [hdq];rfl
   refine ⟨hMq.ok,by rw [hRx];exact hMq.owner,hMq.lsn,?_⟩
   rw [hRx,hdq]
   exact hMq.cases
def Fu (e : Eng) : Eng:={ e with safe:=e.log.length }
theorem Inv.force {e : Eng} {C : Nat → Page} {B : Nat} (h : Inv e C B) (hup : e.down = false) : Inv (Fu e) C B:=by
 have hc:=h.core
 have hs0:=hc.s0
 have hs1:=hc.s1
 refine ⟨⟨hc.dlen,hc.dok,hc.log,hc.prop,by show (0 : Int) ≤ (e.log.length : Int);omega,Int.le_refl _,hc.b150,hc.room,fun k hk h4 => ?_,fun q hq => ?_,fun n hs hn q hq => ?_⟩,h.mlen,fun hd => ?_,h.upc,fun hd q hq => ?_⟩
 ·have:=hc.done k hk h4
  show _ ≤ (e.log.length : Int)
  omega
 ·have:=hc.Mc q hq
  show (pg e.disk q).lsn ≤ (e.log.length : Int)
  omega
 ·have hs : (e.log.length : Int) ≤ n:=hs
  exact hc.good n (by omega) hn q hq
 ·rw [show e.down = true from hd] at hup;cases hup
 ·have hMq:=h.upm hup q hq
  exact ⟨hMq.ok,hMq.owner,hMq.lsn,hMq.cases⟩
def Np (e : Eng) (left : Int) : Nat:=(max e.safe (min left e.log.length)).toNat
def Ij (e : Eng) (left : Int) : Eng:={ e with mem:=e.disk,log:=e.log.take (Np e left),down:=true }
theorem Core.take {e : Eng} {C : Nat → Page} {B : Nat} (h : Core e C B) {n : Nat} (h1 : e.safe ≤ n) (h2 : n ≤ e.log.length) : Core { e with log:=e.log.take n } C B:=by
 have hA:=Lp e.log n
 have hl : (e.log.take n).length = n:=by rw [List.length_take];omega
 refine ⟨h.dlen,h.dok,Lf h.log n,QT h.prop n,h.s0,by show e.safe ≤ ((e.log.take n).length : Int);rw [hl];exact h1,h.b150,fun k hk => ?_,fun k hk h4 => ?_,h.Mc,fun k hs hk q hq => ?_⟩
 ·have hk : k ≤ (e.log.take n).length:=hk
  show k + Bu (e.log.take n) k ≤ B
  rw [GI hA (by omega)]
  exact h.room k (by omega)
 ·have hk : k < (e.log.take n).length:=hk
  have h4 : (rc (e.log.take n) k).kind = 4:=h4
  rw [hA k (by omega)] at h4
  exact h.done k (by omega) h4
 ·have hk : k ≤ (e.log.take n).length:=hk
  show EL (e.log.take n) (C q) (UA (e.log.take n) k q) (Cf (pg e.disk q) (e.log.take n) q k)
  rw [Fb hA q (by omega),Ic _ q (hA.le (by omega))]
  exact Db hA.symm (fun m hm => by have:=DZ hm;omega) (h.good k hs (by omega) q hq)
theorem Oi {e : Eng} {left : Int} (h0 : 0 ≤ e.safe) (h1 : e.safe ≤ e.log.length) : e.safe ≤ Np e left ∧ Np e left ≤ e.log.length:=by
 unfold Np
 omega
theorem Inv.fall {e : Eng} {C : Nat → Page} {B : Nat} (h : Inv e C B) (left : Int) : Inv (Ij e left) C B:=by
 have hl:=Oi (left:=left) h.core.s0 h.core.s1
 exact ⟨(h.core.take hl.1 hl.2).mem _ _,h.core.dlen,fun _ => rfl,fun hd => (by cases hd),fun hd => (by cases hd)⟩
def Jz (tx : Int) : Nat → Eng → Eng
 | 0,e => e
 | k + 1,e => Jz tx k (BA e tx)
def E8 (e : Eng) (tx : Int) : Eng:=if lastT e tx = 0 then e else Jz tx ((U e.log tx e.log.length).length + 1) e
structure EA (e : Eng) (C : Nat → Page) (B : Nat) (tx : Int) : Prop where
 core : Core e C B
 mlen : e.mem.length = 5
 up : e.down = false
 oth : ∀ t,t ≠ tx → ∀ m ∈ Ch e.log t e.log.length,(rc e.log (m - 1)).kind ≠ 6
 upm : ∀ p,p < 5 → Qv e p
theorem IA (e : Eng) (tx : Int) : (BA e tx).log.length = e.log.length + 1:=by rw [Kk];simp
theorem Core.QG {e : Eng} {C : Nat → Page} {B : Nat} (h : Core e C B) {tx : Int} (ht : tx = 1 ∨ tx = 2 ∨ tx = 3) (hlast : lastT e tx ≠ 0) :
  U (BA e tx).log tx (BA e tx).log.length = (U e.log tx e.log.length).tail ∧ (∀ t,t ≠ tx → U (BA e tx).log t (BA e tx).log.length = U e.log t e.log.length ∧ lastT (BA e tx) t = lastT e t) ∧ (lastT (BA e tx) tx = if U e.log tx e.log.length = [] then 0 else e.log.length + 1) ∧ Bu (BA e tx).log (BA e tx).log.length + 1 = Bu e.log e.log.length:=by
 have h1:=h.one ht hlast
 have hk:=EQ (e:=e) h.log tx
 have hn:=hk.next h.log (by omega) h1
 have hd:=hk.need h.log ht h1 hlast
 unfold lastT
 rw [IA,Kk]
 exact ⟨hn.1,hn.2.1,hn.2.2,hd⟩
theorem Core.WZ {e : Eng} {C : Nat → Page} {B : Nat} (h : Core e C B) {tx t : Int} (hne : t ≠ tx) : Ch (BA e tx).log t (BA e tx).log.length = Ch e.log t e.log.length:=by
 have hk:=EQ (e:=e) h.log tx
 rw [IA,Kk,OI (by rw [BR,hk.tx];exact Ne.symm hne),RP (Cw _ _) t (Nat.le_refl _)]
theorem EA.step {e : Eng} {C : Nat → Page} {B : Nat} {tx : Int} (h : EA e C B tx) (ht : tx = 1 ∨ tx = 2 ∨ tx = 3) (hlast : lastT e tx ≠ 0) : EA (BA e tx) C B tx:=by
 refine ⟨h.core.step ht hlast,by unfold BA;rw [Mf];exact h.mlen,h.up,fun t hne m hm => ?_,fun p hp => (h.upm p hp).step h.core h.mlen ht hlast hp⟩
 rw [h.core.WZ hne] at hm
 have h1:=Ey _ m hm
 have h2:=Bf e.log t e.log.length
 rw [Kk,MG (by omega)]
 exact h.oth t hne m hm
theorem EA.all {C : Nat → Page} {B : Nat} {tx : Int} (ht : tx = 1 ∨ tx = 2 ∨ tx = 3) : ∀ (k : Nat) (e : Eng),EA e C B tx → lastT e tx ≠ 0 → (U e.log tx e.log.length).length = k → EA (Jz tx (k + 1) e) C B tx ∧ lastT (Jz tx (k + 1) e) tx = 0
 | 0,e,h,hlast,hk => by
  have hs:=h.core.QG ht hlast
  have h0:=List.eq_nil_of_length_eq_zero hk
  refine ⟨h.step ht hlast,?_⟩
  show lastT (BA e tx) tx = 0
  rw [hs.2.2.1,if_pos h0]
 | k + 1,e,h,hlast,hk => by
  have hs:=h.core.QG ht hlast
  have hne : U e.log tx e.log.length ≠ []:=fun h0 => by rw [h0] at hk;cases hk
  exact EA.all ht k (BA e tx) (h.step ht hlast) (by rw [hs.2.2.1,if_neg hne];omega) (by rw [hs.1,List.length_tail,hk];omega)
theorem NV {e : Eng} {t : Int} (h : lastT e t = 0) : Ch e.log t e.log.length = []:=by
 rw [Ch,show Ap e.log t e.log.length = 0 from h,Ct]
theorem Inv.und {e : Eng} {C : Nat → Page} {B : Nat} (h : Inv e C B) (hup : e.down = false) (tx : Int) : EA e C B tx:=⟨h.core,h.mlen,hup,fun t _ => h.upc hup t,h.upm hup⟩
theorem EA.inv {e : Eng} {C : Nat → Page} {B : Nat} {tx : Int} (h : EA e C B tx) (h0 : lastT e tx = 0) : Inv e C B:=by
 refine ⟨h.core,h.mlen,fun hd => ?_,fun _ t m hm => ?_,fun _ => h.upm⟩
 ·rw [h.up] at hd;cases hd
 ·by_cases e1 : t = tx
  ·subst e1
   rw [NV h0] at hm;cases hm
  ·exact h.oth t e1 m hm
theorem Inv.JN {e : Eng} {C : Nat → Page} {B : Nat} (h : Inv e C B) (hup : e.down = false) {tx : Int} (ht : tx = 1 ∨ tx = 2 ∨ tx = 3) : Inv (E8 e tx) C B ∧ lastT (E8 e tx) tx = 0 ∧ (E8 e tx).down = false:=by
 unfold E8
 split
 ·rename_i h0
  exact ⟨h,h0,hup⟩
 ·rename_i h0
  have:=EA.all ht _ e (h.und hup tx) h0 rfl
  exact ⟨this.1.inv this.2,this.2,this.1.up⟩
def AO (e : Eng) : Int:=if lastT e 1 ≠ 0 then 1 else if lastT e 2 ≠ 0 then 2 else if lastT e 3 ≠ 0 then 3 else 0
def Da : Nat → Eng → Eng
 | 0,e => e
 | k + 1,e => if AO e = 0 then e else Da k (BA e (AO e))
def LH (e : Eng) (steps : Nat) : Eng:=
 let x:=Da steps { e with mem:=Cs e.disk e.log e.log.length }
 if AO x = 0 then { x with down:=false } else { x with mem:=x.disk }
theorem Ii {e : Eng} (h : AO e ≠ 0) : (AO e = 1 ∨ AO e = 2 ∨ AO e = 3) ∧ lastT e (AO e) ≠ 0:=by
 unfold AO at h ⊢
 split at h
 ·rename_i h1;rw [if_pos h1];exact ⟨.inl rfl,h1⟩
 ·rename_i h1
  rw [if_neg h1]
  split at h
  ·rename_i h2;rw [if_pos h2];exact ⟨.inr (.inl rfl),h2⟩
  ·rename_i h2
   rw [if_neg h2]
   split at h
   ·rename_i h3;rw [if_pos h3];exact ⟨.inr (.inr rfl),h3⟩
   ·exact absurd rfl h
theorem K9 {e : Eng} (h : AO e = 0) : lastT e 1 = 0 ∧ lastT e 2 = 0 ∧ lastT e 3 = 0:=by
 unfold AO at h
 split at h
 ·cases h
 ·rename_i h1
  split at h
  ·cases h
  ·rename_i h2
   split at h
   ·cases h
   ·rename_i h3
    exact ⟨Decidable.not_not.1 h1,Decidable.not_not.1 h2,Decidable.not_not.1 h3⟩
theorem Nt {e : Eng} (h : Bu e.log e.log.length = 0) : AO e = 0:=by
 by_cases h0 : AO e = 0
 ·exact h0
 ·obtain ⟨h1,h2⟩:=Ii h0
  have h3 : 1 ≤ cst e.log (AO e) e.log.length:=by rw [cst,if_neg h2];omega
  rw [Bu] at h
  rcases h1 with h1 | h1 | h1 <;> rw [h1] at h3 <;> omega
structure Fh (e : Eng) (C : Nat → Page) (B : Nat) : Prop where
 core : Core e C B
 mlen : e.mem.length = 5
 same : ∀ p,p < 5 → pg e.mem p = Dy e p
theorem Fh.step {e : Eng} {C : Nat → Page} {B : Nat} (h : Fh e C B) {tx : Int} (ht : tx = 1 ∨ tx = 2 ∨ tx = 3) (hlast : lastT e tx ≠ 0) : Fh (BA e tx) C B:=
 ⟨h.core.step ht hlast,by unfold BA;rw [Mf];exact h.mlen,Uj h.core h.mlen tx h.same⟩
theorem Fh.all {C : Nat → Page} {B : Nat} : ∀ (k : Nat) (e : Eng),Fh e C B → Fh (Da k e) C B ∧ (Da k e).disk = e.disk ∧ (Da k e).safe = e.safe ∧ (Da k e).down = e.down ∧ (Bu e.log e.log.length ≤ k → AO (Da k e) = 0)
 | 0,e,h => ⟨h,rfl,rfl,rfl,fun hn => Nt (e:=e) (by omega)⟩
 | k + 1,e,h => by
  rw [Da]
  split
  ·rename_i h0
   exact ⟨h,rfl,rfl,rfl,fun _ => h0⟩
  ·rename_i h0
   obtain ⟨h1,h2⟩:=Ii h0
   obtain ⟨a,b,c,d,f⟩:=Fh.all k (BA e (AO e)) (h.step h1 h2)
   have hs:=h.core.QG h1 h2
   exact ⟨a,b,c,d,fun hn => f (by omega)⟩
theorem Core.start {e : Eng} {C : Nat → Page} {B : Nat} (h : Core e C B) : Fh { e with mem:=Cs e.disk e.log e.log.length } C B:=by
 refine ⟨h.mem _ e.down,by show (Cs e.disk e.log e.log.length).length = 5;rw [IB];exact h.dlen,fun p hp => ?_⟩
 exact LP h.dlen (fun k hk => (AJ h.log hk).ok) p _ (Nat.le_refl _)
theorem Core.XK {e : Eng} {C : Nat → Page} {B : Nat} (h : Core e C B) (h0 : AO e = 0) (t : Int) : Ch e.log t e.log.length = []:=by
 have hz:=K9 h0
 by_cases h1 : Ch e.log t e.log.length = []
 ·exact h1
 ·obtain ⟨m,hm⟩:=List.exists_mem_of_ne_nil _ h1
  have hb:=Ey _ m hm
  have hle:=Bf e.log t e.log.length
  have hrec:=AJ h.log (k:=m - 1) (by omega)
  have ht : t = 1 ∨ t = 2 ∨ t = 3:=by
   have hlt:=Ht e.log t e.log.length
   have hF:=AJ h.log (k:=Ap e.log t e.log.length - 1) (by omega)
   rcases hlt with hlt | hlt
   ·omega
   ·have h2:=hF.tx1
    have h3:=hF.tx3
    rw [hlt] at h2 h3
    omega
  rcases ht with rfl | rfl | rfl
  ·exact NV hz.1
  ·exact NV hz.2.1
  ·exact NV hz.2.2
theorem Core.noU {e : Eng} {C : Nat → Page} {B : Nat} (_h : Core e C B) (h0 : AO e = 0) (p : Int) : UA e.log e.log.length p = []:=by
 have hz:=K9 h0
 have hF : ∀ t,lastT e t = 0 → F e.log e.log.length p t = []:=fun t ht => by
  rw [F,U,show Ap e.log t e.log.length = 0 from ht,D9];rfl
 rw [UA,hF 1 hz.1,hF 2 hz.2.1,hF 3 hz.2.2];rfl
theorem Core.noL {e : Eng} {C : Nat → Page} {B : Nat} (h : Core e C B) (h0 : AO e = 0) (p : Int) : lds e.log e.log.length p = false:=by
 rw [Bool.eq_false_iff]
 intro hl
 obtain ⟨t,_,hlt⟩:=LZ.1 hl
 obtain ⟨m,hm,_⟩:=Vo.1 hlt
 rw [h.XK h0 t] at hm
 cases hm
theorem Fh.up {e : Eng} {C : Nat → Page} {B : Nat} (h : Fh e C B) (h0 : AO e = 0) : Inv { e with down:=false } C B:=by
 refine ⟨h.core.mem e.mem false,h.mlen,fun hd => (by cases hd),fun _ t m hm => ?_,fun _ p hp => ?_⟩
 ·have hm : m ∈ Ch e.log t e.log.length:=hm
  rw [h.core.XK h0 t] at hm;cases hm
 ·have hsm:=h.same p hp
  have hs1:=h.core.s1
  refine ⟨?_,?_,?_, .inl ⟨h.core.noL h0 p,hsm⟩⟩
  ·show Bt (pg e.mem p) = true
   rw [hsm];exact h.core.rok hp hs1 (Nat.le_refl _)
  ·show (pg e.mem p).owner = (Dy e p).owner
   rw [hsm]
  ·show (pg e.mem p).lsn ≤ (e.log.length : Int)
   rw [hsm];exact h.core.Wi hp hs1
theorem Inv.rise {e : Eng} {C : Nat → Page} {B : Nat} (h : Inv e C B) (hd : e.down = true) (k : Nat) : Inv (LH e k) C B:=by
 obtain ⟨a,b,c,d,_⟩:=Fh.all k _ h.core.start
 unfold LH
 simp only
 split
 ·rename_i h0
  exact a.up h0
 ·refine ⟨a.core.mem _ _,by show (Da k _).disk.length = 5;rw [b];exact h.core.dlen,fun _ => rfl,fun hx => ?_,fun hx => ?_⟩
  ·have hx : (Da k { e with mem:=Cs e.disk e.log e.log.length }).down = false:=hx
   rw [d] at hx
   rw [show e.down = false from hx] at hd;cases hd
  ·have hx : (Da k { e with mem:=Cs e.disk e.log e.log.length }).down = false:=hx
   rw [d] at hx
   rw [show e.down = false from hx] at hd;cases hd
theorem Inv.rises {e : Eng} {C : Nat → Page} {B : Nat} (h : Inv e C B) {k : Nat} (hk : Bu e.log e.log.length ≤ k) : (LH e k).down = false ∧ AO (LH e k) = 0:=by
 obtain ⟨a,b,c,d,f⟩:=Fh.all k _ h.core.start
 have h0:=f hk
 unfold LH
 simp only
 rw [if_pos h0]
 exact ⟨rfl,h0⟩
theorem Inv.truth {e : Eng} {C : Nat → Page} {B : Nat} (h : Inv e C B) (hup : e.down = false) (h0 : AO e = 0) {p : Nat} (hp : p < 5) : (pg e.mem p).owner = (C p).owner ∧ (pg e.mem p).vals = (C p).vals:=by
 have hc:=h.core
 have hg:=hc.Q6 hp (h.upm hup p hp).ok (h.upm hup p hp).owner (h.upm hup p hp).alt
 rw [hc.noU h0] at hg
 exact hg.2
theorem Inv.Ko {e : Eng} {C : Nat → Page} {B : Nat} (h : Inv e C B) : Bu e.log e.log.length ≤ 150:=by
 have h1:=h.core.room e.log.length (Nat.le_refl _)
 have h2:=h.core.b150
 omega
theorem L8 {p q : Page} : Gb p q = true ↔ p = q:=by
 simp only [Gb,Bool.and_eq_true,beq_iff_eq]
 constructor
 ·rintro ⟨⟨h1,h2⟩,h3⟩
  exact R3 h1 h2 h3
 ·rintro rfl
  exact ⟨⟨rfl,rfl⟩,rfl⟩
def Xf (e : Eng) (p : Nat) : Bool:=
 if IQ e.log p 3 = true then (pg e.mem p).owner == (pg (Cs e.disk e.log e.log.length) p).owner && (pg e.mem p).lsn == BN e.log p e.log.length && (decide ((pg e.disk p).lsn < (pg e.mem p).lsn) || Gb (pg e.mem p) (pg e.disk p))
 else Gb (pg e.mem p) (pg (Cs e.disk e.log e.log.length) p)
def JW (e : Eng) (p : Nat) : Bool:=
 (FN e.log p (Cg e.log 3) 0 true).2 && decide ((pg e.disk p).lsn ≤ e.safe) && (if e.down = true then Gb (pg e.mem p) (pg e.disk p) else Xf e p)
def KM (e : Eng) (n : Nat) : Bool:=I8 (Cs e.disk (e.log.take n) (e.log.take n).length) && J6 (e.log.take n) (Cs e.disk (e.log.take n) (e.log.take n).length)
def Ir (e : Eng) : Nat → Nat → Bool
 | 0,_ => true
 | k + 1,n => KM e n && Ir e k (n + 1)
def eOk (e : Eng) : Bool:=
 I8 e.disk && (I8 e.mem && (AQ e.log && (inB e.safe 0 e.log.length && (IY e.log && (Ir e (e.log.length + 1 - e.safe.toNat) e.safe.toNat && (List.range 5).all fun p => JW e p)))))
theorem Lc {e : Eng} : ∀ {k n : Nat},Ir e k n = true ↔ ∀ m,n ≤ m → m < n + k → KM e m = true
 | 0,n => ⟨fun _ m h1 h2 => by omega,fun _ => rfl⟩
 | k + 1,n => by
  rw [Ir,Bool.and_eq_true,Lc]
  constructor
  ·rintro ⟨h1,h2⟩ m h3 h4
   rcases Nat.eq_or_lt_of_le h3 with rfl | h3
   ·exact h1
   ·exact h2 m h3 (by omega)
  ·intro h
   exact ⟨h n (Nat.le_refl _) (by omega),fun m h1 h2 => h m (by omega) (by omega)⟩
theorem KH {l : List Rec} {C : Nat → Page} : ∀ {ms : List Nat} {ps : List Page},ps.length = 5 → (∀ m ∈ ms,0 ≤ (rc l (m - 1)).page ∧ (rc l (m - 1)).page < 5) → (∀ p,p < 5 → EL l (C p) (ms.filter fun m => (rc l (m - 1)).page == (p : Int)) (pg ps p)) → Fx l ps ms = true
 | [],_,_,_,_ => rfl
 | m :: ms,ps,hl,hm,hp => by
  have h5:=hm m (by simp)
  obtain ⟨q,hq⟩ : ∃ q : Nat,(rc l (m - 1)).page = (q : Int):=⟨(rc l (m - 1)).page.toNat,by omega⟩
  have hq5 : q < 5:=by omega
  have hpq:=hp q hq5
  rw [List.filter_cons,if_pos (by rw [hq];simp)] at hpq
  have e1 : (rc l (m - 1)).page.toNat = q:=by omega
  rw [Fx,e1,II hpq.2,Bool.true_and]
  refine KH (C:=C) (by simpa using hl) (fun x hx => hm x (by simp [hx])) fun p hp5 => ?_
  rw [FM (by omega)]
  by_cases e2 : q = p
  ·subst e2
   rw [if_pos rfl]
   exact hpq.2
  ·rw [if_neg e2]
   have hpp:=hp p hp5
   rw [List.filter_cons,if_neg (by rw [hq,beq_iff_eq];omega)] at hpp
   exact hpp
theorem VY (l : List Rec) (p : Int) : (Iq l 3).filter (fun m => (rc l (m - 1)).page == p) = UA l l.length p:=by
 have e1 : (3 - ((2 : Nat) : Int)) = 1:=rfl
 have e2 : (3 - ((1 : Nat) : Int)) = 2:=rfl
 have e3 : (3 - ((0 : Nat) : Int)) = 3:=rfl
 rw [Iq,Iq,Iq,Iq,e1,e2,e3,List.append_nil,List.filter_append,List.filter_append]
 rfl
theorem V3 {l : List Rec} (hl : AQ l = true) : ∀ m ∈ Iq l 3,0 ≤ (rc l (m - 1)).page ∧ (rc l (m - 1)).page < 5:=by
 have hU : ∀ t, ∀ m ∈ D5 l (Ap l t l.length),0 ≤ (rc l (m - 1)).page ∧ (rc l (m - 1)).page < 5:=fun t m hm => by
  have h1:=NA (l:=l) (tx:=t) (n:=l.length) hm
  have h2:=Ia hl h1.1 h1.2 (Qp hl (Nat.le_refl _) hm)
  exact ⟨h2.2.1,h2.2.2.1⟩
 intro m hm
 rw [Iq,Iq,Iq,Iq,List.append_nil,List.mem_append,List.mem_append] at hm
 rcases hm with hm | hm | hm <;> exact hU _ m hm
theorem ML {l : List Rec} {p : Int} : ∀ {txs : List Int} {b : Int} {ok : Bool},ok = true → (∀ t ∈ txs,t ≠ 0) → (∀ t ∈ txs, ∀ t' ∈ txs,t ≠ t' → GN l (Ap l t l.length) p = true → GN l (Ap l t' l.length) p = false) → txs.Nodup → (b = 0 ∨ ∀ t ∈ txs,GN l (Ap l t l.length) p = false) →
  (FN l p txs b ok).2 = true ∧ ((FN l p txs b ok).1 = b ∧ (∀ t ∈ txs,GN l (Ap l t l.length) p = false) ∨ ((FN l p txs b ok).1 ∈ txs ∧ GN l (Ap l (FN l p txs b ok).1 l.length) p = true))
 | [],b,ok,hok,_,_,_,_ => ⟨hok, .inl ⟨rfl,fun t ht => by cases ht⟩⟩
 | t :: txs,b,ok,hok,hz,hone,hnd,hb => by
  rw [List.nodup_cons] at hnd
  cases hh : GN l (Ap l t l.length) p
  ·rw [FN,if_neg (by rw [hh];simp)]
   have ih:=ML (b:=b) (ok:=ok) hok (fun x hx => hz x (by simp [hx])) (fun x hx y hy => hone x (by simp [hx]) y (by simp [hy])) hnd.2 (hb.imp id fun h x hx => h x (by simp [hx]))
   refine ⟨ih.1,ih.2.imp (fun h => ⟨h.1,fun x hx => ?_⟩) (fun h => ⟨List.mem_cons_of_mem _ h.1,h.2⟩)⟩
   rcases List.mem_cons.1 hx with rfl | hx
   ·exact hh
   ·exact h.2 x hx
  ·have hb0 : b = 0:=by
    rcases hb with hb | hb
    ·exact hb
    ·have:=hb t (by simp)
     rw [hh] at this;cases this
   have hrest : ∀ x ∈ txs,GN l (Ap l x l.length) p = false:=fun x hx => hone t (by simp) x (by simp [hx]) (fun e => hnd.1 (e ▸ hx)) hh
   rw [FN,if_pos hh]
   have ih:=ML (b:=t) (ok:=b == 0) (by rw [hb0];rfl) (fun x hx => hz x (by simp [hx])) (fun x hx y hy => hone x (by simp [hx]) y (by simp [hy])) hnd.2 (.inr hrest)
   refine ⟨ih.1, .inr ?_⟩
   rcases ih.2 with h | h
   ·rw [h.1];exact ⟨by simp,hh⟩
   ·have:=hrest _ h.1
    rw [h.2] at this;cases this
theorem Ig (l : List Rec) : Cg l 3 = (if Ap l 1 l.length = 0 then [] else [1]) ++ ((if Ap l 2 l.length = 0 then [] else [2]) ++ (if Ap l 3 l.length = 0 then [] else [3])):=by
 have e1 : (3 - ((2 : Nat) : Int)) = 1:=rfl
 have e2 : (3 - ((1 : Nat) : Int)) = 2:=rfl
 have e3 : (3 - ((0 : Nat) : Int)) = 3:=rfl
 rw [Cg,Cg,Cg,Cg,e1,e2,e3,List.append_nil]
theorem R6 (l : List Rec) : (Cg l 3).Nodup:=by
 rw [Ig]
 split <;> split <;> split <;> decide
theorem MJ {l : List Rec} {t : Int} : t ∈ Cg l 3 ↔ (t = 1 ∨ t = 2 ∨ t = 3) ∧ Ap l t l.length ≠ 0:=by
 rw [Ig,List.mem_append,List.mem_append]
 constructor
 ·rintro (h | h | h)
  ·split at h
   ·cases h
   ·rename_i h1;rw [List.mem_singleton.1 h];exact ⟨.inl rfl,h1⟩
  ·split at h
   ·cases h
   ·rename_i h1;rw [List.mem_singleton.1 h];exact ⟨.inr (.inl rfl),h1⟩
  ·split at h
   ·cases h
   ·rename_i h1;rw [List.mem_singleton.1 h];exact ⟨.inr (.inr rfl),h1⟩
 ·rintro ⟨rfl | rfl | rfl,h⟩
  ·left;rw [if_neg h];simp
  ·right;left;rw [if_neg h];simp
  ·right;right;rw [if_neg h];simp
def lk (l : List Rec) (p : Int) : Int:=(FN l p (Cg l 3) 0 true).1
theorem SB {l : List Rec} {p : Int} (hone : ∀ t t',t ≠ t' → has l t l.length p = true → has l t' l.length p = false) : (FN l p (Cg l 3) 0 true).2 = true ∧ ((lk l p = 0 ∧ ∀ t,(t = 1 ∨ t = 2 ∨ t = 3) → has l t l.length p = false) ∨ ((lk l p = 1 ∨ lk l p = 2 ∨ lk l p = 3) ∧ has l (lk l p) l.length p = true)):=by
 have h:=ML (l:=l) (p:=p) (txs:=Cg l 3) (b:=0) (ok:=true) rfl (fun t ht => by have:=(MJ.1 ht).1;omega) (fun t _ t' _ hne hh => hone t t' hne hh) (R6 l) (.inl rfl)
 refine ⟨h.1,h.2.imp (fun hx => ⟨hx.1,fun t ht => ?_⟩) (fun hx => ⟨(MJ.1 hx.1).1,hx.2⟩)⟩
 by_cases h0 : Ap l t l.length = 0
 ·rw [has,h0,IX]
 ·exact hx.2 t (MJ.2 ⟨ht,h0⟩)
theorem Core.one_holds {e : Eng} {C : Nat → Page} {B : Nat} (h : Core e C B) (p : Int) : ∀ t t',t ≠ t' → has e.log t e.log.length p = true → has e.log t' e.log.length p = false:=fun t t' hne hh => Hq h.log h.prop _ (Nat.le_refl _) t t' p hne hh
theorem Cz {ps : List Page} : I8 ps = true ↔ ps.length = 5 ∧ ∀ p,p < 5 → Bt (pg ps p) = true:=by
 simp only [I8,Bool.and_eq_true,beq_iff_eq,Bool.not_eq_true',List.any_eq_false]
 constructor
 ·rintro ⟨h1,h2⟩
  refine ⟨h1,fun p hp => ?_⟩
  have:=h2 (pg ps p) (by simp [pg,List.getD_eq_getElem?_getD,h1,hp])
  simpa using this
 ·rintro ⟨h1,h2⟩
  refine ⟨h1,fun x hx => ?_⟩
  obtain ⟨k,hk,rfl⟩:=List.getElem_of_mem hx
  have:=h2 k (by omega)
  simp [pg,List.getD_eq_getElem?_getD,hk] at this
  simp [this]
theorem Core.pref {e : Eng} {C : Nat → Page} {B : Nat} (h : Core e C B) {n : Nat} (h1 : e.safe ≤ n) (h2 : n ≤ e.log.length) : KM e n = true:=by
 have ht:=h.take h1 h2
 have hl : (e.log.take n).length = n:=by rw [List.length_take];omega
 have hrd:=fun p => LP h.dlen (fun k hk => (AJ ht.log hk).ok) p n (by show n ≤ (e.log.take n).length;omega)
 have hg:=ht.good n h1 (by show n ≤ (e.log.take n).length;omega)
 rw [KM,hl,Bool.and_eq_true]
 refine ⟨Cz.2 ⟨by rw [IB];exact h.dlen,fun p hp => ?_⟩,?_⟩
 ·rw [hrd];exact II (hg p hp)
 ·rw [J6,JO]
  refine KH (C:=C) (by rw [IB];exact h.dlen) (V3 ht.log) fun p hp => ?_
  rw [VY,hl,hrd]
  exact hg p hp
theorem Inv.Gp {e : Eng} {C : Nat → Page} {B : Nat} (h : Inv e C B) : I8 e.mem = true:=by
 rw [Cz]
 refine ⟨h.mlen,fun p hp => ?_⟩
 cases hd : e.down
 ·exact (h.upm hd p hp).ok
 ·rw [h.dn hd];exact h.core.dok p hp
theorem UE (l : List Rec) (p : Int) : IQ l p 3 = lds l l.length p:=Vm l p
theorem Inv.ok {e : Eng} {C : Nat → Page} {B : Nat} (h : Inv e C B) : eOk e = true:=by
 have hc:=h.core
 have hs0:=hc.s0
 have hs1:=hc.s1
 have hroom:=hc.room e.log.length (Nat.le_refl _)
 have hb:=hc.b150
 simp only [eOk,Bool.and_eq_true]
 refine ⟨Cz.2 ⟨hc.dlen,hc.dok⟩,h.Gp,hc.log,Dh.2 ⟨hs0,hs1⟩,?_,?_,?_⟩
 ·rw [IY,LV,decide_eq_true_eq];omega
 ·rw [Lc]
  intro m h1 h2
  exact hc.pref (by omega) (by omega)
 ·rw [List.all_eq_true]
  intro p hp
  have hp : p < 5:=by simpa using hp
  have hrd:=LP hc.dlen (fun k hk => (AJ hc.log hk).ok) p e.log.length (Nat.le_refl _)
  simp only [JW,Bool.and_eq_true,decide_eq_true_eq]
  refine ⟨⟨(SB (hc.one_holds p)).1,hc.Mc p hp⟩,?_⟩
  split
  ·rename_i hd
   rw [h.dn hd]
   exact L8.2 rfl
  ·rename_i hd
   have hM:=h.upm (by simpa using hd) p hp
   rw [Xf,hrd,UE]
   rcases hM.cases with hx | ⟨a,b,c,d⟩
   ·rw [if_neg (by rw [hx.1];simp)]
    exact L8.2 hx.2
   ·rw [if_pos a]
    simp only [Bool.and_eq_true,beq_iff_eq,Bool.or_eq_true,decide_eq_true_eq]
    exact ⟨⟨hM.owner,b⟩,c.imp id L8.2⟩
def Dv (e : Eng) (tx page : Int) : Bool := !e.down && (inB tx 1 3 && (inB page 0 4 && (lk e.log page == 0 || lk e.log page == tx)))
def Bq (e : Eng) (ok : Bool) (x : Eng) : Eng × Bool:=if ok = true ∧ IY x.log = true then (x,true) else (e,false)
def ND (e : Eng) (tx page slot val : Int) : Rec:=⟨1,tx,page,slot,iv (pg e.mem page.toNat).vals slot.toNat,val,0,0⟩
def OL (e : Eng) (tx page slot val : Int) : Bool:=Dv e tx page && ((pg e.mem page.toNat).owner != 0 && (inB slot 0 2 && inB val 0 9))
def Lb (e : Eng) (tx page slot val : Int) : Eng × Bool:=Bq e (OL e tx page slot val) (e.app (ND e tx page slot val))
def NE (e : Eng) (tx page table : Int) : Rec:=⟨2,tx,page, -1,(pg e.mem page.toNat).owner,table,0,0⟩
def ownB (e : Eng) (tx page table : Int) : Bool:=Dv e tx page && (inB table 0 3 && (((pg e.mem page.toNat).owner == 0) != (table == 0) && EU (pg e.mem page.toNat).vals))
def Ld (e : Eng) (tx page table : Int) : Eng × Bool:=Bq e (ownB e tx page table) (e.app (NE e tx page table))
def Nc (l : List Rec) (tx page : Int) : Bool:=(Ch l tx l.length).any fun m => (rc l (m - 1)).kind == 2 && ((rc l (m - 1)).page == page && (rc l (m - 1)).new != 0)
def K6 (e : Eng) (tx page : Int) (vals : List Int) : Bool:=Dv e tx page && ((pg e.mem page.toNat).owner != 0 && (EU (pg e.mem page.toNat).vals && (FY vals && Nc e.log tx page)))
def K5 (e : Eng) (tx page : Int) (vals : List Int) : Eng:={ e with log:=e.log ++ [⟨3,tx,page,0,0,0,Ap e.log tx e.log.length,0⟩],mem:=e.mem.set page.toNat ⟨(e.log.length + 1 : Nat),(pg e.mem page.toNat).owner,vals⟩ }
def Gx (e : Eng) (tx page : Int) (vals : List Int) : Eng × Bool:=Bq e (K6 e tx page vals) (K5 e tx page vals)
def KN (e : Eng) (tx : Int) : Bool := !e.down && (inB tx 1 3 && lastT e tx != 0)
def AP (e : Eng) (v : Evt) : Eng:=
 if v.kind = 1 then (Lb e v.tx v.page v.slot v.n).1
 else if v.kind = 2 then (Ld e v.tx v.page v.n).1
 else if v.kind = 3 then (Gx e v.tx v.page v.vals).1
 else if v.kind = 4 then (if KN e v.tx = true then DY e v.tx else e)
 else if v.kind = 5 then (if KN e v.tx = true then E8 e v.tx else e)
 else if v.kind = 6 then (if e.down = false ∧ inB v.page 0 4 = true then CF e v.page.toNat else e)
 else if v.kind = 7 then (if e.down = false then Fu e else e)
 else if v.kind = 8 then (if 0 ≤ v.n then Ij e v.n else e)
 else if v.kind = 9 then (if e.down = true ∧ 0 ≤ v.n then LH e v.n.toNat else e)
 else e
def V5 (e : Eng) (v : Evt) (C : Nat → Page) : Nat → Page:=if v.kind = 4 ∧ KN e v.tx = true then QF e v.tx C else C
theorem FC {e : Eng} {tx : Int} : KN e tx = true ↔ e.down = false ∧ (tx = 1 ∨ tx = 2 ∨ tx = 3) ∧ lastT e tx ≠ 0:=by
 simp only [KN,Bool.and_eq_true,Bool.not_eq_true',Dh,bne_iff_ne]
 constructor
 ·rintro ⟨h1,h2,h3⟩;exact ⟨h1,by omega,h3⟩
 ·rintro ⟨h1,h2,h3⟩;exact ⟨h1,by omega,h3⟩
theorem Kh {vs : List Int} : EU vs = true ↔ ∀ x ∈ vs,x = 0:=by
 simp [EU]
theorem DR {e : Eng} {tx page : Int} : Dv e tx page = true ↔ e.down = false ∧ (1 ≤ tx ∧ tx ≤ 3) ∧ (0 ≤ page ∧ page ≤ 4) ∧ (lk e.log page = 0 ∨ lk e.log page = tx):=by
 simp only [Dv,Bool.and_eq_true,Bool.not_eq_true',Dh,Bool.or_eq_true,beq_iff_eq]
theorem Core.free {e : Eng} {C : Nat → Page} {B : Nat} (h : Core e C B) {tx page : Int} (hl : lk e.log page = 0 ∨ lk e.log page = tx) : ∀ t,t ≠ tx → has e.log t e.log.length page = false:=by
 intro t ht
 have hall:=(SB (h.one_holds page)).2
 rcases hall with hx | hx
 ·by_cases h0 : Ap e.log t e.log.length = 0
  ·rw [has,h0,IX]
  ·refine hx.2 t ?_
   have hlt:=Ht e.log t e.log.length
   have hle:=Bf e.log t e.log.length
   have hF:=AJ h.log (k:=Ap e.log t e.log.length - 1) (by omega)
   rcases hlt with hlt | hlt
   ·exact absurd hlt h0
   ·have h2:=hF.tx1
    have h3:=hF.tx3
    rw [hlt] at h2 h3
    omega
 ·rcases hl with hl | hl
  ·rw [hl] at hx;omega
  ·exact h.one_holds page (lk e.log page) t (by rw [hl];exact Ne.symm ht) hx.2
theorem Inv.mono {e : Eng} {C : Nat → Page} {B B' : Nat} (h : Inv e C B) (hB : B ≤ B') (h150 : B' ≤ 150) : Inv e C B':=
 ⟨⟨h.core.dlen,h.core.dok,h.core.log,h.core.prop,h.core.s0,h.core.s1,h150,fun n hn => by have:=h.core.room n hn;omega,h.core.done,h.core.Mc,h.core.good⟩,h.mlen,h.dn,h.upc,h.upm⟩
theorem Ww {e : Eng} {C : Nat → Page} {B : Nat} (h : Core e C B) : IY e.log = true:=by
 have h1:=h.room e.log.length (Nat.le_refl _)
 have h2:=h.b150
 rw [IY,LV,decide_eq_true_eq];omega
theorem Inv.Vb {e : Eng} {C : Nat → Page} {B : Nat} (h : Inv e C B) (hB : B + 3 ≤ 150) {tx page slot val : Int} (hp : OL e tx page slot val = true) : Inv (e.app (ND e tx page slot val)) C (B + 3):=by
 simp only [OL,Bool.and_eq_true,DR,bne_iff_ne,Dh] at hp
 obtain ⟨⟨h1,h2,h3,h4⟩,h5,h6,h7⟩:=hp
 exact h.chg h1 (p:=page.toNat) (by omega) (by show page = _;omega) (by show tx = 1 ∨ tx = 2 ∨ tx = 3;omega) (.inl ⟨rfl,h5,h6.1,h6.2,h7.1,h7.2,rfl⟩) rfl (by
  have:=h.core.free h4
  rwa [show ((page.toNat : Nat) : Int) = page by omega]) hB
theorem Inv.Vi {e : Eng} {C : Nat → Page} {B : Nat} (h : Inv e C B) (hB : B + 3 ≤ 150) {tx page table : Int} (hp : ownB e tx page table = true) : Inv (e.app (NE e tx page table)) C (B + 3):=by
 simp only [ownB,Bool.and_eq_true,DR,bne_iff_ne,Dh,Kh] at hp
 obtain ⟨⟨h1,h2,h3,h4⟩,h5,h6,h7⟩:=hp
 have hok:=(Cq.1 (Cz.1 h.Gp |>.2 page.toNat (by omega))).2.2.2.2.1
 refine h.chg h1 (p:=page.toNat) (by omega) (by show page = _;omega) (by show tx = 1 ∨ tx = 2 ∨ tx = 3;omega) (.inr ⟨rfl,rfl,h5.1,h5.2,?_,UW hok h7,rfl⟩) rfl (by
  have:=h.core.free h4
  rwa [show ((page.toNat : Nat) : Int) = page by omega]) hB
 show (pg e.mem page.toNat).owner = 0 ↔ table ≠ 0
 constructor
 ·intro e1 e2
  rw [e1,e2] at h6
  exact h6 rfl
 ·intro e2
  by_cases e1 : (pg e.mem page.toNat).owner = 0
  ·exact e1
  ·exfalso
   apply h6
   rw [beq_eq_false_iff_ne.2 e1,beq_eq_false_iff_ne.2 e2]
theorem Inv.Rk {e : Eng} {C : Nat → Page} {B : Nat} (h : Inv e C B) (hB : B + 3 ≤ 150) {tx page : Int} {vals : List Int} (hp : K6 e tx page vals = true) : Inv (K5 e tx page vals) C (B + 3):=by
 simp only [K6,Bool.and_eq_true,DR,bne_iff_ne,Kh] at hp
 obtain ⟨⟨h1,h2,h3,h4⟩,h5,h6,h7,h8⟩:=hp
 have e1 : ((page.toNat : Nat) : Int) = page:=by omega
 have hL:=h.load (tx:=tx) (p:=page.toNat) (vals:=vals) h1 (by omega) (by omega) h5 ?_ (by rw [e1];exact h.core.free h4) ?_ hB
 ·rw [e1] at hL
  exact hL
 ·simp only [FY,Bool.and_eq_true,beq_iff_eq,Bool.not_eq_true',List.any_eq_false] at h7
  refine ⟨h7.1,fun x hx => ?_⟩
  have:=h7.2 x hx
  simp [inB] at this
  exact this
 ·rw [e1]
  simp only [Nc,List.any_eq_true,Bool.and_eq_true,beq_iff_eq,bne_iff_ne] at h8
  obtain ⟨m,h8,h9⟩:=h8
  exact ⟨m,h8,h9⟩
theorem Inv.change {e x : Eng} {C : Nat → Page} {B : Nat} (h : Inv e C B) (hB : B + 3 ≤ 150) {ok : Bool} (hx : ok = true → Inv x C (B + 3)) : Inv (Bq e ok x).1 C (B + 3):=by
 unfold Bq
 split
 ·rename_i hc;exact hx hc.1
 ·exact h.mono (by omega) hB
theorem Inv.play {e : Eng} {C : Nat → Page} {B : Nat} (h : Inv e C B) (hB : B + 3 ≤ 150) (v : Evt) : Inv (AP e v) (V5 e v C) (B + 3):=by
 have hid:=h.mono (show B ≤ B + 3 by omega) hB
 have hle : B ≤ B + 3:=by omega
 unfold AP V5
 by_cases k4 : v.kind = 4
 ·rw [if_neg (by omega),if_neg (by omega),if_neg (by omega),if_pos k4]
  cases ho : KN e v.tx
  ·rw [if_neg (by simp),if_neg (by simp)];exact hid
  ·rw [if_pos rfl,if_pos ⟨k4,rfl⟩]
   obtain ⟨h1,h2,h3⟩:=FC.1 ho
   exact (h.VE h1 h2 h3).mono hle hB
 have h4 : ¬ (v.kind = 4 ∧ KN e v.tx = true):=fun hx => k4 hx.1
 rw [if_neg h4]
 by_cases k1 : v.kind = 1
 ·rw [if_pos k1];exact h.change hB (h.Vb hB)
 rw [if_neg k1]
 by_cases k2 : v.kind = 2
 ·rw [if_pos k2];exact h.change hB (h.Vi hB)
 rw [if_neg k2]
 by_cases k3 : v.kind = 3
 ·rw [if_pos k3];exact h.change hB (h.Rk hB)
 rw [if_neg k3,if_neg k4]
 by_cases k5 : v.kind = 5
 ·rw [if_pos k5]
  split
  ·rename_i ho
   obtain ⟨h1,h2,h3⟩:=FC.1 ho
   exact (h.JN h1 h2).1.mono hle hB
  ·exact hid
 rw [if_neg k5]
 by_cases k6 : v.kind = 6
 ·rw [if_pos k6]
  split
  ·rename_i hw
   have:=Dh.1 hw.2
   exact (h.write hw.1 (by omega)).mono hle hB
  ·exact hid
 rw [if_neg k6]
 by_cases k7 : v.kind = 7
 ·rw [if_pos k7]
  split
  ·rename_i hd;exact (h.force hd).mono hle hB
  ·exact hid
 rw [if_neg k7]
 by_cases k8 : v.kind = 8
 ·rw [if_pos k8]
  split
  ·exact (h.fall _).mono hle hB
  ·exact hid
 rw [if_neg k8]
 by_cases k9 : v.kind = 9
 ·rw [if_pos k9]
  split
  ·rename_i hr;exact (h.rise hr.1 _).mono hle hB
  ·exact hid
 rw [if_neg k9]
 exact hid
def newP : Page:=⟨0,0, [0,0,0]⟩
def newE : Eng:=⟨List.replicate 5 newP,List.replicate 5 newP, [],0,false⟩
theorem Oc {p : Nat} (h : p < 5) : pg (List.replicate 5 newP) p = newP:=by
 match p,h with
 | 0,_ => rfl
 | 1,_ => rfl
 | 2,_ => rfl
 | 3,_ => rfl
 | 4,_ => rfl
theorem Wt : Inv newE (fun _ => newP) 0:=by
 have hU : ∀ p : Int,UA [] 0 p = []:=fun p => by simp [UA,F,U,Ap,D9]
 have hok : Bt newP = true:=by decide
 refine ⟨⟨rfl,fun p hp => ?_,rfl,fun k hk => ?_,Int.le_refl _,Int.le_refl _,by omega,fun n hn => ?_,fun k hk => ?_,fun p hp => ?_,fun n _ hn p hp => ?_⟩,rfl,fun hd => rfl,fun _ t m hm => ?_,fun _ p hp => ⟨?_,?_,?_, .inl ⟨?_,?_⟩⟩⟩
 ·show Bt (pg (List.replicate 5 newP) p) = true
  rw [Oc hp];exact hok
 ·cases hk
 ·obtain rfl : n = 0:=Nat.le_zero.1 hn
  show 0 + Bu [] 0 ≤ 0
  simp [Bu,cst,U,Ap,D9]
 ·cases hk
 ·show (pg (List.replicate 5 newP) p).lsn ≤ 0
  rw [Oc hp];exact Int.le_refl _
 ·obtain rfl : n = 0:=Nat.le_zero.1 hn
  show EL [] newP (UA [] 0 p) (Cf (pg (List.replicate 5 newP) p) [] p 0)
  rw [hU,Oc hp]
  exact ⟨hok,rfl,rfl⟩
 ·simp [Ch,newE,Ap,Ct] at hm
 ·show Bt (pg (List.replicate 5 newP) p) = true
  rw [Oc hp];exact hok
 ·rfl
 ·show (pg (List.replicate 5 newP) p).lsn ≤ 0
  rw [Oc hp];exact Int.le_refl _
 ·simp [newE,lds,ld,Ap,Lg]
 ·rfl
def runE (e : Eng) : List Evt → Eng
 | [] => e
 | v :: vs => runE (AP e v) vs
def WJ (e : Eng) (C : Nat → Page) : List Evt → Nat → Page
 | [] => C
 | v :: vs => WJ (AP e v) (V5 e v C) vs
theorem Inv.run : ∀ {vs : List Evt} {e : Eng} {C : Nat → Page} {B : Nat},Inv e C B → B + 3 * vs.length ≤ 150 → Inv (runE e vs) (WJ e C vs) (B + 3 * vs.length)
 | [],e,C,B,h,_ => h
 | v :: vs,e,C,B,h,hB => by
  rw [List.length_cons] at hB
  have:=Inv.run (h.play (by omega) v) (vs:=vs) (by omega)
  rw [List.length_cons,show B + 3 * (vs.length + 1) = B + 3 + 3 * vs.length by omega]
  exact this
def FL (P : Page) (r : Rec) (n : Int) : Bool:=Bt P && (D6 r && (CP r.kind && (decide (P.lsn < n) && (decide (n ≤ 150) && Bt (doR P r n)))))
structure Jt (e : Eng) (tx : Int) : Prop where
 log : AQ e.log = true
 geo : geo e.mem
 t1 : 1 ≤ tx
 t3 : tx ≤ 3
 Ws : e.log.length + 1 ≤ 150
 may : CP (CX e tx).kind = true → FL (pg e.mem (CX e tx).page.toNat) (CX e tx) (e.log.length + 1 : Nat) = true
 log' : AQ (e.log ++ [CX e tx]) = true
 room : e.log.length + 1 + Bu (e.log ++ [CX e tx]) (e.log.length + 1) ≤ 150
structure Sim (ps qs : List Page) : Prop where
 l : ps.length = 5
 l' : qs.length = 5
 lsn : ∀ p,p < 5 → 0 ≤ (pg qs p).lsn ∧ (pg qs p).lsn ≤ 150
 owner : ∀ p,p < 5 → (pg qs p).owner = (pg ps p).owner
 vals : ∀ p,p < 5 → (pg qs p).vals = (pg ps p).vals
theorem Ue {P Q : Page} (r : Rec) (ho : Q.owner = P.owner) (hv : Q.vals = P.vals) : (Bj Q r).owner = (Bj P r).owner ∧ (Bj Q r).vals = (Bj P r).vals:=by
 unfold Bj
 split
 ·exact ⟨ho,by simp only;rw [hv]⟩
 ·split
  ·exact ⟨rfl,rfl⟩
  ·exact ⟨rfl,hv⟩
theorem Mt {l : List Rec} : ∀ {ms : List Nat} {ps qs : List Page},(∀ m ∈ ms,0 ≤ (rc l (m - 1)).page ∧ (rc l (m - 1)).page < 5) → Sim ps qs → Fx l ps ms = true → Fx l qs ms = true
 | [],_,_,_,_,_ => rfl
 | m :: ms,ps,qs,hm,hs,h => by
  have h5:=hm m (by simp)
  rw [Fx,Bool.and_eq_true] at h ⊢
  have hp : (rc l (m - 1)).page.toNat < 5:=by omega
  have hw:=Ue (BD (rc l (m - 1)) 0) (hs.owner _ hp) (hs.vals _ hp)
  have hl:=hs.lsn _ hp
  refine ⟨?_,Mt (fun x hx => hm x (by simp [hx])) ⟨by simpa using hs.l,by simpa using hs.l',fun p hp5 => ?_,fun p hp5 => ?_,fun p hp5 => ?_⟩ h.2⟩
  ·have h1:=Hg (k:=(pg qs (rc l (m - 1)).page.toNat).lsn) h.1 hl.1 hl.2
   rw [← hw.1, ← hw.2] at h1
   rw [← Ki (pg qs (rc l (m - 1)).page.toNat) (BD (rc l (m - 1)) 0)] at h1
   exact h1
  ·rw [FM (by rw [hs.l'];exact hp)]
   split
   ·rw [Ki];exact hl
   ·exact hs.lsn p hp5
  ·rw [FM (by rw [hs.l'];exact hp),FM (by rw [hs.l];exact hp)]
   split
   ·exact hw.1
   ·exact hs.owner p hp5
  ·rw [FM (by rw [hs.l'];exact hp),FM (by rw [hs.l];exact hp)]
   split
   ·exact hw.2
   ·exact hs.vals p hp5
theorem JM {l l' : List Rec} {n : Nat} (h : Agree l l' n) : ∀ {ms : List Nat} {ps : List Page},(∀ m ∈ ms,0 < m ∧ m ≤ n) → Fx l ps ms = Fx l' ps ms
 | [],_,_ => rfl
 | m :: ms,ps,hm => by
  have:=hm m (by simp)
  rw [Fx,Fx,h (m - 1) (by omega),JM h (fun x hx => hm x (by simp [hx]))]
structure Qo (e : Eng) (ms : List Nat) : Prop where
 log : AQ e.log = true
 mem : I8 e.mem = true
 lsn : ∀ p,p < 5 → (pg e.mem p).lsn ≤ e.log.length
 und : Fx e.log e.mem ms = true
 room : e.log.length + Bu e.log e.log.length ≤ 150
theorem Qo.one {e : Eng} {ms : List Nat} (h : Qo e ms) {tx : Int} (ht : tx = 1 ∨ tx = 2 ∨ tx = 3) (hlast : lastT e tx ≠ 0) : e.log.length + 1 ≤ 150:=by
 have h1:=h.room
 have h3 : cst e.log tx e.log.length ≥ 1:=by rw [cst,if_neg hlast];omega
 have h4 : cst e.log tx e.log.length ≤ Bu e.log e.log.length:=by
  rw [Bu]
  rcases ht with rfl | rfl | rfl <;> omega
 omega
theorem Qo.Ga {e : Eng} {tx : Int} {rest : List Nat} (h : Qo e (U e.log tx e.log.length ++ rest)) (ht : tx = 1 ∨ tx = 2 ∨ tx = 3) (hlast : lastT e tx ≠ 0) : Jt e tx:=by
 have h1:=h.one ht hlast
 have hk:=EQ (e:=e) h.log tx
 have hl':=hk.log h.log (by omega) h1
 have hn:=hk.need h.log ht h1 hlast
 have hr:=h.room
 refine ⟨h.log,Ay h.mem,by omega,by omega,h1,fun hc => ?_,hl',by omega⟩
 have hok:=hk.ok h.log (by omega)
 have hund:=h.und
 have hmem:=Cz.1 h.mem
 have hls:=h.lsn
 generalize CX e tx = r at hk hok hc ⊢
 cases hk with
 | fin hU => simp [CP] at hc
 | JN m ms hU h0 hm hkk htx =>
  have hrec:=Ia h.log h0 hm hkk
  rw [hU,List.cons_append,Fx,Bool.and_eq_true] at hund
  have hp : (rc e.log (m - 1)).page.toNat < 5:=by omega
  have hl5:=hls _ hp
  simp only [FL,Bool.and_eq_true,decide_eq_true_eq]
  refine ⟨hmem.2 _ hp,hok,hc,?_,by omega,?_⟩
  ·show (pg e.mem (rc e.log (m - 1)).page.toNat).lsn < ((e.log.length + 1 : Nat) : Int)
   omega
  ·rw [ES]
   exact Hg hund.1 (by omega) (by omega)
theorem Qo.step {e : Eng} {tx : Int} {rest : List Nat} (h : Qo e (U e.log tx e.log.length ++ rest)) (ht : tx = 1 ∨ tx = 2 ∨ tx = 3) (hlast : lastT e tx ≠ 0) (hrest : ∀ m ∈ rest,0 < m ∧ m ≤ e.log.length ∧ 0 ≤ (rc e.log (m - 1)).page ∧ (rc e.log (m - 1)).page < 5) : Qo (BA e tx) ((U e.log tx e.log.length).tail ++ rest):=by
 have h1:=h.one ht hlast
 have hk:=EQ (e:=e) h.log tx
 have hl':=hk.log h.log (by omega) h1
 have hn:=hk.need h.log ht h1 hlast
 have hr:=h.room
 have hmem:=Cz.1 h.mem
 have hso:=h.Ga ht hlast
 have hM:=fun p => KC hmem.1 (Iz h.log tx) p
 have hA:=Cw e.log [CX e tx]
 have hLl : (BA e tx).log = e.log ++ [CX e tx]:=rfl
 have hM : ∀ p : Nat,pg (BA e tx).mem p = if CP (CX e tx).kind = true ∧ (CX e tx).page = (p : Int) then doR (pg e.mem p) (CX e tx) (e.log.length + 1 : Nat) else pg e.mem p:=hM
 have hml : (BA e tx).mem.length = 5:=by unfold BA;rw [Mf];exact hmem.1
 have hUr : ∀ m ∈ U e.log tx e.log.length,0 < m ∧ m ≤ e.log.length ∧ 0 ≤ (rc e.log (m - 1)).page ∧ (rc e.log (m - 1)).page < 5:=fun m hm => by
  have h2:=NA hm
  have h3:=Ia h.log h2.1 h2.2 (Qp h.log (Nat.le_refl _) hm)
  exact ⟨h2.1,h2.2,h3.2.1,h3.2.2.1⟩
 have hpage : ∀ p : Nat,p < 5 → Bt (pg (BA e tx).mem p) = true:=fun p hp => by
  rw [hM p]
  split
  ·rename_i hc
   have:=hso.may hc.1
   simp only [FL,Bool.and_eq_true,decide_eq_true_eq] at this
   rw [show (CX e tx).page.toNat = p by omega] at this
   exact this.2.2.2.2.2
  ·exact hmem.2 p hp
 refine ⟨by rw [hLl];exact hl',Cz.2 ⟨hml,hpage⟩,fun p hp => ?_,?_,by rw [hLl];simp only [List.length_append,List.length_singleton];omega⟩
 ·rw [hM p,hLl]
  simp only [List.length_append,List.length_singleton]
  split
  ·exact Int.le_refl _
  ·have:=h.lsn p hp;omega
 ·have hund:=h.und
  rw [hLl]
  generalize CX e tx = r at hk hl' hn hA hM
  cases hk with
  | fin hU =>
   rw [hU,List.nil_append] at hund
   rw [hU,List.tail_nil,List.nil_append,JM hA (fun m hm => by have:=hrest m hm;omega)]
   refine Mt (fun m hm => (hrest m hm).2.2) ⟨hmem.1,hml,fun p hp => ?_,fun p hp => ?_,fun p hp => ?_⟩ hund
   ·have:=Cq.1 (hpage p hp);exact ⟨this.1,this.2.1⟩
   ·rw [hM p,if_neg (fun hc => by simp [CP] at hc)]
   ·rw [hM p,if_neg (fun hc => by simp [CP] at hc)]
  | JN m ms hU h0 hm hkk htx =>
   rw [hU,List.cons_append,Fx,Bool.and_eq_true] at hund
   rw [hU] at hUr
   have hmr:=hUr m (by simp)
   have hmp : (rc e.log (m - 1)).page.toNat < 5:=by omega
   rw [hU,List.tail_cons,JM hA (fun x hx => by
    rcases List.mem_append.1 hx with hx | hx
    ·have:=hUr x (by simp [hx]);omega
    ·have:=hrest x hx;omega)]
   refine Mt (fun x hx => ?_) ⟨by simpa using hmem.1,hml,fun p hp => ?_,fun p hp => ?_,fun p hp => ?_⟩ hund.2
   ·rcases List.mem_append.1 hx with hx | hx
    ·exact (hUr x (by simp [hx])).2.2
    ·exact (hrest x hx).2.2
   ·have:=Cq.1 (hpage p hp);exact ⟨this.1,this.2.1⟩
   ·rw [hM p,FM (by rw [hmem.1];exact hmp)]
    by_cases e1 : (rc e.log (m - 1)).page.toNat = p
    ·rw [if_pos ⟨rfl,by show (rc e.log (m - 1)).page = _;omega⟩,if_pos e1, ← e1];rfl
    ·rw [if_neg (fun hc => e1 (by have h2 : (rc e.log (m - 1)).page = (p : Int):=hc.2;omega)),if_neg e1]
   ·rw [hM p,FM (by rw [hmem.1];exact hmp)]
    by_cases e1 : (rc e.log (m - 1)).page.toNat = p
    ·rw [if_pos ⟨rfl,by show (rc e.log (m - 1)).page = _;omega⟩,if_pos e1, ← e1];rfl
    ·rw [if_neg (fun hc => e1 (by have h2 : (rc e.log (m - 1)).page = (p : Int):=hc.2;omega)),if_neg e1]
theorem J7 (l : List Rec) : Iq l 3 = U l 1 l.length ++ (U l 2 l.length ++ U l 3 l.length):=by
 have e1 : (3 - ((2 : Nat) : Int)) = 1:=rfl
 have e2 : (3 - ((1 : Nat) : Int)) = 2:=rfl
 have e3 : (3 - ((0 : Nat) : Int)) = 3:=rfl
 rw [Iq,Iq,Iq,Iq,e1,e2,e3,List.append_nil]
 rfl
def Fw (e : Eng) : Prop:=Qo e (Iq e.log 3)
theorem Kr {e : Eng} {t : Int} (h : lastT e t = 0) : U e.log t e.log.length = []:=by rw [U,show Ap e.log t e.log.length = 0 from h,D9]
theorem Fw.step {e : Eng} (h : Fw e) (h0 : AO e ≠ 0) : Jt e (AO e) ∧ Fw (BA e (AO e)) ∧ Bu (BA e (AO e)).log (BA e (AO e)).log.length + 1 = Bu e.log e.log.length:=by
 obtain ⟨ht,hlast⟩:=Ii h0
 have hlt:=h
 unfold Fw at h ⊢
 obtain ⟨rest,hrest,hr2,hr3⟩ : ∃ rest,Iq e.log 3 = U e.log (AO e) e.log.length ++ rest ∧ (∀ m ∈ rest, ∃ t,m ∈ U e.log t e.log.length) ∧ ∀ l' : List Rec,(∀ t,t ≠ AO e → U l' t l'.length = U e.log t e.log.length) → Iq l' 3 = U l' (AO e) l'.length ++ rest:=by
  rw [J7]
  by_cases h1 : lastT e 1 = 0
  ·by_cases h2 : lastT e 2 = 0
   ·by_cases h3 : lastT e 3 = 0
    ·exact absurd (show AO e = 0 by unfold AO;rw [if_neg (by simpa using h1),if_neg (by simpa using h2),if_neg (by simpa using h3)]) h0
    ·have hf : AO e = 3:=by unfold AO;rw [if_neg (by simpa using h1),if_neg (by simpa using h2),if_pos h3]
     rw [hf,Kr h1,Kr h2]
     refine ⟨[],by simp,fun m hm => (by cases hm),fun l' hl => ?_⟩
     rw [J7,hl 1 (by decide),hl 2 (by decide),Kr h1,Kr h2];simp
   ·have hf : AO e = 2:=by unfold AO;rw [if_neg (by simpa using h1),if_pos h2]
    rw [hf,Kr h1]
    refine ⟨U e.log 3 e.log.length,by simp,fun m hm => ⟨3,hm⟩,fun l' hl => ?_⟩
    rw [J7,hl 1 (by decide),hl 3 (by decide),Kr h1];simp
  ·have hf : AO e = 1:=by unfold AO;rw [if_pos h1]
   rw [hf]
   refine ⟨U e.log 2 e.log.length ++ U e.log 3 e.log.length,rfl,fun m hm => ?_,fun l' hl => ?_⟩
   ·rcases List.mem_append.1 hm with hm | hm
    ·exact ⟨2,hm⟩
    ·exact ⟨3,hm⟩
   ·rw [J7,hl 2 (by decide),hl 3 (by decide)]
 rw [hrest] at h
 have h1:=h.one ht hlast
 have hk:=EQ (e:=e) h.log (AO e)
 have hn:=hk.next h.log (by omega) h1
 have hd:=hk.need h.log ht h1 hlast
 have hlen : (BA e (AO e)).log.length = e.log.length + 1:=IA _ _
 have hLl : (BA e (AO e)).log = e.log ++ [CX e (AO e)]:=rfl
 refine ⟨h.Ga ht hlast,?_,by rw [hlen,hLl];exact hd⟩
 rw [hr3 (BA e (AO e)).log (fun t hne => by rw [hlen,hLl];exact (hn.2.1 t hne).1)]
 rw [show U (BA e (AO e)).log (AO e) (BA e (AO e)).log.length = (U e.log (AO e) e.log.length).tail by rw [hlen,hLl];exact hn.1]
 refine h.step ht hlast fun m hm => ?_
 obtain ⟨t,hmt⟩:=hr2 m hm
 have h2:=NA hmt
 have h3:=Ia h.log h2.1 h2.2 (Qp h.log (Nat.le_refl _) hmt)
 exact ⟨h2.1,h2.2,h3.2.1,h3.2.2.1⟩
structure OkF (e : Eng) : Prop where
 disk : I8 e.disk = true
 mem : I8 e.mem = true
 log : AQ e.log = true
 s0 : 0 ≤ e.safe
 s1 : e.safe ≤ e.log.length
 fits : IY e.log = true
 pref : ∀ n : Nat,e.safe ≤ n → n ≤ e.log.length → KM e n = true
 page : ∀ p,p < 5 → JW e p = true
theorem ED {e : Eng} : eOk e = true ↔ OkF e:=by
 simp only [eOk,Bool.and_eq_true,Dh,Lc,List.all_eq_true,List.mem_range]
 constructor
 ·rintro ⟨h1,h2,h3,⟨h4,h5⟩,h6,h7,h8⟩
  exact ⟨h1,h2,h3,h4,h5,h6,fun n ha hb => h7 n (by omega) (by omega),h8⟩
 ·rintro ⟨h1,h2,h3,h4,h5,h6,h7,h8⟩
  exact ⟨h1,h2,h3,⟨h4,h5⟩,h6,fun n ha hb => h7 n (by omega) (by omega),h8⟩
theorem OkF.Mc {e : Eng} (h : OkF e) {p : Nat} (hp : p < 5) : (pg e.disk p).lsn ≤ e.safe:=by
 have:=h.page p hp
 simp only [JW,Bool.and_eq_true,decide_eq_true_eq] at this
 exact this.1.2
theorem OkF.rise {e : Eng} (h : OkF e) : Fw { e with mem:=Cs e.disk e.log e.log.length }:=by
 have hp:=h.pref e.log.length h.s1 (Nat.le_refl _)
 have hd:=Cz.1 h.disk
 rw [KM,List.take_length,Bool.and_eq_true,J6,JO] at hp
 have hf:=h.fits
 rw [IY,LV,decide_eq_true_eq] at hf
 refine ⟨h.log,hp.1,fun p hp5 => ?_,hp.2,hf⟩
 show (pg (Cs e.disk e.log e.log.length) p).lsn ≤ (e.log.length : Int)
 rw [LP hd.1 (fun k hk => (AJ h.log hk).ok) p _ (Nat.le_refl _)]
 have h1:=MF (P:=pg e.disk p) (l:=e.log) (p:=p) e.log.length
 have h2:=h.Mc hp5
 have h3:=h.s1
 omega
def Nz (tx : Int) : Nat → Eng → Prop
 | 0,e => lastT e tx = 0 ∧ AQ e.log = true
 | k + 1,e => lastT e tx ≠ 0 ∧ Jt e tx ∧ Nz tx k (BA e tx)
theorem EA.Ga {e : Eng} {C : Nat → Page} {B : Nat} {tx : Int} (h : EA e C B tx) (ht : tx = 1 ∨ tx = 2 ∨ tx = 3) (hlast : lastT e tx ≠ 0) : Jt e tx:=by
 have h1:=h.core.one ht hlast
 have hk:=EQ (e:=e) h.core.log tx
 have hl':=hk.log h.core.log (by omega) h1
 have hn:=hk.need h.core.log ht h1 hlast
 have hr:=h.core.room e.log.length (Nat.le_refl _)
 have hb:=h.core.b150
 have hs:=fun p hp => (h.step ht hlast).upm p hp
 have hps : I8 e.mem = true:=Cz.2 ⟨h.mlen,fun p hp => (h.upm p hp).ok⟩
 refine ⟨h.core.log,Ay hps,by omega,by omega,h1,fun hc => ?_,hl',by omega⟩
 have hok:=hk.ok h.core.log (by omega)
 have hpg:=Iz h.core.log tx hc
 have hpn : (DN e tx).page.toNat < 5:=by omega
 have hmem:=KC h.mlen (Iz h.core.log tx) (DN e tx).page.toNat
 rw [if_pos ⟨hc,by omega⟩] at hmem
 have hs1:=(hs _ hpn).ok
 rw [show pg (BA e tx).mem (DN e tx).page.toNat = _ from hmem] at hs1
 have hl:=(h.upm _ hpn).lsn
 simp only [FL,Bool.and_eq_true,decide_eq_true_eq]
 refine ⟨(h.upm _ hpn).ok,hok,hc,?_,by omega,hs1⟩
 show (pg e.mem (DN e tx).page.toNat).lsn < ((e.log.length + 1 : Nat) : Int)
 omega
theorem EA.V4 {C : Nat → Page} {B : Nat} {tx : Int} (ht : tx = 1 ∨ tx = 2 ∨ tx = 3) : ∀ (k : Nat) (e : Eng),EA e C B tx → lastT e tx ≠ 0 → (U e.log tx e.log.length).length = k → Nz tx (k + 1) e
 | 0,e,h,hlast,hk => by
  have hs:=h.core.QG ht hlast
  have h0:=List.eq_nil_of_length_eq_zero hk
  refine ⟨hlast,h.Ga ht hlast,?_,(h.step ht hlast).core.log⟩
  show lastT (BA e tx) tx = 0
  rw [hs.2.2.1,if_pos h0]
 | k + 1,e,h,hlast,hk => by
  have hs:=h.core.QG ht hlast
  have hne : U e.log tx e.log.length ≠ []:=fun h0 => by rw [h0] at hk;cases hk
  exact ⟨hlast,h.Ga ht hlast,EA.V4 ht k (BA e tx) (h.step ht hlast) (by rw [hs.2.2.1,if_neg hne];omega) (by rw [hs.1,List.length_tail,hk];omega)⟩
theorem U0 (e : Eng) (r : Rec) : (e.app r).log = e.log ++ [{ r with prev:=Ap e.log r.tx e.log.length }]:=rfl
theorem Js (e : Eng) (r : Rec) : (e.app r).log.length = e.log.length + 1:=by rw [U0];simp
theorem Inv.WN {e : Eng} {C C' : Nat → Page} {B B' : Nat} {r : Rec} (h : Inv e C B) (hup : e.down = false) (hx : Inv (e.app r) C' B') (hc : CP r.kind = true) (hp : 0 ≤ r.page ∧ r.page < 5) : FL (pg e.mem r.page.toNat) { r with prev:=Ap e.log r.tx e.log.length } (e.log.length + 1 : Nat) = true:=by
 have hlen:=Js e r
 have hr:=hx.core.room (e.log.length + 1) (by omega)
 have hb:=hx.core.b150
 have hF:=(AJ hx.core.log (k:=e.log.length) (by omega)).ok
 rw [U0,BR] at hF
 have hpn : r.page.toNat < 5:=by omega
 have hM:=h.upm hup _ hpn
 have hm:=KC (r:=r) h.mlen (fun _ => by omega) r.page.toNat
 rw [if_pos ⟨hc,by omega⟩] at hm
 have hok:=(Cz.1 hx.Gp).2 _ hpn
 rw [hm] at hok
 have hl:=hM.lsn
 simp only [FL,Bool.and_eq_true,decide_eq_true_eq]
 refine ⟨hM.ok,hF,hc,?_,by omega,hok⟩
 show (pg e.mem r.page.toNat).lsn < ((e.log.length + 1 : Nat) : Int)
 omega
theorem Inv.NF {x : Eng} {C : Nat → Page} {B n : Nat} (hx : Inv x C B) (hl : x.log.length = n + 1) : n + 1 ≤ 150:=by
 have hr:=hx.core.room (n + 1) (by omega)
 have hb:=hx.core.b150
 omega
theorem Inv.TA {x : Eng} {C : Nat → Page} {B n : Nat} {l : List Rec} (hx : Inv x C B) (hl : x.log = l) (hn : l.length = n + 1) : n + 1 + Bu l (n + 1) ≤ 150:=by
 subst hl
 have hr:=hx.core.room (n + 1) (by omega)
 have hb:=hx.core.b150
 omega
theorem Inv.Qm {e x : Eng} {C : Nat → Page} {B : Nat} {ok : Bool} (hx : ok = true → Inv x C B) : Bq e ok x = if ok = true then (x,true) else (e,false):=by
 unfold Bq
 cases ok
 ·rw [if_neg (by simp),if_neg (by simp)]
 ·rw [if_pos ⟨rfl,Ww (hx rfl).core⟩,if_pos rfl]
theorem QO {e : Eng} {tx page slot val : Int} : OL e tx page slot val = (Dv e tx page && ((pg e.mem page.toNat).owner != 0 && (inB slot 0 2 && inB val 0 9))):=rfl
def CQ (e : Eng) : List Int → Eng
 | [] => e
 | p :: ps => CQ (CF e p.toNat) ps
theorem F4 : ∀ (ps : List Int) (e : Eng),(CQ e ps).mem = e.mem ∧ (CQ e ps).log = e.log ∧ (CQ e ps).down = e.down ∧ (CQ e ps).disk.length = e.disk.length
 | [],e => ⟨rfl,rfl,rfl,rfl⟩
 | p :: ps,e => by
  obtain ⟨h1,h2,h3,h4⟩:=F4 ps (CF e p.toNat)
  exact ⟨h1,h2,h3,h4.trans (by simp [CF])⟩
theorem Lx : ∀ (ps : List Int) (e : Eng) (q : Nat),e.disk.length = 5 → q < 5 → (∀ p ∈ ps,0 ≤ p ∧ p < 5) → pg (CQ e ps).disk q = if (q : Int) ∈ ps then pg e.mem q else pg e.disk q
 | [],e,q,_,_,_ => by rw [if_neg (by simp)];rfl
 | p :: ps,e,q,h5,hq,hp => by
  have h1:=hp p (List.mem_cons_self ..)
  have ih:=Lx ps (CF e p.toNat) q (by simp [CF,h5]) hq (fun x hx => hp x (List.mem_cons_of_mem _ hx))
  show pg (CQ (CF e p.toNat) ps).disk q = _
  rw [ih]
  by_cases h : (q : Int) ∈ ps
  ·rw [if_pos h,if_pos (List.mem_cons_of_mem _ h)];rfl
  ·rw [if_neg h]
   show pg (e.disk.set p.toNat (pg e.mem p.toNat)) q = _
   rw [FM (by omega)]
   by_cases e1 : p.toNat = q
   ·rw [if_pos e1,if_pos (by rw [show (q : Int) = p by omega];exact List.mem_cons_self ..),e1]
   ·rw [if_neg e1,if_neg (fun hx => by
     rcases List.mem_cons.1 hx with hx | hx
     ·omega
     ·exact h hx)]
theorem Nv {e : Eng} {tx : Int} {ps : List Int} (h5 : e.disk.length = 5) (hm : ∀ p : Nat,p < 5 → ((p : Int) ∈ ps ↔ ld e.log tx e.log.length p = true)) (hp : ∀ p ∈ ps,0 ≤ p ∧ p < 5) : { (CQ e ps).app ⟨4,tx,0,0,0,0,0,0⟩ with safe:=(e.log.length + 1 : Nat) } = DY e tx:=by
 obtain ⟨h1,h2,h3,h4⟩:=F4 ps e
 have hd : (CQ e ps).disk = G5 e tx:=by
  refine List.ext_getElem (by rw [h4,h5];simp [G5]) (fun i h1' h2' => ?_)
  have hi : i < 5:=by rw [h4,h5] at h1';exact h1'
  have hx:=Lx ps e i h5 hi hp
  have hy:=JV e tx hi
  simp only [pg,List.getD_eq_getElem?_getD,List.getElem?_eq_getElem h1',Option.getD_some] at hx
  simp only [pg,List.getD_eq_getElem?_getD,List.getElem?_eq_getElem h2',Option.getD_some] at hy
  rw [hx,hy]
  by_cases hl : ld e.log tx e.log.length i = true
  ·rw [if_pos ((hm i hi).2 hl),if_pos hl]
  ·rw [if_neg (fun h => hl ((hm i hi).1 h)),if_neg hl]
 unfold Eng.app DY
 rw [if_neg (by simp [CP])]
 rw [hd,h1,h2,h3]
theorem Lv : ∀ (ps : List Int) (e : Eng) (p : Int),CQ e (ps ++ [p]) = CF (CQ e ps) p.toNat
 | [],_,_ => rfl
 | q :: ps,e,p => Lv ps (CF e q.toNat) p
theorem N7 : ∀ (ps : List Int) (e : Eng),geo e.disk → geo e.mem → (∀ p ∈ ps,0 ≤ p ∧ p < 5) → geo (CQ e ps).disk
 | [],_,hd,_,_ => hd
 | q :: ps,e,hd,hm,hp => by
  have h1:=hp q (List.mem_cons_self ..)
  exact N7 ps (CF e q.toNat) (M7 hd (Gv hm (by omega))) hm (fun x hx => hp x (List.mem_cons_of_mem _ hx))
theorem FE {l : List Rec} (hl : AQ l = true) {tx : Int} (h : Ap l tx l.length ≠ 0) : tx = 1 ∨ tx = 2 ∨ tx = 3:=by
 have hle:=Bf l tx l.length
 have hF:=AJ hl (k:=Ap l tx l.length - 1) (by omega)
 rcases Ht l tx l.length with h1 | h1
 ·exact absurd h1 h
 ·have h2:=hF.tx1
  have h3:=hF.tx3
  rw [h1] at h2 h3
  omega
def CR (e : Eng) (tx : Int) (X : Eng) : Eng × Bool:=if e.down = false ∧ Ap e.log tx e.log.length ≠ 0 then (X,true) else (e,false)
theorem NP {e : Eng} (h : e.down = true) (tx page : Int) : Dv e tx page = false:=by simp [Dv,h]
theorem Sn {e : Eng} {v : Evt} (h : e.down = true) (h8 : v.kind ≠ 8) (h9 : v.kind ≠ 9) : AP e v = e:=by
 have hf : ¬ e.down = false:=by simp [h]
 unfold AP
 split
 ·simp [Lb,Bq,OL,NP h]
 split
 ·simp [Ld,Bq,ownB,NP h]
 split
 ·simp [Gx,Bq,K6,NP h]
 split
 ·rw [if_neg (by rw [FC];simp [h])]
 split
 ·rw [if_neg (by rw [FC];simp [h])]
 split
 ·rw [if_neg (fun x => hf x.1)]
 all_goals first
  | rfl
  | (split <;> first | rfl | exact absurd (by assumption) h8 | exact absurd (by assumption) h9 | (split <;> first | rfl | exact absurd (by assumption) h9 | (simp_all)))
theorem Sm (e : Eng) : (AP e ⟨8,0,0,0,99, []⟩).down = true:=by
 simp [AP,Ij]
theorem QX (e : Eng) (page : Int) : (AP e ⟨6,0,page,0,0, []⟩).mem = e.mem ∧ (AP e ⟨6,0,page,0,0, []⟩).log = e.log ∧ (AP e ⟨6,0,page,0,0, []⟩).down = e.down:=by
 have h : AP e ⟨6,0,page,0,0, []⟩ = if e.down = false ∧ inB page 0 4 = true then CF e page.toNat else e:=by simp [AP]
 rw [h]
 split <;> simp [CF]
theorem QY (e : Eng) : (AP e ⟨7,0,0,0,0, []⟩).mem = e.mem ∧ (AP e ⟨7,0,0,0,0, []⟩).log = e.log ∧ (e.down = false → (AP e ⟨7,0,0,0,0, []⟩).safe = e.log.length):=by
 have h : AP e ⟨7,0,0,0,0, []⟩ = if e.down = false then Fu e else e:=by simp [AP]
 rw [h]
 split
 ·simp [Fu]
 ·rename_i hd
  exact ⟨rfl,rfl,fun h => absurd h hd⟩
theorem Nk {p : Page} (h : Bt p = true) (ho : p.owner = 0) : EU p.vals = true:=by
 simp [Bt,ho] at h
 exact h.2
theorem Inv.PI {e : Eng} {C : Nat → Page} {B : Nat} (h : Inv e C B) (n : Int) : Inv (AP e ⟨8,0,0,0,n, []⟩) C B ∧ (0 ≤ n → (AP e ⟨8,0,0,0,n, []⟩).down = true):=by
 have hp : AP e ⟨8,0,0,0,n, []⟩ = if 0 ≤ n then Ij e n else e:=by simp [AP]
 rw [hp]
 split
 ·exact ⟨h.fall n,fun _ => rfl⟩
 ·rename_i hn
  exact ⟨h,fun hx => absurd hx hn⟩
theorem Inv.TB {e : Eng} {C : Nat → Page} {B : Nat} (h : Inv e C B) (n : Int) : Inv (AP e ⟨9,0,0,0,n, []⟩) C B:=by
 have hp : AP e ⟨9,0,0,0,n, []⟩ = if e.down = true ∧ 0 ≤ n then LH e n.toNat else e:=by simp [AP]
 rw [hp]
 split
 ·rename_i hx
  exact h.rise hx.1 _
 ·exact h
theorem Inv.V8 {e : Eng} {C : Nat → Page} {B : Nat} (h : Inv e C B) (hd : e.down = true) : (AP e ⟨9,0,0,0,150, []⟩).down = false ∧ AO (AP e ⟨9,0,0,0,150, []⟩) = 0:=by
 have hp : AP e ⟨9,0,0,0,150, []⟩ = LH e 150:=by simp [AP,hd]
 rw [hp]
 exact h.rises h.Ko
theorem Inv.WY {e : Eng} {C : Nat → Page} {B : Nat} (h : Inv e C B) (page : Int) : Inv (AP e ⟨6,0,page,0,0, []⟩) C B:=by
 have hp : AP e ⟨6,0,page,0,0, []⟩ = if e.down = false ∧ inB page 0 4 = true then CF e page.toNat else e:=by simp [AP]
 rw [hp]
 split
 ·rename_i hw
  have:=Dh.1 hw.2
  exact h.write hw.1 (by omega)
 ·exact h
theorem Inv.Xh {e : Eng} {C : Nat → Page} {B : Nat} (h : Inv e C B) : Inv (AP e ⟨7,0,0,0,0, []⟩) C B:=by
 have hp : AP e ⟨7,0,0,0,0, []⟩ = if e.down = false then Fu e else e:=by simp [AP]
 rw [hp]
 split
 ·rename_i hd
  exact h.force hd
 ·exact h
def KO (e : Eng) (n : Int) : Eng:=AP (AP e ⟨8,0,0,0,n, []⟩) ⟨9,0,0,0,150, []⟩
def Pg (ps : List Page) (C : Nat → Page) : Prop:=ps.length = 5 ∧ ∀ p,p < 5 → (pg ps p).owner = (C p).owner ∧ (pg ps p).vals = (C p).vals
theorem Inv.has {e : Eng} {C : Nat → Page} {B : Nat} (h : Inv e C B) (hup : e.down = false) (h0 : AO e = 0) : Pg e.mem C:=⟨h.mlen,fun _ hp => h.truth hup h0 hp⟩
theorem Inv.Vl {e : Eng} {C : Nat → Page} {B : Nat} (h : Inv e C B) {n : Int} (hn : 0 ≤ n) : Inv (KO e n) C B ∧ (KO e n).down = false ∧ AO (KO e n) = 0:=by
 obtain ⟨h1,h2⟩:=h.PI n
 exact ⟨h1.TB 150,h1.V8 (h2 hn)⟩
theorem Inv.NQ {e : Eng} {C : Nat → Page} {B : Nat} (h : Inv e C B) {n : Int} (hn : 0 ≤ n) : Pg (KO e n).mem C:=(h.Vl hn).1.has (h.Vl hn).2.1 (h.Vl hn).2.2
theorem Pg.same {a b : List Page} {C : Nat → Page} (h : Pg a C) (g : Pg b C) : a.length = b.length ∧ ∀ k,k < a.length → (pg a k).owner = (pg b k).owner ∧ (pg a k).vals = (pg b k).vals:=
 ⟨h.1.trans g.1.symm,fun k hk => by rw [h.1] at hk;exact ⟨(h.2 k hk).1.trans (g.2 k hk).1.symm,(h.2 k hk).2.trans (g.2 k hk).2.symm⟩⟩
def Kg (C : Nat → Page) (B : Nat) (e : Eng) : Prop:=Inv e C B ∧ (e.down = true ∨ e.log = [])
theorem Kg.start {e : Eng} {C : Nat → Page} {B : Nat} (h : Inv e C B) {n : Int} (hn : 0 ≤ n) : Kg C B (AP e ⟨8,0,0,0,n, []⟩):=⟨(h.PI n).1, .inl ((h.PI n).2 hn)⟩
theorem Kg.round {e : Eng} {C : Nat → Page} {B : Nat} (h : Kg C B e) (n : Int) {m : Int} (hm : m ≤ 1) : Kg C B (AP (AP e ⟨9,0,0,0,n, []⟩) ⟨8,0,0,0,(AP e ⟨9,0,0,0,n, []⟩).log.length - m, []⟩):=by
 have h1:=h.1.TB n
 obtain ⟨X,hX⟩ : ∃ X,AP e ⟨9,0,0,0,n, []⟩ = X:=⟨_,rfl⟩
 rw [hX] at h1 ⊢
 refine ⟨(h1.PI _).1,?_⟩
 by_cases h0 : 0 ≤ (X.log.length : Int) - m
 ·exact .inl ((h1.PI _).2 h0)
 ·have hl : X.log = []:=List.eq_nil_of_length_eq_zero (by omega)
  have hp : AP X ⟨8,0,0,0,(X.log.length : Int) - m, []⟩ = X:=by
   have : AP X ⟨8,0,0,0,(X.log.length : Int) - m, []⟩ = if 0 ≤ (X.log.length : Int) - m then Ij X ((X.log.length : Int) - m) else X:=by simp [AP]
   rw [this,if_neg h0]
  rw [hp]
  exact .inr hl
theorem Kg.last {e : Eng} {C : Nat → Page} {B : Nat} (h : Kg C B e) : Inv (AP e ⟨9,0,0,0,150, []⟩) C B ∧ (AP e ⟨9,0,0,0,150, []⟩).down = false ∧ Pg (AP e ⟨9,0,0,0,150, []⟩).mem C:=by
 have h1:=h.1.TB 150
 have h2 : (AP e ⟨9,0,0,0,150, []⟩).down = false ∧ AO (AP e ⟨9,0,0,0,150, []⟩) = 0:=by
  cases hd : e.down
  ·have hl : e.log = []:=h.2.resolve_left (by simp [hd])
   have hp : AP e ⟨9,0,0,0,150, []⟩ = e:=by simp [AP,hd]
   rw [hp]
   have hz : ∀ t,lastT e t = 0:=fun t=>by show Ap e.log t e.log.length = 0;rw [hl];rfl
   exact ⟨hd,by simp [AO,hz]⟩
  ·exact h.1.V8 hd
 exact ⟨h1,h2.1,h1.has h2.1 h2.2⟩
theorem Inv.XH {e : Eng} {C : Nat → Page} {B : Nat} (h : Inv e C B) : e.log.length + need e.log ≤ 150:=by
 have h1:=h.core.room e.log.length (Nat.le_refl _)
 have h2:=h.core.b150
 rw [LV]
 omega
theorem Sz (l : List Rec) : (Cg l 3).length ≤ need l:=by
 have h : ∀ txs : List Int,txs.length ≤ JF l txs:=by
  intro txs
  induction txs with
  | nil => exact Nat.zero_le _
  | cons x xs ih =>
   have e : JF l (x :: xs) = (D5 l (Ap l x l.length)).length + 1 + JF l xs:=by simp [JF]
   rw [e,List.length_cons]
   omega
 have h2:=Kz l 3
 have h3:=h (Cg l 3)
 rw [h2] at h3
 exact h3
theorem Wp {e : Eng} (hd : e.down = false) {tx page : Int} (h1 : 1 ≤ tx) (h3 : tx ≤ 3) (h0 : 0 ≤ page) (h4 : page ≤ 4) : Dv e tx page = (lk e.log page == 0 || lk e.log page == tx):=by
 rw [Dv,hd,Dh.2 ⟨h1,h3⟩,Dh.2 ⟨h0,h4⟩]
 rfl
end Go.Proofs.YtklmhkglcfjclaaGreat
