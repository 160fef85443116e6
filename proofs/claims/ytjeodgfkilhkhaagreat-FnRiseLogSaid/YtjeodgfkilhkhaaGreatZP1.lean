/- A part of the proof: what the last text of the claim says leans on this one. -/
import Derived.Test.YtjeodgfkilhkhaaGreatZA2
set_option linter.unusedVariables false
set_option linter.unusedSimpArgs false
namespace Go.Proofs.YtjeodgfkilhkhaaGreat
def Agree (l l' : List Rec) (n : Nat) : Prop := ∀ k,k < n → rc l k = rc l' k
theorem Agree.le {l l' : List Rec} {n m : Nat} (h : Agree l l' n) (hm : m ≤ n) : Agree l l' m:=fun k hk => h k (by omega)
theorem Agree.symm {l l' : List Rec} {n : Nat} (h : Agree l l' n) : Agree l' l n:=fun k hk => (h k hk).symm
theorem FB (l : List Rec) (n : Nat) : Agree (l.take n) l n:=fun k hk => by
 simp [rc,List.getD_eq_getElem?_getD,List.getElem?_take,hk]
theorem Cq (l m : List Rec) : Agree (l ++ m) l l.length:=fun k hk => by
 simp [rc,List.getD_eq_getElem?_getD,List.getElem?_append_left hk]
theorem LW {l m : List Rec} {k : Nat} (h : k < l.length) : rc (l ++ m) k = rc l k:=Cq l m k h
theorem BK (l : List Rec) (r : Rec) : rc (l ++ [r]) l.length = r:=by
 simp [rc,List.getD_eq_getElem?_getD]
theorem CF {l l' : List Rec} (tx : Int) : ∀ {n : Nat},Agree l l' n → Ae l tx n = Ae l' tx n
 | 0,_ => rfl
 | n + 1,h => by
  unfold Ae
  rw [h n (by omega),CF tx (h.le (Nat.le_succ n))]
theorem Ml {l l' : List Rec} {n k : Nat} (h : Agree l l' n) (hk : k < n) : Bu l (k + 1) = Bu l' (k + 1):=by
 simp only [Bu,Nat.add_sub_cancel]
 rw [h k hk]
theorem Qo {l l' : List Rec} {n k : Nat} (h : Agree l l' n) (hk : k < n) : EY l (k + 1) = EY l' (k + 1):=by
 simp only [EY,Nat.add_sub_cancel]
 rw [h k hk]
theorem Ju {l l' : List Rec} {n : Nat} (h : Agree l l' n) (m : Nat) : m ≤ n → BO l m = BO l' m:=by
 induction m using Nat.strongRecOn with
 | _ m ih =>
  intro hm
  match m with
  | 0 => rw [C9,C9]
  | m + 1 =>
   rw [BO,BO,Ml h (by omega)]
   split
   ·rw [ih _ (by omega) (by omega)]
   ·rfl
theorem N8 {l l' : List Rec} {n : Nat} (h : Agree l l' n) (m : Nat) : m ≤ n → CW l m = CW l' m:=by
 induction m using Nat.strongRecOn with
 | _ m ih =>
  intro hm
  match m with
  | 0 => rw [Cn,Cn]
  | m + 1 =>
   rw [CW,CW,Ml h (by omega),Qo h (by omega),h m (by omega)]
   split
   ·split
    ·rw [ih _ (by omega) (by omega)]
    ·rfl
   ·split
    ·split
     ·rw [ih _ (by omega) (by omega)]
     ·rfl
    ·split
     ·rw [ih _ (by omega) (by omega)]
     ·rfl
theorem Es {l : List Rec} (n : Nat) : ∀ m ∈ BO l n,0 < m ∧ m ≤ n:=by
 induction n using Nat.strongRecOn with
 | _ n ih =>
  intro m hm
  match n with
  | 0 => rw [C9] at hm;cases hm
  | n + 1 =>
   rw [BO] at hm
   rcases List.mem_cons.1 hm with rfl | hm
   ·omega
   ·split at hm
    ·have:=ih _ (by omega) m hm
     omega
    ·cases hm
theorem PZ {l : List Rec} (n : Nat) : ∀ m ∈ CW l n,0 < m ∧ m ≤ n:=by
 induction n using Nat.strongRecOn with
 | _ n ih =>
  intro m hm
  match n with
  | 0 => rw [Cn] at hm;cases hm
  | n + 1 =>
   rw [CW] at hm
   split at hm
   ·rcases List.mem_cons.1 hm with rfl | hm
    ·omega
    ·split at hm
     ·have:=ih _ (by omega) m hm
      omega
     ·cases hm
   ·split at hm
    ·split at hm
     ·have:=ih _ (by omega) m hm
      omega
     ·cases hm
    ·split at hm
     ·have:=ih _ (by omega) m hm
      omega
     ·cases hm
theorem Ky {α : Type} {l : List α} {p q : α → Bool} (h : ∀ x ∈ l,p x = q x) : l.any p = l.any q:=by
 induction l with
 | nil => rfl
 | cons a t ih => rw [List.any_cons,List.any_cons,h a (by simp),ih fun x hx => h x (by simp [hx])]
theorem RZ {l l' : List Rec} {n : Nat} (h : Agree l l' n) (p : Int) {m : Nat} (hm : m ≤ n) : Fy l m p = Fy l' m p:=by
 rw [Fy,Fy,Ju h m hm]
 exact Ky fun x hx => by
  have:=Es m x hx
  rw [h (x - 1) (by omega)]
theorem Qx {l l' : List Rec} {n : Nat} (h : Agree l l' n) (p : Int) {m : Nat} (hm : m ≤ n) : EZ l m p = EZ l' m p:=by
 rw [EZ,EZ,Ju h m hm]
 exact Ky fun x hx => by
  have:=Es m x hx
  rw [h (x - 1) (by omega)]
theorem Si {l l' : List Rec} {n k : Nat} (h : Agree l l' n) (hk : k < n) : atOk l k = atOk l' k:=by
 have hl:=CF (rc l' k).tx (h.le (show k ≤ n by omega))
 unfold atOk
 rw [h k hk,hl]
 by_cases hn : (rc l' k).next ≤ k
 ·by_cases h0 : (rc l' k).next ≤ 0
  ·simp [h0]
  ·rw [h ((rc l' k).next.toNat - 1) (by omega)]
 ·simp [hn]
theorem Jo {l l' : List Rec} : ∀ {n : Nat},Agree l l' n → DK l n = DK l' n
 | 0,_ => rfl
 | n + 1,h => by
  unfold DK
  rw [Jo (h.le (Nat.le_succ n)),Si h (by omega)]
theorem Eo {l l' : List Rec} (p : Int) : ∀ {n : Nat},Agree l l' n → AO l p n = AO l' p n
 | 0,_ => rfl
 | n + 1,h => by
  unfold AO
  rw [Eo p (h.le (Nat.le_succ n)),h n (by omega)]
theorem RO (l : List Rec) (p : Int) (n : Nat) : AO l p n ≤ n:=by
 induction n with
 | zero => simp [AO]
 | succ n ih =>
  unfold AO
  split <;> omega
theorem Fv {l : List Rec} (h : Au l = true) (n : Nat) : Au (l.take n) = true:=by
  simp only [Au,Bool.and_eq_true,decide_eq_true_eq] at h ⊢
  rw [List.length_take]
  refine ⟨?_,by omega⟩
  rcases Nat.lt_or_ge n l.length with hn | hn
  · rw [Nat.min_eq_left (by omega),Jo (FB l n)]
    have hp : ∀ {m k},DK l m = true → k ≤ m → DK l k = true:=by
      intro m
      induction m with
      | zero => intro k hm hk; obtain rfl : k = 0 := by omega
                exact hm
      | succ m ih =>
        intro k hm hk
        rcases Nat.eq_or_lt_of_le hk with rfl | hk
        · exact hm
        · simp only [DK,Bool.and_eq_true] at hm
          exact ih hm.1 (by omega)
    exact hp h.1 (by omega)
  · rw [List.take_of_length_le hn,Nat.min_eq_right hn]
    exact h.1
theorem Jl {l : List Rec} {r : Rec} (h : Au l = true) (hr : Cv r = true) (hp : r.prev = Ae l r.tx l.length) (hn : r.next ≤ l.length) (hn2 : r.next ≤ 0 ∨ (rc l (r.next.toNat - 1)).tx = r.tx) (hl : l.length + 1 ≤ 150) : Au (l ++ [r]) = true:=by
 simp only [Au,Bool.and_eq_true,decide_eq_true_eq] at h ⊢
 rw [List.length_append,List.length_singleton]
 refine ⟨?_,hl⟩
 rw [DK,Jo (Cq l [r]),h.1,Bool.true_and,atOk,BK,CF r.tx (Cq l [r])]
 simp only [Bool.and_eq_true,beq_iff_eq,decide_eq_true_eq,Bool.or_eq_true]
 refine ⟨⟨⟨hr,hp⟩,hn⟩,?_⟩
 rcases hn2 with hn2 | hn2
 ·exact .inl hn2
 ·by_cases h0 : r.next ≤ 0
  ·exact .inl h0
  ·refine .inr ?_
   rw [LW (by omega)]
   exact hn2
def U (l : List Rec) (tx : Int) (n : Nat) : List Nat:=CW l (Ae l tx n)
def Ch (l : List Rec) (tx : Int) (n : Nat) : List Nat:=BO l (Ae l tx n)
def has (l : List Rec) (tx : Int) (n : Nat) (p : Int) : Bool:=Fy l (Ae l tx n) p
theorem MO {l : List Rec} {tx p : Int} {n : Nat} : has l tx n p = true ↔ ∃ m ∈ Ch l tx n,(rc l (m - 1)).page = p:=by
 simp [has,Fy,Ch]
theorem Fw {l : List Rec} {tx : Int} {k : Nat} (h : (rc l k).tx ≠ tx) : Ae l tx (k + 1) = Ae l tx k:=by
 rw [Ae,if_neg h]
theorem Ja {l : List Rec} {tx : Int} {k : Nat} (h : (rc l k).tx = tx) (he : EK (rc l k).kind = true) : Ae l tx (k + 1) = 0:=by
 rw [Ae,if_pos h,if_pos he]
theorem En {l : List Rec} {tx : Int} {k : Nat} (h : (rc l k).tx = tx) (he : EK (rc l k).kind = false) : Ae l tx (k + 1) = k + 1:=by
 rw [Ae,if_pos h,if_neg (by simp [he])]
theorem IA {l : List Rec} {tx : Int} {k : Nat} (h : (rc l k).tx ≠ tx) : U l tx (k + 1) = U l tx k:=by rw [U,Fw h,U]
theorem OI {l : List Rec} {tx : Int} {k : Nat} (h : (rc l k).tx = tx) (he : EK (rc l k).kind = true) : U l tx (k + 1) = []:=by rw [U,Ja h he,Cn]
theorem Eh {k : Int} (h : k = 1 ∨ k = 2 ∨ k = 3 ∨ k = 6) : EK k = false:=by
 simp only [EK,Bool.or_eq_false_iff,beq_eq_false_iff_ne];omega
theorem Tj {l : List Rec} (hl : Au l = true) {k : Nat} (hk : k < l.length) (h : (rc l k).kind = 1 ∨ (rc l k).kind = 2) : U l (rc l k).tx (k + 1) = (k + 1) :: U l (rc l k).tx k:=by
 have F:=Ag hl hk
 rw [U,En rfl (Eh (by omega)),JF h F.prev_le,F.last,U]
theorem Sm {l : List Rec} (hl : Au l = true) {k : Nat} (hk : k < l.length) (h : (rc l k).kind = 3) : U l (rc l k).tx (k + 1) = U l (rc l k).tx k:=by
 have F:=Ag hl hk
 rw [U,En rfl (Eh (by omega)),K6 (by omega) (by omega) (by omega) F.prev_le,F.last,U]
theorem NS {l : List Rec} {tx : Int} {k : Nat} (h : (rc l k).tx ≠ tx) : Ch l tx (k + 1) = Ch l tx k:=by rw [Ch,Fw h,Ch]
theorem Yi {l : List Rec} {tx : Int} {k : Nat} (h : (rc l k).tx = tx) (he : EK (rc l k).kind = true) : Ch l tx (k + 1) = []:=by rw [Ch,Ja h he,C9]
theorem LG {l : List Rec} (hl : Au l = true) {k : Nat} (hk : k < l.length) (h : EK (rc l k).kind = false) : Ch l (rc l k).tx (k + 1) = (k + 1) :: Ch l (rc l k).tx k:=by
 have F:=Ag hl hk
 rw [Ch,En rfl h,Dk F.prev_le,F.last,Ch]
structure H7 (l : List Rec) (k : Nat) : Prop where
 own : (rc l k).kind = 2 → (rc l k).new ≠ 0 → (rc l k).old = 0
 JC : (rc l k).kind = 6 → ∃ m ms,U l (rc l k).tx k = m :: ms ∧ rc l k = Br (rc l (m - 1)) (rc l k).prev
 ended : (rc l k).kind = 5 → U l (rc l k).tx k = []
 fin : EK (rc l k).kind = true → 0 < Ae l (rc l k).tx k
 lock : (rc l k).kind = 1 ∨ (rc l k).kind = 2 ∨ (rc l k).kind = 3 → ∀ t,t ≠ (rc l k).tx → has l t k (rc l k).page = false
def EO (l : List Rec) : Prop := ∀ k,k < l.length → H7 l k
theorem H6 {l l' : List Rec} {n : Nat} (h : Agree l l' n) (tx : Int) {k : Nat} (hk : k ≤ n) : U l tx k = U l' tx k:=by
 rw [U,U,CF tx (h.le hk)]
 exact N8 h _ (by have:=Bc l' tx k;omega)
theorem Ri {l l' : List Rec} {n : Nat} (h : Agree l l' n) (tx : Int) {k : Nat} (hk : k ≤ n) : Ch l tx k = Ch l' tx k:=by
 rw [Ch,Ch,CF tx (h.le hk)]
 exact Ju h _ (by have:=Bc l' tx k;omega)
theorem FJ {l l' : List Rec} {n : Nat} (h : Agree l l' n) (tx p : Int) {k : Nat} (hk : k ≤ n) : has l tx k p = has l' tx k p:=by
 rw [has,has,CF tx (h.le hk)]
 exact RZ h p (by have:=Bc l' tx k;omega)
theorem MG {l : List Rec} {tx : Int} {n m : Nat} (h : m ∈ U l tx n) : 0 < m ∧ m ≤ n:=by
 have:=PZ _ m h
 have:=Bc l tx n
 omega
theorem Kq {l l' : List Rec} {n k : Nat} (h : Agree l l' n) (hk : k < n) (hp : H7 l k) : H7 l' k:=by
 have e:=h k hk
 obtain ⟨h1,h2,h3,h4,h5⟩:=hp
 rw [e] at h1 h2 h3 h4 h5
 refine ⟨h1,fun k6 => ?_,fun k5 => ?_,fun he => ?_,fun hk3 t ht => ?_⟩
 ·obtain ⟨m,ms,hm,hb⟩:=h2 k6
  have hm2 : m ∈ U l (rc l' k).tx k:=by rw [hm];simp
  have:=MG hm2
  refine ⟨m,ms,by rw [← H6 h _ (by omega)];exact hm,?_⟩
  rw [← h (m - 1) (by omega)]
  exact hb
 ·rw [← H6 h _ (by omega)];exact h3 k5
 ·rw [← CF _ (h.le (by omega))];exact h4 he
 ·rw [← FJ h _ _ (by omega)];exact h5 hk3 t ht
theorem Qc {l : List Rec} (h : EO l) (n : Nat) : EO (l.take n):=fun k hk => by
 rw [List.length_take] at hk
 exact Kq (FB l n).symm (by omega) (h k (by omega))
theorem FD {l : List Rec} {r : Rec} (h : EO l) (hr : H7 (l ++ [r]) l.length) : EO (l ++ [r]):=fun k hk => by
 rw [List.length_append,List.length_singleton] at hk
 rcases Nat.lt_or_ge k l.length with hlt | hge
 ·exact Kq (Cq l [r]).symm hlt (h k hlt)
 ·obtain rfl : k = l.length:=by omega
  exact hr
theorem Sk {l : List Rec} (hl : Au l = true) (hp : EO l) {k : Nat} (hk : k < l.length) (h : (rc l k).kind = 6) : ∃ m,U l (rc l k).tx k = m :: U l (rc l k).tx (k + 1) ∧ rc l k = Br (rc l (m - 1)) (rc l k).prev:=by
 have F:=Ag hl hk
 obtain ⟨m,ms,hm,hb⟩:=(hp k hk).JC h
 refine ⟨m,?_,hb⟩
 have hmk:=MG (show m ∈ U l (rc l k).tx k by rw [hm];simp)
 have hnx : EY l (k + 1) = Bu l m:=by
  simp only [EY,Bu,Nat.add_sub_cancel]
  rw [hb]
  rfl
 obtain ⟨h1,h2,h3,h4⟩:=Gb _ m ms hm
 have Fm:=Ag hl (k:=m - 1) (by omega)
 have hpm:=Fm.prev_le
 rw [show m - 1 + 1 = m by omega] at hpm
 rw [hm,(h4 (by omega)).1,U,En rfl (Eh (by omega)),LM h F.next_le,hnx]
theorem KQ {l : List Rec} (hl : Au l = true) {k : Nat} (hk : k < l.length) : (rc l k).kind = 1 ∨ (rc l k).kind = 2 ∨ (rc l k).kind = 3 ∨ (rc l k).kind = 4 ∨ (rc l k).kind = 5 ∨ (rc l k).kind = 6:=by
 have:=(Ag hl hk).ok
 rw [D7] at this
 omega
theorem WW {l : List Rec} (hl : Au l = true) (hp : EO l) (tx : Int) : ∀ n,n ≤ l.length → ∀ m ∈ U l tx n,m ∈ Ch l tx n
 | 0,_,m,h => by simp [U,Ae,Cn] at h
 | n + 1,hn,m,h => by
  have ih:=WW hl hp tx n (by omega)
  by_cases ht : (rc l n).tx = tx
  ·subst ht
   rcases KQ hl (k:=n) (by omega) with hk | hk | hk | hk | hk | hk
   ·rw [LG hl (by omega) (Eh (by omega))]
    rw [Tj hl (by omega) (.inl hk)] at h
    rcases List.mem_cons.1 h with rfl | h
    ·simp
    ·exact List.mem_cons_of_mem _ (ih m h)
   ·rw [LG hl (by omega) (Eh (by omega))]
    rw [Tj hl (by omega) (.inr hk)] at h
    rcases List.mem_cons.1 h with rfl | h
    ·simp
    ·exact List.mem_cons_of_mem _ (ih m h)
   ·rw [LG hl (by omega) (Eh (by omega))]
    rw [Sm hl (by omega) hk] at h
    exact List.mem_cons_of_mem _ (ih m h)
   ·rw [OI rfl (by rw [hk];rfl)] at h;cases h
   ·rw [OI rfl (by rw [hk];rfl)] at h;cases h
   ·rw [LG hl (by omega) (Eh (by omega))]
    obtain ⟨m',hm',_⟩:=Sk hl hp (k:=n) (by omega) hk
    exact List.mem_cons_of_mem _ (ih m (by rw [hm'];exact List.mem_cons_of_mem _ h))
  ·rw [IA ht] at h
   rw [NS ht]
   exact ih m h
theorem QN {l : List Rec} (hl : Au l = true) {k : Nat} (hk : k < l.length) (h : EK (rc l k).kind = false) (p : Int) : has l (rc l k).tx (k + 1) p = ((rc l k).page == p || has l (rc l k).tx k p):=by
 have F:=Ag hl hk
 rw [has,En rfl h,OD F.prev_le,F.last,has]
theorem FI {l : List Rec} {tx : Int} {k : Nat} (h : (rc l k).tx ≠ tx) (p : Int) : has l tx (k + 1) p = has l tx k p:=by rw [has,Fw h,has]
theorem SY {l : List Rec} {tx : Int} {k : Nat} (h : (rc l k).tx = tx) (he : EK (rc l k).kind = true) (p : Int) : has l tx (k + 1) p = false:=by rw [has,Ja h he,Gi]
theorem NC {l : List Rec} (hl : Au l = true) (hp : EO l) {tx : Int} {n m : Nat} (hn : n ≤ l.length) (h : m ∈ U l tx n) : has l tx n (rc l (m - 1)).page = true:=MO.2 ⟨m,WW hl hp tx n hn m h,rfl⟩
theorem FP {l : List Rec} (hl : Au l = true) (hp : EO l) : ∀ n,n ≤ l.length → ∀ t t' p,t ≠ t' → has l t n p = true → has l t' n p = false
 | 0,_,t,t',p,_,h => by simp [has,Ae,Gi] at h
 | n + 1,hn,t,t',p,hne,h => by
  have ih:=FP hl hp n (by omega)
  have hn' : n < l.length:=by omega
  cases he : EK (rc l n).kind
  ·have hnew : ∀ s,s ≠ (rc l n).tx → has l s n (rc l n).page = false:=by
    intro s hs
    rcases KQ hl hn' with hk | hk | hk | hk | hk | hk
    ·exact (hp n hn').lock (by omega) s hs
    ·exact (hp n hn').lock (by omega) s hs
    ·exact (hp n hn').lock (by omega) s hs
    ·rw [hk] at he;cases he
    ·rw [hk] at he;cases he
    ·obtain ⟨m,hm,hb⟩:=Sk hl hp hn' hk
     have h1:=NC hl hp (tx:=(rc l n).tx) (n:=n) (m:=m) (by omega) (by rw [hm];simp)
     have h2 : (rc l n).page = (rc l (m - 1)).page:=by rw [hb];rfl
     rw [h2]
     exact ih _ _ _ (Ne.symm hs) h1
   by_cases ht : (rc l n).tx = t
   ·subst ht
    rw [FI hne]
    rw [QN hl hn' he,Bool.or_eq_true,beq_iff_eq] at h
    rcases h with rfl | h
    ·exact hnew t' (Ne.symm hne)
    ·exact ih _ _ _ hne h
   ·rw [FI ht] at h
    by_cases ht' : (rc l n).tx = t'
    ·subst ht'
     rw [QN hl hn' he,ih _ _ _ hne h,Bool.or_false,beq_eq_false_iff_ne]
     rintro rfl
     rw [hnew t hne] at h
     cases h
    ·rw [FI ht']
     exact ih _ _ _ hne h
  ·by_cases ht : (rc l n).tx = t
   ·rw [SY ht he] at h;cases h
   ·rw [FI ht] at h
    by_cases ht' : (rc l n).tx = t'
    ·exact SY ht' he p
    ·rw [FI ht']
     exact ih _ _ _ hne h
def F (l : List Rec) (n : Nat) (p t : Int) : List Nat:=(U l t n).filter fun m => (rc l (m - 1)).page == p
def UA (l : List Rec) (n : Nat) (p : Int) : List Nat:=F l n p 1 ++ (F l n p 2 ++ F l n p 3)
theorem VD {l : List Rec} (hl : Au l = true) (hp : EO l) {n : Nat} (hn : n ≤ l.length) {p t : Int} (h : has l t n p = false) : F l n p t = []:=by
 rw [F,List.filter_eq_nil_iff]
 intro m hm
 have h1:=NC hl hp hn hm
 rw [beq_iff_eq]
 rintro rfl
 rw [h] at h1
 cases h1
theorem JG {l : List Rec} (hl : Au l = true) {k : Nat} (hk : k < l.length) : (rc l k).tx = 1 ∨ (rc l k).tx = 2 ∨ (rc l k).tx = 3:=by
 have F:=Ag hl hk
 have:=F.tx1
 have:=F.tx3
 omega
theorem KT {l : List Rec} (hl : Au l = true) (hp : EO l) {n : Nat} (hn : n ≤ l.length) {p t : Int} (ht : t = 1 ∨ t = 2 ∨ t = 3) (h : ∀ s,s ≠ t → has l s n p = false) : UA l n p = F l n p t:=by
 have hF : ∀ s,s ≠ t → F l n p s = []:=fun s hs => VD hl hp hn (h s hs)
 rw [UA]
 rcases ht with rfl | rfl | rfl
 ·rw [hF 2 (by decide),hF 3 (by decide)];simp
 ·rw [hF 1 (by decide),hF 3 (by decide)];simp
 ·rw [hF 1 (by decide),hF 2 (by decide)];simp
theorem Fb {l l' : List Rec} {n : Nat} (h : Agree l l' n) (p : Int) {k : Nat} (hk : k ≤ n) : UA l k p = UA l' k p:=by
 have hF : ∀ t,F l k p t = F l' k p t:=fun t => by
  rw [F,F,H6 h t hk]
  refine List.filter_congr fun m hm => ?_
  have:=MG hm
  rw [h (m - 1) (by omega)]
 rw [UA,UA,hF,hF,hF]
theorem LC {l : List Rec} {n : Nat} {p : Int} (h : ∀ t,F l (n + 1) p t = F l n p t) : UA l (n + 1) p = UA l n p:=by
 rw [UA,UA,h,h,h]
theorem Sn {l : List Rec} (hl : Au l = true) (hp : EO l) {n : Nat} (hn : n < l.length) (h : (rc l n).kind = 1 ∨ (rc l n).kind = 2) (p : Int) : UA l (n + 1) p = if (rc l n).page = p then (n + 1) :: UA l n p else UA l n p:=by
 have hU:=Tj hl hn h
 split
 ·rename_i e
  subst e
  have hlk:=(hp n hn).lock (by omega)
  rw [KT hl hp (by omega) (JG hl hn) hlk,KT hl hp (n:=n + 1) (by omega) (JG hl hn) (fun s hs => by rw [FI (Ne.symm hs)];exact hlk s hs),F,hU,List.filter_cons,F]
  simp
 ·rename_i e
  refine LC fun t => ?_
  by_cases ht : (rc l n).tx = t
  ·subst ht
   rw [F,hU,List.filter_cons,F]
   simp [e]
  ·rw [F,IA ht,F]
theorem Tm {l : List Rec} (hl : Au l = true) {n : Nat} (hn : n < l.length) (h : (rc l n).kind = 3) (p : Int) : UA l (n + 1) p = UA l n p:=by
 refine LC fun t => ?_
 by_cases ht : (rc l n).tx = t
 ·subst ht
  rw [F,Sm hl hn h,F]
 ·rw [F,IA ht,F]
theorem NM {l : List Rec} (hp : EO l) {n : Nat} (hn : n < l.length) (h : (rc l n).kind = 5) (p : Int) : UA l (n + 1) p = UA l n p:=by
 refine LC fun t => ?_
 by_cases ht : (rc l n).tx = t
 ·subst ht
  rw [F,OI rfl (by rw [h];rfl),F,(hp n hn).ended h]
 ·rw [F,IA ht,F]
theorem Wx {l : List Rec} (hl : Au l = true) (hp : EO l) {n : Nat} (hn : n < l.length) (h : (rc l n).kind = 4) (p : Int) : UA l (n + 1) p = if has l (rc l n).tx n p = true then [] else UA l n p:=by
 have hF : F l (n + 1) p (rc l n).tx = []:=by rw [F,OI rfl (by rw [h];rfl)];rfl
 split
 ·rename_i e
  rw [KT hl hp (n:=n + 1) (by omega) (JG hl hn) (fun s hs => by rw [FI (Ne.symm hs)];exact FP hl hp n (by omega) _ _ _ (Ne.symm hs) e),hF]
 ·rename_i e
  refine LC fun t => ?_
  by_cases ht : (rc l n).tx = t
  ·subst ht
   rw [hF,VD hl hp (by omega) (by simpa using e)]
  ·rw [F,IA ht,F]
theorem PD {l : List Rec} (hl : Au l = true) (hp : EO l) {n : Nat} (hn : n < l.length) (h : (rc l n).kind = 6) : ∃ m,rc l n = Br (rc l (m - 1)) (rc l n).prev ∧ ∀ p,UA l n p = if (rc l n).page = p then m :: UA l (n + 1) p else UA l (n + 1) p:=by
 obtain ⟨m,hm,hb⟩:=Sk hl hp hn h
 refine ⟨m,hb,fun p => ?_⟩
 have hpg : (rc l n).page = (rc l (m - 1)).page:=by rw [hb];rfl
 have hhas:=NC hl hp (tx:=(rc l n).tx) (n:=n) (m:=m) (by omega) (by rw [hm];simp)
 rw [← hpg] at hhas
 split
 ·rename_i e
  subst e
  have hlk : ∀ s,s ≠ (rc l n).tx → has l s n (rc l n).page = false:=fun s hs => FP hl hp n (by omega) _ _ _ (Ne.symm hs) hhas
  rw [KT hl hp (by omega) (JG hl hn) hlk,KT hl hp (n:=n + 1) (by omega) (JG hl hn) (fun s hs => by rw [FI (Ne.symm hs)];exact hlk s hs),F,hm,List.filter_cons,F]
  simp [hpg]
 ·rename_i e
  refine (LC fun t => ?_).symm
  by_cases ht : (rc l n).tx = t
  ·subst ht
   rw [F,F,hm,List.filter_cons]
   rw [hpg] at e
   simp [e]
  ·rw [F,IA ht,F]
theorem K4 (p : Page) (r : Rec) : (AV p r).lsn = p.lsn:=by
 unfold AV
 split
 ·rfl
 ·split <;> rfl
theorem TF (p : Page) (r : Rec) (k : Int) : AV ⟨k,p.owner,p.vals⟩ r = ⟨k,(AV p r).owner,(AV p r).vals⟩:=by
 unfold AV
 split
 ·rfl
 ·split <;> rfl
theorem Im {p q : Page} (r : Rec) (h : p.owner = q.owner) : (AV p r).owner = (AV q r).owner:=by
 unfold AV
 split
 ·exact h
 ·split <;> rfl
theorem Hy {p : Page} {k : Int} (h : AL p = true) (h0 : 0 ≤ k) (h1 : k ≤ 150) : AL ⟨k,p.owner,p.vals⟩ = true:=by
 rw [Be] at h ⊢
 exact ⟨h0,h1,h.2.2⟩
theorem Qg {p q : Page} (h1 : p.lsn = q.lsn) (h2 : p.owner = q.owner) (h3 : p.vals = q.vals) : p = q:=by
 cases p;cases q
 simp only at h1 h2 h3
 rw [h1,h2,h3]
def EH (l : List Rec) (c : Page) : List Nat → Page → Prop
 | [],P => AL P = true ∧ P.owner = c.owner ∧ P.vals = c.vals
 | m :: ms,P => AL P = true ∧ EH l c ms (AV P (Br (rc l (m - 1)) 0))
theorem J5 {l : List Rec} {c : Page} {ms : List Nat} {P : Page} (h : EH l c ms P) : AL P = true:=by
 cases ms
 ·exact h.1
 ·exact h.1
theorem Jj {l : List Rec} {c : Page} {k : Int} (h0 : 0 ≤ k) (h1 : k ≤ 150) : ∀ {ms : List Nat} {P : Page},EH l c ms P → EH l c ms ⟨k,P.owner,P.vals⟩
 | [],P,h => ⟨Hy h.1 h0 h1,h.2⟩
 | m :: ms,P,h => ⟨Hy h.1 h0 h1,by rw [TF];exact Jj h0 h1 h.2⟩
theorem D5 {l l' : List Rec} {c : Page} {n : Nat} (h : Agree l l' n) : ∀ {ms : List Nat} {P : Page},(∀ m ∈ ms,0 < m ∧ m ≤ n) → EH l c ms P → EH l' c ms P
 | [],_,_,hp => hp
 | m :: ms,P,hm,hp => ⟨hp.1,by
  have:=hm m (by simp)
  rw [← h (m - 1) (by omega)]
  exact D5 h (fun x hx => hm x (by simp [hx])) hp.2⟩
def Pq (l : List Rec) (ms : List Nat) : Prop := ∃ m ∈ ms,(rc l (m - 1)).slot < 0 ∧ (rc l (m - 1)).old = 0
theorem Ea {l l' : List Rec} {n : Nat} {ms : List Nat} (h : Agree l l' n) (hm : ∀ m ∈ ms,0 < m ∧ m ≤ n) (hz : Pq l ms) : Pq l' ms:=by
 obtain ⟨m,h1,h2,h3⟩:=hz
 have:=hm m h1
 rw [h (m - 1) (by omega)] at h2 h3
 exact ⟨m,h1,h2,h3⟩
theorem Ga {p : Page} {r : Rec} (h : r.slot < 0) (h0 : r.new = 0) : AV p r = ⟨p.lsn,0, [0,0,0]⟩:=by
 rw [AV,if_neg (by omega),if_pos h0]
theorem OM {vs : List Int} (h : vs.length = 3) (h0 : ∀ x ∈ vs,x = 0) : vs = [0,0,0]:=by
 match vs,h with
 | [a,b,c],_ => rw [h0 a (by simp),h0 b (by simp),h0 c (by simp)]
theorem Qp {vs : List Int} {i : Nat} {x y : Int} (h : y ∈ vs.set i x) : y ∈ vs ∨ y = x:=List.mem_or_eq_of_mem_set h
theorem VN {vs : List Int} {i : Nat} {x : Int} (h : i < vs.length) : x ∈ vs.set i x:=by
 rw [List.mem_iff_getElem?]
 exact ⟨i,by simp [h]⟩
theorem Uw {P P' : Page} {r : Rec} (hr : r.slot ≤ 2) (h : AL P = true) (h' : AL P' = true) (ho : P'.owner = P.owner) (hw : AL (AV P r) = true) : AL (AV P' r) = true:=by
 rw [Be] at h h' hw ⊢
 rw [K4] at hw ⊢
 have hown:=Im (p:=P') (q:=P) r ho
 rw [hown]
 refine ⟨h'.1,h'.2.1,hw.2.2.1,hw.2.2.2.1,IW h'.2.2.2.2.1,?_⟩
 rcases Int.lt_or_le r.slot 0 with hs | hs
 ·by_cases h0 : r.new = 0
  ·rw [Ga hs h0]
   intro x hx
   simp at hx
   rw [hx]
   simp
  ·have e1 : AV P' r = ⟨P'.lsn,r.new,P'.vals⟩:=by rw [AV,if_neg (by omega),if_neg h0]
   have e2 : AV P r = ⟨P.lsn,r.new,P.vals⟩:=by rw [AV,if_neg (by omega),if_neg h0]
   rw [e1,e2]
   intro x hx
   have:=h'.2.2.2.2.2 x hx
   exact ⟨this.1,this.2.1,fun e => absurd e h0⟩
 ·have e1 : AV P' r = ⟨P'.lsn,P'.owner,P'.vals.set r.slot.toNat r.new⟩:=by rw [AV,if_pos hs]
  have e2 : AV P r = ⟨P.lsn,P.owner,P.vals.set r.slot.toNat r.new⟩:=by rw [AV,if_pos hs]
  rw [e2] at hw ⊢
  rw [e1]
  have hnew:=hw.2.2.2.2.2 r.new (VN (by rw [h.2.2.2.2.1];omega))
  intro x hx
  rcases Qp hx with hx | rfl
  ·have:=h'.2.2.2.2.2 x hx
   exact ⟨this.1,this.2.1,fun e => this.2.2 (by rw [ho];exact e)⟩
  ·exact hnew
theorem JJ {l : List Rec} {c : Page} : ∀ {ms : List Nat} {P P' : Page},(∀ m ∈ ms,(rc l (m - 1)).slot ≤ 2) → Pq l ms → AL P' = true → P'.owner = P.owner → EH l c ms P → EH l c ms P'
 | [],_,_,_,⟨_,h,_⟩,_,_,_ => by cases h
 | m :: ms,P,P',hs,hz,h',ho,h => by
  refine ⟨h',?_⟩
  have hok:=J5 h.2
  have hb : (Br (rc l (m - 1)) 0).slot ≤ 2:=hs m (by simp)
  have hw:=Uw hb h.1 h' ho hok
  by_cases hzz : (rc l (m - 1)).slot < 0 ∧ (rc l (m - 1)).old = 0
  ·have e1 : AV P' (Br (rc l (m - 1)) 0) = ⟨P'.lsn,0, [0,0,0]⟩:=Ga hzz.1 hzz.2
   have e2 : AV P (Br (rc l (m - 1)) 0) = ⟨P.lsn,0, [0,0,0]⟩:=Ga hzz.1 hzz.2
   rw [e1]
   have h2:=h.2
   rw [e2] at h2
   rw [Be] at h'
   exact Jj h'.1 h'.2.1 h2
  ·refine JJ (fun x hx => hs x (by simp [hx])) ?_ hw (Im _ ho) h.2
   obtain ⟨x,hx,h1,h2⟩:=hz
   rcases List.mem_cons.1 hx with rfl | hx
   ·exact absurd ⟨h1,h2⟩ hzz
   ·exact ⟨x,hx,h1,h2⟩
def Bh (P : Page) (l : List Rec) (p : Nat) : Nat → Page
 | 0 => P
 | n + 1 => if Cu (rc l n).kind = true ∧ (rc l n).page = p ∧ (Bh P l p n).lsn < (n + 1 : Nat) then doR (Bh P l p n) (rc l n) (n + 1 : Nat) else Bh P l p n
theorem Eu {ps : List Page} {i j : Nat} {q : Page} (h : i < ps.length) : pg (ps.set i q) j = if i = j then q else pg ps j:=by
 by_cases e : i = j
 ·subst e
  simp [pg,List.getD_eq_getElem?_getD,h]
 ·simp [pg,List.getD_eq_getElem?_getD,e]
theorem Ej (ps : List Page) (l : List Rec) (n : Nat) : (BI ps l n).length = ps.length:=by
 induction n with
 | zero => rfl
 | succ n ih =>
  rw [BI,Ee]
  split
  ·rw [List.length_set,ih]
  ·exact ih
theorem E9 {ps : List Page} {l : List Rec} (h5 : ps.length = 5) (hl : ∀ k,k < l.length → Cv (rc l k) = true) (p : Nat) : ∀ n,n ≤ l.length → pg (BI ps l n) p = Bh (pg ps p) l p n
 | 0,_ => rfl
 | n + 1,hn => by
  have ih:=fun p => E9 h5 hl p n (by omega)
  rw [BI,Ee,Bh]
  by_cases hc : Cu (rc l n).kind = true
  ·have hpg:=Ic (hl n (by omega)) hc
   by_cases hp : (rc l n).page = p
   ·have e : (rc l n).page.toNat = p:=by omega
    rw [e,ih p]
    by_cases hlt : (Bh (pg ps p) l p n).lsn < ((n + 1 : Nat) : Int)
    ·rw [if_pos ⟨hc,hlt⟩,if_pos ⟨hc,hp,hlt⟩,Eu (by rw [Ej];omega),if_pos rfl]
    ·rw [if_neg (fun h => hlt h.2),if_neg (fun h => hlt h.2.2),ih p]
   ·rw [if_neg (c:=_ ∧ _ = _ ∧ _) (fun h => hp h.2.1)]
    split
    ·rw [Eu (by rw [Ej];omega),if_neg (by omega),ih p]
    ·exact ih p
  ·rw [if_neg (fun h => hc h.1),if_neg (fun h => hc h.1),ih p]
theorem EF {l l' : List Rec} (P : Page) (p : Nat) : ∀ {n : Nat},Agree l l' n → Bh P l p n = Bh P l' p n
 | 0,_ => rfl
 | n + 1,h => by
  unfold Bh
  rw [EF P p (h.le (Nat.le_succ n)),h n (by omega)]
theorem He {P : Page} {l : List Rec} {p : Nat} : ∀ n : Nat,P.lsn ≤ (Bh P l p n).lsn ∧ ((Bh P l p n).lsn ≤ P.lsn ∨ (Bh P l p n).lsn ≤ n)
 | 0 => ⟨Int.le_refl _, .inl (Int.le_refl _)⟩
 | n + 1 => by
  have ih:=He (P:=P) (l:=l) (p:=p) n
  rw [Bh]
  split
  ·rename_i h
   have : (doR (Bh P l p n) (rc l n) ((n + 1 : Nat) : Int)).lsn = ((n + 1 : Nat) : Int):=rfl
   rw [this]
   have:=h.2.2
   omega
  ·omega
def Td (l : List Rec) (p k : Nat) : Prop:=Cu (rc l k).kind = true ∧ (rc l k).page = p
theorem Nk {P : Page} {l : List Rec} {p : Nat} : ∀ {n : Nat} {k : Nat},k < n → (Bh P l p n).lsn < (k + 1 : Nat) → ¬ Td l p k
 | 0,k,hk,_ => by omega
 | n + 1,k,hk,h => by
  rw [Bh] at h
  split at h
  ·have : (doR (Bh P l p n) (rc l n) ((n + 1 : Nat) : Int)).lsn = ((n + 1 : Nat) : Int):=rfl
   rw [this] at h
   omega
  ·rename_i hc
   rcases Nat.eq_or_lt_of_le (Nat.le_of_lt_succ hk) with rfl | hlt
   ·exact fun hch => hc ⟨hch.1,hch.2,h⟩
   ·exact Nk hlt h
theorem Jg {P : Page} {l : List Rec} {p : Nat} : ∀ {n : Nat},(∀ k,k < n → P.lsn < (k + 1 : Nat) → ¬ Td l p k) → Bh P l p n = P
 | 0,_ => rfl
 | n + 1,h => by
  have ih:=Jg (P:=P) (l:=l) (p:=p) (n:=n) (fun k hk => h k (by omega))
  rw [Bh,ih,if_neg]
  exact fun hc => h n (by omega) hc.2.2 ⟨hc.1,hc.2.1⟩
theorem Gf {P : Page} {l : List Rec} {r : Rec} {p : Nat} : Bh P (l ++ [r]) p (l.length + 1) = if Cu r.kind = true ∧ r.page = p ∧ (Bh P l p l.length).lsn < (l.length + 1 : Nat) then doR (Bh P l p l.length) r (l.length + 1 : Nat) else Bh P l p l.length:=by
 rw [Bh,BK,EF P p (Cq l [r])]
theorem DX {l : List Rec} {n m : Nat} {p : Int} (h : m ∈ UA l n p) : 0 < m ∧ m ≤ n ∧ (rc l (m - 1)).page = p ∧ ∃ t,m ∈ U l t n:=by
 have hF : ∀ t,m ∈ F l n p t → 0 < m ∧ m ≤ n ∧ (rc l (m - 1)).page = p ∧ ∃ t,m ∈ U l t n:=fun t hm => by
  obtain ⟨h1,h2⟩:=List.mem_filter.1 hm
  have:=MG h1
  exact ⟨this.1,this.2,by simpa using h2,t,h1⟩
 rw [UA,List.mem_append,List.mem_append] at h
 rcases h with h | h | h
 ·exact hF _ h
 ·exact hF _ h
 ·exact hF _ h
theorem Pz {l : List Rec} (hl : Au l = true) {t : Int} {n m : Nat} (hn : n ≤ l.length) (h : m ∈ U l t n) : (rc l (m - 1)).kind = 1 ∨ (rc l (m - 1)).kind = 2:=by
 have:=Bc l t n
 exact (SA hl _ (by omega) m h).2.2
theorem Tk {l : List Rec} (hl : Au l = true) {n : Nat} {p : Int} (hn : n ≤ l.length) : ∀ m ∈ UA l n p,(rc l (m - 1)).slot ≤ 2:=fun m hm => by
 obtain ⟨h1,h2,h3,t,h4⟩:=DX hm
 have:=(GR hl (m:=m) h1 (by omega) (Pz hl hn h4)).2.2.2
 omega
theorem R7 {l : List Rec} (hl : Au l = true) (hp : EO l) {p m : Nat} : ∀ {n : Nat},m ≤ n → n ≤ l.length → (∀ k,m ≤ k → k < n → ¬ Td l p k ∧ (rc l k).kind ≠ 4) → UA l n p = UA l m p
  | 0, hm, _, _ => by obtain rfl : m = 0 := by omega
                      rfl
  | n + 1,hm,hn,h => by
    rcases Nat.eq_or_lt_of_le hm with rfl | hlt
    · rfl
    · have ih:=R7 hl hp (p:=p) (m:=m) (n:=n) (by omega) (by omega) (fun k h1 h2 => h k h1 (by omega))
      obtain ⟨h1,h2⟩:=h n (by omega) (by omega)
      rw [← ih]
      rcases KQ hl (k:=n) (by omega) with hk | hk | hk | hk | hk | hk
      · rw [Sn hl hp (by omega) (.inl hk),if_neg fun e => h1 ⟨by rw [hk];rfl,e⟩]
      · rw [Sn hl hp (by omega) (.inr hk),if_neg fun e => h1 ⟨by rw [hk];rfl,e⟩]
      · rw [Tm hl (by omega) hk]
      · exact absurd hk h2
      · rw [NM hp (by omega) hk]
      · obtain ⟨x,_,hx⟩:=PD hl hp (n:=n) (by omega) hk
        rw [hx p,if_neg fun e => h1 ⟨by rw [hk];rfl,e⟩]
def cst (l : List Rec) (t : Int) (n : Nat) : Nat:=(U l t n).length + (if Ae l t n = 0 then 0 else 1)
def AR (l : List Rec) (n : Nat) : Nat:=cst l 1 n + (cst l 2 n + cst l 3 n)
theorem Iw (l : List Rec) : need l = AR l l.length:=by
 have e1 : (3 - ((2 : Nat) : Int)) = 1:=rfl
 have e2 : (3 - ((1 : Nat) : Int)) = 2:=rfl
 have e3 : (3 - ((0 : Nat) : Int)) = 3:=rfl
 rw [need,J6,J6,J6,J6,e1,e2,e3]
 rfl
theorem Kj {l l' : List Rec} {n : Nat} (h : Agree l l' n) (t : Int) {k : Nat} (hk : k ≤ n) : cst l t k = cst l' t k:=by
 rw [cst,cst,H6 h t hk,CF t (h.le hk)]
theorem ER {l l' : List Rec} {n : Nat} (h : Agree l l' n) {k : Nat} (hk : k ≤ n) : AR l k = AR l' k:=by
 rw [AR,AR,Kj h 1 hk,Kj h 2 hk,Kj h 3 hk]
theorem Uf {l : List Rec} {t : Int} {n : Nat} (h : (rc l n).tx ≠ t) : cst l t (n + 1) = cst l t n:=by
 rw [cst,cst,IA h,Fw h]
theorem JL {l : List Rec} {n : Nat} {t : Int} (ht : (rc l n).tx = t) (h3 : t = 1 ∨ t = 2 ∨ t = 3) : AR l (n + 1) + cst l t n = AR l n + cst l t (n + 1):=by
 have ho : ∀ s,s ≠ t → cst l s (n + 1) = cst l s n:=fun s hs => Uf (by rw [ht];exact Ne.symm hs)
 rw [AR,AR]
 rcases h3 with rfl | rfl | rfl
 ·rw [ho 2 (by decide),ho 3 (by decide)];omega
 ·rw [ho 1 (by decide),ho 3 (by decide)];omega
 ·rw [ho 1 (by decide),ho 2 (by decide)];omega
def Du (e : Eng) (p : Nat) : Page:=Bh (pg e.disk p) e.log p e.log.length
structure Core (e : Eng) (C : Nat → Page) (B : Nat) : Prop where
 dlen : e.disk.length = 5
 dok : ∀ p,p < 5 → AL (pg e.disk p) = true
 log : Au e.log = true
 prop : EO e.log
 s0 : 0 ≤ e.safe
 s1 : e.safe ≤ e.log.length
 b150 : B ≤ 150
 room : ∀ n,n ≤ e.log.length → n + AR e.log n ≤ B
 done : ∀ k,k < e.log.length → (rc e.log k).kind = 4 → ((k + 1 : Nat) : Int) ≤ e.safe
 JU : ∀ p,p < 5 → (pg e.disk p).lsn ≤ e.safe
 good : ∀ n : Nat,e.safe ≤ n → n ≤ e.log.length → ∀ p,p < 5 → EH e.log (C p) (UA e.log n p) (Bh (pg e.disk p) e.log p n)
theorem Core.mem {e : Eng} {C : Nat → Page} {B : Nat} (h : Core e C B) (m : List Page) (d : Bool) : Core { e with mem:=m,down:=d } C B:=
 ⟨h.dlen,h.dok,h.log,h.prop,h.s0,h.s1,h.b150,h.room,h.done,h.JU,h.good⟩
theorem Core.XJ {e : Eng} {C : Nat → Page} {B : Nat} (h : Core e C B) : e.log.length ≤ 150:=BA h.log
theorem Core.VQ {e : Eng} {C : Nat → Page} {B : Nat} (h : Core e C B) {p n : Nat} (hp : p < 5) (hn : e.safe ≤ n) : (Bh (pg e.disk p) e.log p n).lsn ≤ n:=by
 have h1:=He (P:=pg e.disk p) (l:=e.log) (p:=p) n
 have h2:=h.JU p hp
 omega
theorem Core.rok {e : Eng} {C : Nat → Page} {B : Nat} (h : Core e C B) {p n : Nat} (hp : p < 5) (hn : e.safe ≤ n) (hl : n ≤ e.log.length) : AL (Bh (pg e.disk p) e.log p n) = true:=J5 (h.good n hn hl p hp)
theorem Core.snoc {e : Eng} {C : Nat → Page} {B B' : Nat} {r : Rec} (h : Core e C B) (hB : B ≤ B') (hB' : B' ≤ 150) (hl : Au (e.log ++ [r]) = true) (hr : H7 (e.log ++ [r]) e.log.length) (hk : r.kind ≠ 4)
  (hroom : e.log.length + 1 + AR (e.log ++ [r]) (e.log.length + 1) ≤ B') (hg : ∀ p,p < 5 → EH (e.log ++ [r]) (C p) (UA (e.log ++ [r]) (e.log.length + 1) p) (Bh (pg e.disk p) (e.log ++ [r]) p (e.log.length + 1))) : Core { e with log:=e.log ++ [r] } C B':=by
 have hA:=Cq e.log [r]
 have hlen : (e.log ++ [r]).length = e.log.length + 1:=by simp
 refine ⟨h.dlen,h.dok,hl,FD h.prop hr,h.s0,?_,hB',fun n hn => ?_,fun k hk' hk4 => ?_,h.JU,fun n hs hn p hp => ?_⟩
 ·have:=h.s1
  show e.safe ≤ ((e.log ++ [r]).length : Nat)
  rw [hlen];omega
 ·have hn : n ≤ (e.log ++ [r]).length:=hn
  show n + AR (e.log ++ [r]) n ≤ B'
  rw [hlen] at hn
  rcases Nat.lt_or_ge e.log.length n with hlt | hge
  ·obtain rfl : n = e.log.length + 1:=by omega
   exact hroom
  ·rw [ER hA hge]
   have:=h.room n hge
   omega
 ·have hk' : k < (e.log ++ [r]).length:=hk'
  have hk4 : (rc (e.log ++ [r]) k).kind = 4:=hk4
  rw [hlen] at hk'
  rcases Nat.lt_or_ge k e.log.length with hlt | hge
  ·rw [LW hlt] at hk4
   exact h.done k hlt hk4
  ·obtain rfl : k = e.log.length:=by omega
   rw [BK] at hk4
   exact absurd hk4 hk
 ·have hn : n ≤ (e.log ++ [r]).length:=hn
  rw [hlen] at hn
  show EH (e.log ++ [r]) (C p) (UA (e.log ++ [r]) n p) (Bh (pg e.disk p) (e.log ++ [r]) p n)
  rcases Nat.lt_or_ge e.log.length n with hlt | hge
  ·obtain rfl : n = e.log.length + 1:=by omega
   exact hg p hp
  ·rw [Fb hA p hge,EF _ p (hA.le hge)]
   exact D5 hA.symm (fun m hm => by have:=DX hm;omega) (h.good n hs hge p hp)
def ld (l : List Rec) (t : Int) (n : Nat) (p : Int) : Bool:=EZ l (Ae l t n) p
theorem Qw (l : List Rec) (p : Int) : FR l p 3 = (ld l 1 l.length p || (ld l 2 l.length p || ld l 3 l.length p)):=by
 have e1 : (3 - ((2 : Nat) : Int)) = 1:=rfl
 have e2 : (3 - ((1 : Nat) : Int)) = 2:=rfl
 have e3 : (3 - ((0 : Nat) : Int)) = 3:=rfl
 rw [FR,FR,FR,FR,e1,e2,e3,Bool.or_false]
 rfl
theorem UY {l : List Rec} {t p : Int} {n : Nat} : ld l t n p = true ↔ ∃ m ∈ Ch l t n,(rc l (m - 1)).kind = 3 ∧ (rc l (m - 1)).page = p:=by
 simp [ld,EZ,Ch]
theorem M6 {l : List Rec} {t p : Int} {n : Nat} (h : ld l t n p = true) : has l t n p = true:=by
 obtain ⟨m,h1,_,h2⟩:=UY.1 h
 exact MO.2 ⟨m,h1,h2⟩
theorem I7 {l l' : List Rec} {n : Nat} (h : Agree l l' n) (t p : Int) {k : Nat} (hk : k ≤ n) : ld l t k p = ld l' t k p:=by
 rw [ld,ld,CF t (h.le hk)]
 exact Qx h p (by have:=Bc l' t k;omega)
theorem Ll {l : List Rec} {t : Int} {k : Nat} (h : (rc l k).tx ≠ t) (p : Int) : ld l t (k + 1) p = ld l t k p:=by rw [ld,Fw h,ld]
theorem RJ {l : List Rec} {t : Int} {k : Nat} (h : (rc l k).tx = t) (he : EK (rc l k).kind = true) (p : Int) : ld l t (k + 1) p = false:=by rw [ld,Ja h he,I6]
theorem SN {l : List Rec} (hl : Au l = true) {k : Nat} (hk : k < l.length) (h : EK (rc l k).kind = false) (p : Int) : ld l (rc l k).tx (k + 1) p = (((rc l k).kind == 3 && (rc l k).page == p) || ld l (rc l k).tx k p):=by
 have F:=Ag hl hk
 rw [ld,En rfl h,Nq F.prev_le,F.last,ld]
def lds (l : List Rec) (n : Nat) (p : Int) : Bool:=ld l 1 n p || (ld l 2 n p || ld l 3 n p)
theorem Lj {l : List Rec} {n : Nat} {p : Int} : lds l n p = true ↔ ∃ t,(t = 1 ∨ t = 2 ∨ t = 3) ∧ ld l t n p = true:=by
 simp only [lds,Bool.or_eq_true]
 constructor
 ·rintro (h | h | h)
  ·exact ⟨1,by simp,h⟩
  ·exact ⟨2,by simp,h⟩
  ·exact ⟨3,by simp,h⟩
 ·rintro ⟨t,rfl | rfl | rfl,h⟩
  ·exact .inl h
  ·exact .inr (.inl h)
  ·exact .inr (.inr h)
theorem Qz {l : List Rec} {n : Nat} {p : Int} (h : ∀ t,ld l t (n + 1) p = ld l t n p) : lds l (n + 1) p = lds l n p:=by rw [lds,lds,h,h,h]
theorem J8 {l l' : List Rec} {n : Nat} (h : Agree l l' n) (p : Int) {k : Nat} (hk : k ≤ n) : lds l k p = lds l' k p:=by
 rw [lds,lds,I7 h 1 p hk,I7 h 2 p hk,I7 h 3 p hk]
theorem Nt {l : List Rec} (hl : Au l = true) {n : Nat} (hn : n < l.length) (he : EK (rc l n).kind = false) {p : Int} (h : ¬ ((rc l n).kind = 3 ∧ (rc l n).page = p)) : lds l (n + 1) p = lds l n p:=by
 refine Qz fun t => ?_
 by_cases ht : (rc l n).tx = t
 ·subst ht
  rw [SN hl hn he]
  have : ((rc l n).kind == 3 && (rc l n).page == p) = false:=by
   rw [Bool.eq_false_iff]
   intro h2
   simp only [Bool.and_eq_true,beq_iff_eq] at h2
   exact h h2
  rw [this,Bool.false_or]
 ·exact Ll ht p
theorem SL {l : List Rec} {n : Nat} (he : EK (rc l n).kind = true) {p : Int} (h : ld l (rc l n).tx n p = false) : lds l (n + 1) p = lds l n p:=by
 refine Qz fun t => ?_
 by_cases ht : (rc l n).tx = t
 ·subst ht
  rw [RJ rfl he,h]
 ·exact Ll ht p
structure PL (e : Eng) (p : Nat) : Prop where
 ok : AL (pg e.mem p) = true
 owner : (pg e.mem p).owner = (Du e p).owner
 lsn : (pg e.mem p).lsn ≤ e.log.length
 cases : (lds e.log e.log.length p = false ∧ pg e.mem p = Du e p) ∨ (lds e.log e.log.length p = true ∧ (pg e.mem p).lsn = AO e.log p e.log.length ∧ ((pg e.disk p).lsn < (pg e.mem p).lsn ∨ pg e.mem p = pg e.disk p) ∧ (pg e.mem p = Du e p ∨ Pq e.log (UA e.log e.log.length p)))
def UpC (l : List Rec) : Prop := ∀ t, ∀ m ∈ Ch l t l.length,(rc l (m - 1)).kind ≠ 6
structure Inv (e : Eng) (C : Nat → Page) (B : Nat) : Prop where
 core : Core e C B
 mlen : e.mem.length = 5
 dn : e.down = true → e.mem = e.disk
 upc : e.down = false → UpC e.log
 upm : e.down = false → ∀ p,p < 5 → PL e p
theorem PL.alt {e : Eng} {p : Nat} (h : PL e p) : pg e.mem p = Du e p ∨ Pq e.log (UA e.log e.log.length p):=by
 rcases h.cases with h | h
 ·exact .inl h.2
 ·exact h.2.2.2
theorem Core.P5 {e : Eng} {C : Nat → Page} {B : Nat} (h : Core e C B) {p : Nat} (hp : p < 5) {M : Page} (hok : AL M = true) (ho : M.owner = (Du e p).owner) (ha : M = Du e p ∨ Pq e.log (UA e.log e.log.length p)) : EH e.log (C p) (UA e.log e.log.length p) M:=by
 have hg:=h.good e.log.length h.s1 (Nat.le_refl _) p hp
 rcases ha with ha | ha
 ·rw [ha];exact hg
 ·exact JJ (Tk h.log (Nat.le_refl _)) ha hok ho hg
def Eng.app (e : Eng) (r : Rec) : Eng:=
 { e with log:=e.log ++ [{ r with prev:=Ae e.log r.tx e.log.length }],mem:=if Cu r.kind = true then e.mem.set r.page.toNat (doR (pg e.mem r.page.toNat) r (e.log.length + 1 : Nat)) else e.mem }
abbrev lastT (e : Eng) (tx : Int) : Nat:=Ae e.log tx e.log.length
def Da (e : Eng) (tx : Int) : Rec:=if Bt e.log (lastT e tx) = 0 then ⟨5,tx,0,0,0,0,0,0⟩ else Br (rc e.log (Bt e.log (lastT e tx) - 1)) 0
def AY (e : Eng) (tx : Int) : Eng:=e.app (Da e tx)
theorem EU (p : Page) (r : Rec) (n : Int) : doR p r n = ⟨n,(AV p r).owner,(AV p r).vals⟩:=rfl
theorem KI {l : List Rec} (r : Rec) : AR (l ++ [r]) l.length = AR l l.length:=ER (Cq l [r]) (Nat.le_refl _)
theorem Pt {l : List Rec} (r : Rec) (t : Int) : cst (l ++ [r]) t l.length = cst l t l.length:=Kj (Cq l [r]) t (Nat.le_refl _)
theorem I8 (l : List Rec) (tx : Int) : ∀ n,Ae l tx n = 0 ∨ (rc l (Ae l tx n - 1)).tx = tx
 | 0 => .inl rfl
 | n + 1 => by
  rw [Ae]
  split
  ·rename_i h
   split
   ·exact .inl rfl
   ·exact .inr h
  ·exact I8 l tx n
theorem Wi {l : List Rec} (hl : Au l = true) {k : Nat} (hk : k < l.length) : EY l (k + 1) = 0 ∨ (rc l (EY l (k + 1) - 1)).tx = (rc l k).tx:=by
 have h:=hl
 simp only [Au,Bool.and_eq_true] at h
 have ha:=Oy h.1 hk
 simp only [atOk,Bool.and_eq_true,beq_iff_eq,decide_eq_true_eq,Bool.or_eq_true] at ha
 simp only [EY,Nat.add_sub_cancel]
 rcases ha.2 with h4 | h4
 ·exact .inl (by omega)
 ·exact .inr h4
theorem VL {l : List Rec} (hl : Au l = true) (tx : Int) (n : Nat) : n ≤ l.length → (n = 0 ∨ (rc l (n - 1)).tx = tx) → ∀ m ∈ CW l n,(rc l (m - 1)).tx = tx:=by
 induction n using Nat.strongRecOn with
 | _ n ih =>
  intro hn ht m hm
  match n with
  | 0 => rw [Cn] at hm;cases hm
  | n + 1 =>
   have ht : (rc l n).tx = tx:=by
    rcases ht with ht | ht
    ·omega
    ·simpa using ht
   have FF:=Ag hl (k:=n) (by omega)
   have hp : Bu l (n + 1) = 0 ∨ (rc l (Bu l (n + 1) - 1)).tx = tx:=by
    rw [FF.last,ht]
    exact I8 l tx n
   have h1:=FF.prev_le
   have h2:=FF.next_le
   rw [CW] at hm
   split at hm
   ·rcases List.mem_cons.1 hm with rfl | hm
    ·simpa using ht
    ·try rw [dif_pos h1] at hm
     exact ih _ (by omega) (by omega) hp m hm
   ·split at hm
    ·try rw [dif_pos h2] at hm
     exact ih _ (by omega) (by omega) (by rw [← ht];exact Wi hl (by omega)) m hm
    ·try rw [dif_pos h1] at hm
     exact ih _ (by omega) (by omega) hp m hm
theorem Zj {l : List Rec} (hl : Au l = true) {tx : Int} {n m : Nat} (hn : n ≤ l.length) (h : m ∈ U l tx n) : (rc l (m - 1)).tx = tx:=by
 have:=Bc l tx n
 exact VL hl tx _ (by omega) (I8 l tx n) m h
inductive StepKind (l : List Rec) (tx : Int) : Rec → Prop
 | fin (h : U l tx l.length = []) : StepKind l tx ⟨5,tx,0,0,0,0,Ae l tx l.length,0⟩
 | JC (m : Nat) (ms : List Nat) (h : U l tx l.length = m :: ms) (h0 : 0 < m) (hm : m ≤ l.length) (hk : (rc l (m - 1)).kind = 1 ∨ (rc l (m - 1)).kind = 2) (ht : (rc l (m - 1)).tx = tx) : StepKind l tx (Br (rc l (m - 1)) (Ae l tx l.length))
def CB (e : Eng) (tx : Int) : Rec:={ Da e tx with prev:=Ae e.log (Da e tx).tx e.log.length }
theorem EP {e : Eng} (hl : Au e.log = true) (tx : Int) : StepKind e.log tx (CB e tx):=by
 have hle:=Bc e.log tx e.log.length
 unfold CB Da
 split
 ·rename_i h0
  exact .fin (FM h0)
 ·rename_i h0
  obtain ⟨ms,hm⟩:=Mi (l:=e.log) (n:=lastT e tx) rfl (by omega)
  obtain ⟨h1,h2,h3,h4⟩:=Gb _ _ ms hm
  have hU : U e.log tx e.log.length = Bt e.log (lastT e tx) :: ms:=hm
  have ht:=Zj hl (Nat.le_refl _) (tx:=tx) (m:=Bt e.log (lastT e tx)) (by rw [hU];exact List.mem_cons_self)
  have:=StepKind.JC (l:=e.log) (tx:=tx) (Bt e.log (lastT e tx)) ms hU h1 (by unfold lastT at h2 ⊢;omega) h3 ht
  have e1 : Ae e.log tx e.log.length = Ae e.log (Br (rc e.log (Bt e.log (lastT e tx) - 1)) 0).tx e.log.length:=by
   show Ae e.log tx e.log.length = Ae e.log (rc e.log (Bt e.log (lastT e tx) - 1)).tx e.log.length
   rw [ht]
  rw [← e1]
  exact this
theorem StepKind.tx {l : List Rec} {tx : Int} {r : Rec} (h : StepKind l tx r) : r.tx = tx:=by
 cases h with
 | fin => rfl
 | JC m ms _ _ _ _ ht => exact ht
theorem StepKind.prev {l : List Rec} {tx : Int} {r : Rec} (h : StepKind l tx r) : r.prev = Ae l tx l.length:=by
 cases h <;> rfl
theorem StepKind.ne4 {l : List Rec} {tx : Int} {r : Rec} (h : StepKind l tx r) : r.kind ≠ 4:=by
 cases h <;> simp [Br]
theorem StepKind.ok {l : List Rec} {tx : Int} {r : Rec} (hl : Au l = true) (h : StepKind l tx r) (ht : 1 ≤ tx ∧ tx ≤ 3) : Cv r = true:=by
 have hle:=Bc l tx l.length
 have h150:=BA hl
 cases h with
 | fin => rw [D7];simp;omega
 | JC m ms h h0 hm hk ht =>
  have hr:=(GR hl h0 hm hk).1
  have FF:=Ag hl (k:=m - 1) (by omega)
  have hp:=FF.prev
  have hpl:=FF.prev_le
  rw [D7] at hr
  rw [D7]
  simp only [Br]
  have hs:=Bc l tx l.length
  refine ⟨.inr (.inr (.inr (.inr ⟨trivial,by omega,by omega,by omega,by omega,trivial,by omega,fun _ => by omega,by omega,by omega,by omega⟩))),by omega,by omega,by omega,by omega⟩
theorem StepKind.log {l : List Rec} {tx : Int} {r : Rec} (hl : Au l = true) (h : StepKind l tx r) (ht : 1 ≤ tx ∧ tx ≤ 3) (h150 : l.length + 1 ≤ 150) : Au (l ++ [r]) = true:=by
 have hok:=h.ok hl ht
 refine Jl hl hok (by rw [h.prev,h.tx]) ?_ ?_ h150
 ·cases h with
  | fin => simp
  | JC m ms h h0 hm hk ht =>
   have FF:=Ag hl (k:=m - 1) (by omega)
   have h1:=FF.prev
   have h2:=FF.prev_le
   simp only [Br]
   omega
 ·cases h with
  | fin => exact .inl (Int.le_refl _)
  | JC m ms h h0 hm hk ht =>
   have FF:=Ag hl (k:=m - 1) (by omega)
   have h1:=FF.prev
   have h3:=I8 l (rc l (m - 1)).tx (m - 1)
   rw [← FF.last] at h3
   rw [show m - 1 + 1 = m by omega] at h1 h3
   simp only [Br]
   rcases h3 with h3 | h3
   ·exact .inl (by omega)
   ·refine .inr ?_
    rw [h1]
    exact h3
theorem StepKind.next {l : List Rec} {tx : Int} {r : Rec} (hl : Au l = true) (h : StepKind l tx r) (ht : 1 ≤ tx ∧ tx ≤ 3) (h150 : l.length + 1 ≤ 150) : U (l ++ [r]) tx (l.length + 1) = (U l tx l.length).tail ∧ (∀ t,t ≠ tx → U (l ++ [r]) t (l.length + 1) = U l t l.length ∧ Ae (l ++ [r]) t (l.length + 1) = Ae l t l.length) ∧ Ae (l ++ [r]) tx (l.length + 1) = if U l tx l.length = [] then 0 else l.length + 1:=by
 have hl':=h.log hl ht h150
 have hA:=Cq l [r]
 have hlen : l.length < (l ++ [r]).length:=by simp
 have hrt : (rc (l ++ [r]) l.length).tx = tx:=by rw [BK,h.tx]
 refine ⟨?_,fun t hne => ?_,?_⟩
 ·cases h with
  | fin h =>
   rw [OI hrt (by rw [BK];rfl),h]
   rfl
  | JC m ms h h0 hm hk htx =>
   have FF:=Ag hl' hlen
   have hn : EY (l ++ [Br (rc l (m - 1)) (Ae l tx l.length)]) (l.length + 1) = Bu l m:=by
    simp only [EY,Bu,Nat.add_sub_cancel]
    rw [BK]
    rfl
   have h2:=Gb _ _ _ h
   have Fm:=Ag hl (k:=m - 1) (by omega)
   have hpm:=Fm.prev_le
   rw [show m - 1 + 1 = m by omega] at hpm
   rw [U,En hrt (by rw [BK];rfl),LM (by rw [BK];rfl) FF.next_le,hn,N8 hA _ (by omega),h,List.tail_cons,(h2.2.2.2 (by omega)).1]
 ·have hne' : (rc (l ++ [r]) l.length).tx ≠ t:=by rw [hrt];exact Ne.symm hne
  rw [IA hne',Fw hne',H6 hA t (Nat.le_refl _),CF t hA]
  exact ⟨rfl,rfl⟩
 ·cases h with
  | fin h => rw [if_pos h,Ja hrt (by rw [BK];rfl)]
  | JC m ms h h0 hm hk htx => rw [if_neg (by rw [h];simp),En hrt (by rw [BK];rfl)]
theorem StepKind.need {l : List Rec} {tx : Int} {r : Rec} (hl : Au l = true) (h : StepKind l tx r) (ht : tx = 1 ∨ tx = 2 ∨ tx = 3) (h150 : l.length + 1 ≤ 150) (hlast : Ae l tx l.length ≠ 0) : AR (l ++ [r]) (l.length + 1) + 1 = AR l l.length:=by
 have hN:=h.next hl (by omega) h150
 have hs:=JL (l:=l ++ [r]) (n:=l.length) (t:=tx) (by rw [BK,h.tx]) ht
 rw [KI,Pt] at hs
 have e1 : cst (l ++ [r]) tx (l.length + 1) = (U l tx l.length).tail.length + (if U l tx l.length = [] then 0 else 1):=by
  rw [cst,hN.1,hN.2.2]
  split
  ·simp
  ·simp
 have e2 : cst l tx l.length = (U l tx l.length).length + 1:=by rw [cst,if_neg hlast]
 rw [e1,e2] at hs
 cases hU : U l tx l.length with
 | nil => rw [hU] at hs;simp at hs;omega
 | cons a t => rw [hU] at hs;simp at hs;omega
theorem Core.one {e : Eng} {C : Nat → Page} {B : Nat} (h : Core e C B) {tx : Int} (ht : tx = 1 ∨ tx = 2 ∨ tx = 3) (hlast : lastT e tx ≠ 0) : e.log.length + 1 ≤ 150:=by
 have h1:=h.room e.log.length (Nat.le_refl _)
 have h2:=h.b150
 have h3 : cst e.log tx e.log.length ≥ 1:=by rw [cst,if_neg hlast];omega
 have h4 : cst e.log tx e.log.length ≤ AR e.log e.log.length:=by
  rw [AR]
  rcases ht with rfl | rfl | rfl <;> omega
 omega
theorem Gd (e : Eng) (tx : Int) : (AY e tx).log = e.log ++ [CB e tx]:=rfl
theorem Jb {e : Eng} {tx : Int} : (CB e tx).kind = (Da e tx).kind ∧ (CB e tx).page = (Da e tx).page:=⟨rfl,rfl⟩
theorem Oq {e : Eng} {C : Nat → Page} {B : Nat} (_h : Core e C B) {tx : Int} {r : Rec} (hk : StepKind e.log tx r) (hlast : lastT e tx ≠ 0) : H7 (e.log ++ [r]) e.log.length:=by
 have hA:=Cq e.log [r]
 cases hk with
 | fin hU =>
  refine ⟨?_,?_,?_,?_,?_⟩
  all_goals rw [BK]
  ·intro hk;simp at hk
  ·intro hk;simp at hk
  ·intro _;rw [H6 hA tx (Nat.le_refl _)];exact hU
  ·intro _
   rw [CF tx hA]
   exact Nat.pos_of_ne_zero hlast
  ·intro hk;simp at hk
 | JC m ms hU h0 hm hkk htx =>
  refine ⟨?_,?_,?_,?_,?_⟩
  all_goals rw [BK]
  ·intro hk;simp [Br] at hk
  ·intro _
   refine ⟨m,ms,?_,?_⟩
   ·show U _ (rc e.log (m - 1)).tx _ = _
    rw [htx,H6 hA tx (Nat.le_refl _)]
    exact hU
   ·rw [LW (by omega)]
    rfl
  ·intro hk;simp [Br] at hk
  ·intro he;simp [Br,EK] at he
  ·intro hk;simp [Br] at hk
theorem Core.step {e : Eng} {C : Nat → Page} {B : Nat} (h : Core e C B) {tx : Int} (ht : tx = 1 ∨ tx = 2 ∨ tx = 3) (hlast : lastT e tx ≠ 0) : Core (AY e tx) C B:=by
 have h1:=h.one ht hlast
 have hk:=EP (e:=e) h.log tx
 have hl':=hk.log h.log (by omega) h1
 have hpr:=Oq h hk hlast
 have hneed:=hk.need h.log ht h1 hlast
 have hroom:=h.room e.log.length (Nat.le_refl _)
 have hP:=FD h.prop hpr
 have hlen : e.log.length < (e.log ++ [CB e tx]).length:=by simp
 have hA:=Cq e.log [CB e tx]
 have hgood:=h.good e.log.length h.s1 (Nat.le_refl _)
 refine (Core.snoc h (Nat.le_refl _) h.b150 hl' hpr ?_ (by omega) ?_).mem _ _
 ·exact hk.ne4
 ·intro p hp
  have hg:=hgood p hp
  have hrl:=h.VQ (p:=p) hp h.s1
  generalize CB e tx = r at hk hl' hpr hneed hP hlen hA ⊢
  rw [Gf]
  cases hk with
  | fin hU =>
   rw [if_neg (fun hc => by simp [Cu] at hc),NM hP hlen (by rw [BK]),Fb hA p (Nat.le_refl _)]
   exact D5 hA.symm (fun m hm => by have:=DX hm;omega) hg
  | JC m ms hU h0 hm hkk htx =>
   obtain ⟨m',hm',hUA⟩:=PD hl' hP hlen (by rw [BK];rfl)
   rw [BK] at hm' hUA
   have hU2:=hUA p
   rw [Fb hA p (Nat.le_refl _)] at hU2
   by_cases hpg : (Br (rc e.log (m - 1)) (Ae e.log tx e.log.length)).page = p
   ·rw [if_pos hpg] at hU2
    rw [if_pos ⟨rfl,hpg,by omega⟩]
    have hg':=D5 hA.symm (fun m hm => by have:=DX hm;omega) hg
    rw [hU2] at hg'
    rw [EU]
    have hw : AV (Bh (pg e.disk p) e.log p e.log.length) (Br (rc e.log (m - 1)) (Ae e.log tx e.log.length)) = AV (Bh (pg e.disk p) e.log p e.log.length) (Br (rc (e.log ++ [Br (rc e.log (m - 1)) (Ae e.log tx e.log.length)]) (m' - 1)) 0):=(congrArg (AV _) hm').trans rfl
    rw [hw]
    exact Jj (by omega) (by omega) hg'.2
   ·rw [if_neg hpg] at hU2
    rw [if_neg (fun hc => hpg hc.2.1), ← hU2]
    exact D5 hA.symm (fun m hm => by have:=DX hm;omega) hg
theorem Kk {e : Eng} {r : Rec} (hm : e.mem.length = 5) (hpg : Cu r.kind = true → 0 ≤ r.page ∧ r.page ≤ 4) (p : Nat) : pg (e.app r).mem p = if Cu r.kind = true ∧ r.page = p then doR (pg e.mem p) r (e.log.length + 1 : Nat) else pg e.mem p:=by
 unfold Eng.app
 by_cases hc : Cu r.kind = true
 ·have h1:=hpg hc
  simp only [hc,if_true]
  rw [Eu (by omega)]
  by_cases e1 : r.page = p
  ·have e2 : r.page.toNat = p:=by omega
   rw [if_pos e2,if_pos ⟨trivial,e1⟩,e2]
  ·rw [if_neg (by omega),if_neg (fun h => e1 h.2)]
 ·simp only [hc]
  rw [if_neg (fun h => by simp at h)]
  rfl
theorem LB (e : Eng) (r : Rec) : (e.app r).mem.length = e.mem.length:=by
 unfold Eng.app
 split
 ·simp
 ·rfl
theorem NK {e : Eng} {C : Nat → Page} {B : Nat} (h : Core e C B) (r : Rec) {p : Nat} (hp : p < 5) : Du (e.app r) p = if Cu r.kind = true ∧ r.page = p then doR (Du e p) r (e.log.length + 1 : Nat) else Du e p:=by
 have hrl:=h.VQ (p:=p) hp h.s1
 have : Du (e.app r) p = Bh (pg e.disk p) (e.log ++ [{ r with prev:=Ae e.log r.tx e.log.length }]) p (e.log.length + 1):=by
  unfold Du Eng.app
  simp
 rw [this,Gf]
 unfold Du
 by_cases hc : Cu r.kind = true ∧ r.page = p
 ·rw [if_pos hc,if_pos ⟨hc.1,hc.2,by omega⟩]
  rfl
 ·rw [if_neg hc,if_neg (fun h => hc ⟨h.1,h.2.1⟩)]
theorem H9 {e : Eng} (hl : Au e.log = true) (tx : Int) : Cu (Da e tx).kind = true → 0 ≤ (Da e tx).page ∧ (Da e tx).page ≤ 4:=by
 have hk:=EP (e:=e) hl tx
 intro hc
 rw [← Jb.1] at hc
 rw [← Jb.2]
 generalize CB e tx = r at hk hc ⊢
 cases hk with
 | fin => simp [Cu] at hc
 | JC m ms h h0 hm hk ht =>
  have:=GR hl h0 hm hk
  simp only [Br]
  omega
theorem TJ {e : Eng} {C : Nat → Page} {B : Nat} (h : Core e C B) (hm : e.mem.length = 5) (tx : Int) (hr : ∀ p,p < 5 → pg e.mem p = Du e p) : ∀ p,p < 5 → pg (AY e tx).mem p = Du (AY e tx) p:=fun p hp => by
 unfold AY
 rw [Kk hm (H9 h.log tx),NK h _ hp,hr p hp]
theorem KN {l : List Rec} {p : Int} {n : Nat} (h : (rc l n).page = p ∧ (Cu (rc l n).kind = true ∨ (rc l n).kind = 3)) : AO l p (n + 1) = n + 1:=by rw [AO,if_pos h]
theorem Gt {l : List Rec} {p : Int} {n : Nat} (h : ¬ ((rc l n).page = p ∧ (Cu (rc l n).kind = true ∨ (rc l n).kind = 3))) : AO l p (n + 1) = AO l p n:=by rw [AO,if_neg h]
theorem PL.step {e : Eng} {C : Nat → Page} {B : Nat} (h : Core e C B) (hm : e.mem.length = 5) {tx : Int} (ht : tx = 1 ∨ tx = 2 ∨ tx = 3) (hlast : lastT e tx ≠ 0) {p : Nat} (hp : p < 5) (hr : PL e p) : PL (AY e tx) p:=by
 have h1:=h.one ht hlast
 have hk:=EP (e:=e) h.log tx
 have hl':=hk.log h.log (by omega) h1
 have hpr:=Oq h hk hlast
 have hP:=FD h.prop hpr
 have hlen : e.log.length < (e.log ++ [CB e tx]).length:=by simp
 have hlen1 : (e.log ++ [CB e tx]).length = e.log.length + 1:=by simp
 have hA:=Cq e.log [CB e tx]
 have hM:=Kk hm (H9 h.log tx) p
 have hR:=NK h (Da e tx) hp
 have hpath:=h.P5 hp hr.ok hr.owner hr.alt
 have hLl : (AY e tx).log = e.log ++ [CB e tx]:=rfl
 have hds:=h.JU p hp
 have hs1:=h.s1
 have hdisk : (AY e tx).disk = e.disk:=rfl
 have hM : pg (AY e tx).mem p = if Cu (CB e tx).kind = true ∧ (CB e tx).page = p then doR (pg e.mem p) (CB e tx) (e.log.length + 1 : Nat) else pg e.mem p:=hM
 have hR : Du (AY e tx) p = if Cu (CB e tx).kind = true ∧ (CB e tx).page = p then doR (Du e p) (CB e tx) (e.log.length + 1 : Nat) else Du e p:=hR
 have hcs:=hr.cases
 generalize CB e tx = r at hk hl' hpr hP hlen hlen1 hA hM hR hLl
 cases hk with
 | fin hU =>
  have hno : ¬ (Cu (5 : Int) = true ∧ (0 : Int) = p):=fun hc => by simp [Cu] at hc
  rw [if_neg hno] at hM hR
  have hUA : UA (e.log ++ [⟨5,tx,0,0,0,0,Ae e.log tx e.log.length,0⟩]) (e.log.length + 1) p = UA e.log e.log.length p:=by
   rw [NM hP hlen (by rw [BK]),Fb hA p (Nat.le_refl _)]
  have hlo : AO (e.log ++ [⟨5,tx,0,0,0,0,Ae e.log tx e.log.length,0⟩]) p (e.log.length + 1) = AO e.log p e.log.length:=by
   rw [Gt (by rw [BK];simp [Cu]),Eo _ hA]
  refine ⟨by rw [hM];exact hr.ok,by rw [hM,hR];exact hr.owner,?_,?_⟩
  ·rw [hM,hLl,hlen1];have:=hr.lsn;omega
  ·rw [hM,hR,hLl,hlen1,hdisk,hUA,hlo]
   cases hldt : ld e.log tx e.log.length p
   ·have hls : lds (e.log ++ [⟨5,tx,0,0,0,0,Ae e.log tx e.log.length,0⟩]) (e.log.length + 1) p = lds e.log e.log.length p:=by
     rw [SL (by rw [BK];rfl) (by rw [BK,I7 hA _ _ (Nat.le_refl _)];exact hldt),J8 hA p (Nat.le_refl _)]
    rw [hls]
    rcases hcs with hc | ⟨a,b,c,d⟩
    ·exact .inl hc
    ·exact .inr ⟨a,b,c,d.imp id (fun hz => Ea hA.symm (fun m hm => by have:=DX hm;omega) hz)⟩
   ·have hhas:=M6 hldt
    have hoth : ∀ s,s ≠ tx → has e.log s e.log.length p = false:=fun s hs => FP h.log h.prop _ (Nat.le_refl _) _ _ _ (Ne.symm hs) hhas
    have hUe : UA e.log e.log.length p = []:=by
     rw [KT h.log h.prop (Nat.le_refl _) ht hoth,F,hU];rfl
    refine .inl ⟨?_,?_⟩
    ·rw [Bool.eq_false_iff]
     intro hl
     obtain ⟨t,_,hlt⟩:=Lj.1 hl
     by_cases e1 : tx = t
     ·subst e1
      rw [RJ (by rw [BK]) (by rw [BK];rfl)] at hlt
      cases hlt
     ·rw [Ll (by rw [BK];exact e1),I7 hA _ _ (Nat.le_refl _)] at hlt
      have:=hoth t (Ne.symm e1)
      rw [M6 hlt] at this
      cases this
    ·rcases hcs with hc | ⟨a,b,c,d⟩
     ·exact hc.2
     ·rcases d with d | d
      ·exact d
      ·rw [hUe] at d
       obtain ⟨m,hm,_⟩:=d
       cases hm
 | JC m ms hU h0 hm hkk htx =>
  have hls : lds (e.log ++ [Br (rc e.log (m - 1)) (Ae e.log tx e.log.length)]) (e.log.length + 1) p = lds e.log e.log.length p:=by
   rw [Nt hl' hlen (by rw [BK];rfl) (by rw [BK];simp [Br]),J8 hA p (Nat.le_refl _)]
  obtain ⟨m',hm',hUA⟩:=PD hl' hP hlen (by rw [BK];rfl)
  rw [BK] at hm' hUA
  have hU2:=hUA p
  rw [Fb hA p (Nat.le_refl _)] at hU2
  by_cases hpg : (Br (rc e.log (m - 1)) (Ae e.log tx e.log.length)).page = p
  ·rw [if_pos hpg] at hU2
   rw [if_pos ⟨rfl,hpg⟩] at hM hR
   have hpath':=D5 hA.symm (fun m hm => by have:=DX hm;omega) hpath
   rw [hU2] at hpath'
   have hw : ∀ P : Page,AV P (Br (rc e.log (m - 1)) (Ae e.log tx e.log.length)) = AV P (Br (rc (e.log ++ [Br (rc e.log (m - 1)) (Ae e.log tx e.log.length)]) (m' - 1)) 0):=fun P => (congrArg (AV P) hm').trans rfl
   have hok:=J5 hpath'.2
   rw [← hw] at hok
   refine ⟨?_,?_,?_,?_⟩
   ·rw [hM,EU]
    exact Hy hok (by omega) (by omega)
   ·rw [hM,hR,EU,EU]
    exact Im _ hr.owner
   ·rw [hM,hLl,hlen1]
    exact Int.le_refl _
   ·rw [hLl,hlen1,hls,hdisk]
    rcases hcs with hc | ⟨a,b,c,d⟩
    ·exact .inl ⟨hc.1,by rw [hM,hR,hc.2]⟩
    ·refine .inr ⟨a,?_,?_,?_⟩
     ·rw [hM,KN (by rw [BK];exact ⟨hpg, .inl rfl⟩)]
      rfl
     ·left
      rw [hM]
      show _ < ((e.log.length + 1 : Nat) : Int)
      omega
     ·rcases d with d | d
      ·exact .inl (by rw [hM,hR,d])
      ·have d':=Ea hA.symm (fun m hm => by have:=DX hm;omega) d
       rw [hU2] at d'
       obtain ⟨x,hx,hx1,hx2⟩:=d'
       rcases List.mem_cons.1 hx with rfl | hx
       ·left
        have hz : ∀ P : Page,AV P (Br (rc (e.log ++ [Br (rc e.log (m - 1)) (Ae e.log tx e.log.length)]) (x - 1)) 0) = ⟨P.lsn,0, [0,0,0]⟩:=fun P => Ga (r:=Br (rc (e.log ++ [Br (rc e.log (m - 1)) (Ae e.log tx e.log.length)]) (x - 1)) 0) hx1 hx2
        rw [hM,hR,EU,EU,hw,hw,hz,hz]
       ·exact .inr ⟨x,hx,hx1,hx2⟩
  ·rw [if_neg hpg] at hU2
   rw [if_neg (fun hc => hpg hc.2)] at hM hR
   have hlo : AO (e.log ++ [Br (rc e.log (m - 1)) (Ae e.log tx e.log.length)]) p (e.log.length + 1) = AO e.log p e.log.length:=by
    rw [Gt (by rw [BK];exact fun hc => hpg hc.1),Eo _ hA]
   refine ⟨by rw [hM];exact hr.ok,by rw [hM,hR];exact hr.owner,?_,?_⟩
   ·rw [hM,hLl,hlen1];have:=hr.lsn;omega
   ·rw [hM,hR,hLl,hlen1,hdisk,hls,hlo, ← hU2]
    rcases hcs with hc | ⟨a,b,c,d⟩
    ·exact .inl hc
    ·exact .inr ⟨a,b,c,d.imp id (fun hz => Ea hA.symm (fun m hm => by have:=DX hm;omega) hz)⟩
def Apt (M : Page) (r : Rec) : Prop:=
 (r.kind = 1 ∧ M.owner ≠ 0 ∧ 0 ≤ r.slot ∧ r.slot ≤ 2 ∧ 0 ≤ r.new ∧ r.new ≤ 9 ∧ r.old = iv M.vals r.slot.toNat) ∨
 (r.kind = 2 ∧ r.slot = -1 ∧ 0 ≤ r.new ∧ r.new ≤ 3 ∧ (M.owner = 0 ↔ r.new ≠ 0) ∧ M.vals = [0,0,0] ∧ r.old = M.owner)
theorem Apt.kind {M : Page} {r : Rec} (h : Apt M r) : r.kind = 1 ∨ r.kind = 2:=by rcases h with h | h;exact .inl h.1;exact .inr h.1
theorem Apt.chg {M : Page} {r : Rec} (h : Apt M r) : Cu r.kind = true:=by rcases h.kind with h | h <;> (rw [h];rfl)
theorem V4 {M : Page} (h : AL M = true) {k : Nat} (hk : k < 3) : 0 ≤ iv M.vals k ∧ iv M.vals k ≤ 9:=by
 rw [Be] at h
 have:=h.2.2.2.2.2 _ (RV (l:=M.vals) (k:=k) (by omega))
 omega
theorem Apt.old {M : Page} {r : Rec} (h : Apt M r) (hM : AL M = true) : 0 ≤ r.old ∧ r.old ≤ (if r.slot = -1 then 3 else 9):=by
 rcases h with h | h
 ·have:=V4 hM (k:=r.slot.toNat) (by omega)
  rw [if_neg (by omega),h.2.2.2.2.2.2]
  exact this
 ·rw [if_pos h.2.1,h.2.2.2.2.2.2]
  rw [Be] at hM
  exact ⟨hM.2.2.1,hM.2.2.2.1⟩
theorem Xn {vs : List Int} {i : Nat} (h : i < vs.length) : vs.set i (iv vs i) = vs:=by
 apply List.ext_getElem?
 intro j
 rw [List.getElem?_set]
 split
 ·rename_i e
  subst e
  simp [iv,List.getD_eq_getElem?_getD,h]
 ·rfl
theorem Apt.page {M R : Page} {r : Rec} {n : Int} (ha : Apt M r) (hM : AL M = true) (hR : AL R = true) (ho : M.owner = R.owner) (h0 : 0 ≤ n) (h1 : n ≤ 150) :
  AL (doR R r n) = true ∧ AL (AV (doR R r n) (Br r 0)) = true ∧ (AV (doR R r n) (Br r 0)).owner = R.owner ∧ (M = R → (AV (doR R r n) (Br r 0)).vals = R.vals):=by
 have hold:=ha.old hM
 have hR':=Be.1 hR
 rcases ha with ⟨_,a1,a2,a3,a4,a5,a6⟩ | ⟨_,a1,a2,a3,a4,a5,a6⟩
 ·rw [if_neg (by omega)] at hold
  have e1 : doR R r n = ⟨n,R.owner,R.vals.set r.slot.toNat r.new⟩:=by rw [doR,AV,if_pos a2]
  have e2 : AV (doR R r n) (Br r 0) = ⟨n,R.owner,R.vals.set r.slot.toNat r.old⟩:=by
   rw [e1,AV,if_pos (show 0 ≤ (Br r 0).slot from a2)]
   show (⟨n,R.owner,(R.vals.set r.slot.toNat r.new).set r.slot.toNat r.old⟩ : Page) = _
   rw [List.set_set]
  have hR0 : R.owner ≠ 0:=by rw [← ho];exact a1
  have hset : ∀ v : Int,0 ≤ v → v ≤ 9 → AL ⟨n,R.owner,R.vals.set r.slot.toNat v⟩ = true:=fun v v0 v9 => by
   rw [Be]
   refine ⟨h0,h1,hR'.2.2.1,hR'.2.2.2.1,by simpa using hR'.2.2.2.2.1,fun x hx => ?_⟩
   rcases Qp hx with hx | rfl
   ·exact hR'.2.2.2.2.2 x hx
   ·exact ⟨v0,v9,fun e => absurd e hR0⟩
  refine ⟨by rw [e1];exact hset _ a4 a5,by rw [e2];exact hset _ hold.1 hold.2,by rw [e2],fun e => ?_⟩
  rw [e2]
  show R.vals.set _ _ = R.vals
  rw [a6,e]
  exact Xn (by omega)
 ·have hs : r.slot < 0:=by omega
  by_cases hn : r.new = 0
  ·have hM0 : M.owner ≠ 0:=fun e => (a4.1 e) hn
   have e1 : doR R r n = ⟨n,0, [0,0,0]⟩:=by rw [doR,Ga hs hn]
   have e2 : AV (doR R r n) (Br r 0) = ⟨n,r.old, [0,0,0]⟩:=by
    rw [e1,AV,if_neg (show ¬ 0 ≤ (Br r 0).slot by simp only [Br];omega),if_neg (show ¬ (Br r 0).new = 0 by simp only [Br];rw [a6];exact hM0)]
    rfl
   have hz : ∀ o : Int,0 ≤ o → o ≤ 3 → AL ⟨n,o, [0,0,0]⟩ = true:=fun o o0 o3 => by
    rw [Be]
    exact ⟨h0,h1,o0,o3,rfl,fun x hx => by simp at hx;rw [hx];simp⟩
   refine ⟨by rw [e1];exact hz 0 (by omega) (by omega),by rw [e2];exact hz _ hold.1 (by rw [if_pos a1] at hold;exact hold.2),by rw [e2,a6,ho],fun e => ?_⟩
   rw [e2, ← e,a5]
  ·have hM0 : M.owner = 0:=a4.2 hn
   have hRz : R.vals = [0,0,0]:=OM hR'.2.2.2.2.1 (fun x hx => (hR'.2.2.2.2.2 x hx).2.2 (by rw [← ho];exact hM0))
   have e1 : doR R r n = ⟨n,r.new, [0,0,0]⟩:=by rw [doR,AV,if_neg (by omega),if_neg hn,hRz]
   have e2 : AV (doR R r n) (Br r 0) = ⟨n,0, [0,0,0]⟩:=by
    rw [Ga (show (Br r 0).slot < 0 from hs) (show (Br r 0).new = 0 by simp only [Br];rw [a6,hM0]),e1]
   have hz : ∀ o : Int,0 ≤ o → o ≤ 3 → AL ⟨n,o, [0,0,0]⟩ = true:=fun o o0 o3 => by
    rw [Be]
    exact ⟨h0,h1,o0,o3,rfl,fun x hx => by simp at hx;rw [hx];simp⟩
   refine ⟨by rw [e1];exact hz _ a2 a3,by rw [e2];exact hz 0 (by omega) (by omega),by rw [e2, ← ho,hM0],fun _ => ?_⟩
   rw [e2,hRz]
theorem Core.Jk {e : Eng} {C : Nat → Page} {B : Nat} (h : Core e C B) : e.log.length ≤ B:=by
 have:=h.room e.log.length (Nat.le_refl _)
 omega
theorem Ou {l : List Rec} {r : Rec} {t : Int} (ht : t = 1 ∨ t = 2 ∨ t = 3) (hr : r.tx = t) (hU : (U (l ++ [r]) t (l.length + 1)).length ≤ (U l t l.length).length + 1) : AR (l ++ [r]) (l.length + 1) ≤ AR l l.length + 2:=by
 have hs:=JL (l:=l ++ [r]) (n:=l.length) (t:=t) (by rw [BK,hr]) ht
 rw [KI,Pt] at hs
 have e1 : cst (l ++ [r]) t (l.length + 1) ≤ (U l t l.length).length + 2:=by
  rw [cst]
  split <;> omega
 have e2 : (U l t l.length).length ≤ cst l t l.length:=by rw [cst];omega
 omega
theorem UpC.more {l : List Rec} {r : Rec} (h : UpC l) (hl : Au (l ++ [r]) = true) (hk : r.kind ≠ 6) : UpC (l ++ [r]):=by
 intro t m hm
 have hA:=Cq l [r]
 have hlen : l.length < (l ++ [r]).length:=by simp
 have hlen1 : (l ++ [r]).length = l.length + 1:=by simp
 have old : ∀ t, ∀ m ∈ Ch (l ++ [r]) t l.length,(rc (l ++ [r]) (m - 1)).kind ≠ 6:=fun t m hm => by
  rw [Ri hA t (Nat.le_refl _)] at hm
  have h1:=Es _ m hm
  have h2:=Bc l t l.length
  rw [LW (by omega)]
  exact h t m hm
 rw [hlen1] at hm
 by_cases e1 : (rc (l ++ [r]) l.length).tx = t
 ·subst e1
  cases he : EK (rc (l ++ [r]) l.length).kind
  ·rw [LG hl hlen he] at hm
   rcases List.mem_cons.1 hm with rfl | hm
   ·rw [Nat.add_sub_cancel,BK];exact hk
   ·exact old _ m hm
  ·rw [Yi rfl he] at hm;cases hm
 ·rw [NS e1] at hm
  exact old t m hm
theorem Inv.chg {e : Eng} {C : Nat → Page} {B : Nat} (h : Inv e C B) (hup : e.down = false) {r : Rec} {p : Nat} (hp : p < 5) (hpg : r.page = p) (ht : r.tx = 1 ∨ r.tx = 2 ∨ r.tx = 3) (ha : Apt (pg e.mem p) r) (hnx : r.next = 0) (hfree : ∀ t,t ≠ r.tx → has e.log t e.log.length p = false) (hB : B + 3 ≤ 150) : Inv (e.app r) C (B + 3):=by
 have hc:=h.core
 have hm:=h.upm hup
 have hMp:=hm p hp
 have hle:=Bc e.log r.tx e.log.length
 have hn:=hc.Jk
 have hold:=ha.old hMp.ok
 have hs1:=hc.s1
 obtain ⟨r',hr'⟩ : ∃ r' : Rec,{ r with prev:=(Ae e.log r.tx e.log.length : Int) } = r':=⟨_,rfl⟩
 have k1 : r'.kind = r.kind:=by rw [← hr']
 have k2 : r'.tx = r.tx:=by rw [← hr']
 have k3 : r'.page = r.page:=by rw [← hr']
 have k4 : r'.slot = r.slot:=by rw [← hr']
 have k5 : r'.old = r.old:=by rw [← hr']
 have k6 : r'.new = r.new:=by rw [← hr']
 have k7 : r'.prev = Ae e.log r.tx e.log.length:=by rw [← hr']
 have k8 : r'.next = r.next:=by rw [← hr']
 have hkind : r'.kind = 1 ∨ r'.kind = 2:=by rw [k1];exact ha.kind
 have hdo : ∀ P n,doR P r' n = doR P r n:=fun P n => by rw [← hr'];rfl
 have hbk : ∀ P,AV P (Br r' 0) = AV P (Br r 0):=fun P => by rw [← hr'];rfl
 have hok : Cv r' = true:=by
  rw [D7,k1,k2,k3,k4,k5,k6,k7,k8]
  rcases ha with ⟨a0,a1,a2,a3,a4,a5,a6⟩ | ⟨a0,a1,a2,a3,a4,a5,a6⟩
  ·rw [if_neg (by omega)] at hold
   omega
  ·rw [if_pos a1] at hold
   omega
 have hl' : Au (e.log ++ [r']) = true:=Jl hc.log hok (by rw [k7,k2]) (by rw [k8,hnx];omega) (.inl (by rw [k8,hnx];omega)) (by omega)
 have hA:=Cq e.log [r']
 have hlen : e.log.length < (e.log ++ [r']).length:=by simp
 have hlen1 : (e.log ++ [r']).length = e.log.length + 1:=by simp
 have hrl : rc (e.log ++ [r']) e.log.length = r':=BK _ _
 have hpr : H7 (e.log ++ [r']) e.log.length:=by
  refine ⟨?_,?_,?_,?_,?_⟩
  all_goals rw [hrl]
  ·rw [k1,k5,k6]
   intro h2 hnew
   rcases ha with ha | ha
   ·omega
   ·rw [ha.2.2.2.2.2.2];exact ha.2.2.2.2.1.2 hnew
  ·intro hk;omega
  ·intro hk;omega
  ·intro he;rw [Eh (by omega)] at he;cases he
  ·intro _ t htn
   rw [k2] at htn
   rw [FJ hA _ _ (Nat.le_refl _),k3,hpg]
   exact hfree t htn
 have hP:=FD hc.prop hpr
 have hUA:=fun q => Sn hl' hP hlen (by rw [hrl];exact hkind) q
 have hroom : e.log.length + 1 + AR (e.log ++ [r']) (e.log.length + 1) ≤ B + 3:=by
  have h1:=hc.room e.log.length (Nat.le_refl _)
  have h2:=Ou (l:=e.log) (r:=r') ht k2 (by
   have:=Tj hl' hlen (by rw [hrl];exact hkind)
   rw [hrl,k2] at this
   rw [this,List.length_cons,H6 hA _ (Nat.le_refl _)];exact Nat.le_refl _)
  omega
 have hch : Cu r'.kind = true:=by rw [k1];exact ha.chg
 have hRok:=fun q (hq : q < 5) => hc.rok (p:=q) hq hs1 (Nat.le_refl _)
 have hap:=ha.page (n:=(e.log.length + 1 : Nat)) hMp.ok (hRok p hp) hMp.owner (by omega) (by omega)
 have hapM:=ha.page (R:=pg e.mem p) (n:=(e.log.length + 1 : Nat)) hMp.ok hMp.ok rfl (by omega) (by omega)
 have hE : e.app r = { e with log:=e.log ++ [r'],mem:=e.mem.set r.page.toNat (doR (pg e.mem r.page.toNat) r (e.log.length + 1 : Nat)) }:=by
  rw [← hr',Eng.app,if_pos ha.chg]
 have hM:=fun q => Kk h.mlen (r:=r) (fun _ => by omega) q
 have hR:=fun q (hq : q < 5) => NK hc r hq
 have hpathR:=fun q (hq : q < 5) => D5 hA.symm (fun m hm => by have:=DX hm;omega) (hc.good e.log.length hs1 (Nat.le_refl _) q hq)
 have hcore : Core { e with log:=e.log ++ [r'] } C (B + 3):=by
  refine Core.snoc hc (by omega) hB hl' hpr (by omega) hroom fun q hq => ?_
  have hrq:=hc.VQ (p:=q) hq hs1
  rw [hUA q,hrl,k3,Gf,k3,Fb hA q (Nat.le_refl _)]
  by_cases e1 : r.page = q
  ·obtain rfl : q = p:=by omega
   rw [if_pos e1,if_pos ⟨hch,e1,by omega⟩,hdo]
   refine ⟨hap.1,?_⟩
   rw [Nat.add_sub_cancel,hrl,hbk]
   rcases hMp.alt with hal | hal
   ·have hv:=hap.2.2.2 hal
    have ho:=hap.2.2.1
    have hpx:=Jj (k:=(e.log.length + 1 : Nat)) (by omega) (by omega) (hpathR q hq)
    rw [← ho, ← hv] at hpx
    have hls : (AV (doR (Bh (pg e.disk q) e.log q e.log.length) r (e.log.length + 1 : Nat)) (Br r 0)).lsn = (e.log.length + 1 : Nat):=by rw [K4];rfl
    rw [show AV (doR (Bh (pg e.disk q) e.log q e.log.length) r (e.log.length + 1 : Nat)) (Br r 0) = ⟨(e.log.length + 1 : Nat),_,_⟩ from Qg hls rfl rfl]
    exact hpx
   ·exact JJ (fun m hm => by rw [LW (by have:=DX hm;omega)];exact Tk hc.log (Nat.le_refl _) m hm) (Ea hA.symm (fun m hm => by have:=DX hm;omega) hal) hap.2.1 hap.2.2.1 (hpathR q hq)
  ·rw [if_neg e1,if_neg (fun hx => e1 hx.2.1)]
   exact hpathR q hq
 refine ⟨?_,by rw [LB];exact h.mlen,fun hd => ?_,fun _ => ?_,fun _ q hq => ?_⟩
 ·rw [hE]
  exact hcore.mem _ _
 ·rw [hE] at hd
  rw [show e.down = true from hd] at hup;cases hup
 ·rw [hE]
  exact (h.upc hup).more hl' (by omega)
 ·have hMq:=hm q hq
  have hls : lds (e.log ++ [r']) (e.log.length + 1) q = lds e.log e.log.length q:=by
   rw [Nt hl' hlen (by rw [hrl];exact Eh (by omega)) (by rw [hrl];omega),J8 hA q (Nat.le_refl _)]
  have hd:=hc.JU q hq
  have hLl : (e.app r).log = e.log ++ [r']:=by rw [hE]
  have hdk : (e.app r).disk = e.disk:=rfl
  have hMx:=hM q
  have hRx:=hR q hq
  have hUq:=hUA q
  rw [hrl,k3,Fb hA q (Nat.le_refl _)] at hUq
  by_cases e1 : r.page = q
  ·obtain rfl : q = p:=by omega
   rw [if_pos ⟨ha.chg,e1⟩] at hMx hRx
   rw [if_pos e1] at hUq
   refine ⟨by rw [hMx];exact hapM.1,?_,?_,?_⟩
   ·rw [hMx,hRx,EU,EU]
    exact Im _ hMq.owner
   ·rw [hMx,hLl,hlen1];exact Int.le_refl _
   ·rw [hLl,hlen1,hls,hdk]
    rcases hMq.cases with hx | ⟨a,b,c,d⟩
    ·exact .inl ⟨hx.1,by rw [hMx,hRx,hx.2]⟩
    ·refine .inr ⟨a,?_, .inl ?_,?_⟩
     ·rw [hMx,KN (by rw [hrl,k3];exact ⟨e1, .inl hch⟩)];rfl
     ·rw [hMx];show _ < ((e.log.length + 1 : Nat) : Int);omega
     ·rcases d with d | d
      ·exact .inl (by rw [hMx,hRx,d])
      ·right
       rw [hUq]
       obtain ⟨x,hx,h1,h2⟩:=Ea hA.symm (fun m hm => by have:=DX hm;omega) d
       exact ⟨x,List.mem_cons_of_mem _ hx,h1,h2⟩
  ·rw [if_neg (fun hx => e1 hx.2)] at hMx hRx
   rw [if_neg e1] at hUq
   refine ⟨by rw [hMx];exact hMq.ok,by rw [hMx,hRx];exact hMq.owner,?_,?_⟩
   ·rw [hMx,hLl,hlen1];have:=hMq.lsn;omega
   ·rw [hMx,hRx,hLl,hlen1,hls,hdk,hUq,Gt (by rw [hrl,k3];exact fun hx => e1 hx.1),Eo _ hA]
    rcases hMq.cases with hx | ⟨a,b,c,d⟩
    ·exact .inl hx
    ·exact .inr ⟨a,b,c,d.imp id (fun hz => Ea hA.symm (fun m hm => by have:=DX hm;omega) hz)⟩
theorem OT {l : List Rec} (hl : Au l = true) (n : Nat) : n ≤ l.length → (∀ m ∈ BO l n,(rc l (m - 1)).kind ≠ 6) → ∀ m ∈ BO l n,(rc l (m - 1)).kind = 1 ∨ (rc l (m - 1)).kind = 2 → m ∈ CW l n:=by
 induction n using Nat.strongRecOn with
 | _ n ih =>
  intro hn h6 m hm hk
  match n with
  | 0 => rw [C9] at hm;cases hm
  | n + 1 =>
   have FF:=Ag hl (k:=n) (by omega)
   have hp:=FF.prev_le
   rw [Dk hp] at hm h6
   have ih':=ih (Bu l (n + 1)) (by omega) (by omega) (fun x hx => h6 x (List.mem_cons_of_mem _ hx)) m
   have hk6 : (rc l n).kind ≠ 6:=by have:=h6 (n + 1) (by simp);simpa using this
   by_cases hk1 : (rc l n).kind = 1 ∨ (rc l n).kind = 2
   ·rw [JF hk1 hp]
    rcases List.mem_cons.1 hm with rfl | hm
    ·simp
    ·exact List.mem_cons_of_mem _ (ih' hm hk)
   ·rw [K6 (by omega) (by omega) hk6 hp]
    rcases List.mem_cons.1 hm with rfl | hm
    ·rw [Nat.add_sub_cancel] at hk;exact absurd hk hk1
    ·exact ih' hm hk
theorem JN {l : List Rec} {p : Int} : ∀ {n k : Nat},k < n → AO l p n < k + 1 → ¬ ((rc l k).page = p ∧ (Cu (rc l k).kind = true ∨ (rc l k).kind = 3))
 | 0,k,hk,_ => by omega
 | n + 1,k,hk,h => by
  rw [AO] at h
  split at h
  ·omega
  ·rename_i hc
   rcases Nat.eq_or_lt_of_le (Nat.le_of_lt_succ hk) with rfl | hlt
   ·exact hc
   ·exact JN hlt h
theorem PL.calm {e : Eng} {p : Nat} (h : PL e p) : ∀ k,k < e.log.length → (pg e.mem p).lsn < (k + 1 : Nat) → ¬ Td e.log p k:=by
 intro k hk hlt
 rcases h.cases with ⟨_,h2⟩ | ⟨_,h2,_⟩
 ·rw [h2] at hlt
  exact Nk hk hlt
 ·intro hc
  exact JN (p:=(p : Int)) hk (by omega) ⟨hc.2, .inl hc.1⟩
theorem Inv.load {e : Eng} {C : Nat → Page} {B : Nat} (h : Inv e C B) (hup : e.down = false) {tx : Int} {p : Nat} {vals : List Int} (hp : p < 5) (ht : tx = 1 ∨ tx = 2 ∨ tx = 3) (ho : (pg e.mem p).owner ≠ 0) (hv : vals.length = 3 ∧ ∀ x ∈ vals,0 ≤ x ∧ x ≤ 9) (hfree : ∀ t,t ≠ tx → has e.log t e.log.length p = false)
  (htook : ∃ m ∈ Ch e.log tx e.log.length,(rc e.log (m - 1)).kind = 2 ∧ (rc e.log (m - 1)).page = p ∧ (rc e.log (m - 1)).new ≠ 0) (hB : B + 3 ≤ 150) :
  Inv { e with log:=e.log ++ [⟨3,tx,p,0,0,0,Ae e.log tx e.log.length,0⟩],mem:=e.mem.set p ⟨(e.log.length + 1 : Nat),(pg e.mem p).owner,vals⟩ } C (B + 3):=by
 have hc:=h.core
 have hm:=h.upm hup
 have hle:=Bc e.log tx e.log.length
 have hn:=hc.Jk
 have hs1:=hc.s1
 obtain ⟨r',hr'⟩ : ∃ r' : Rec,(⟨3,tx,p,0,0,0,Ae e.log tx e.log.length,0⟩ : Rec) = r':=⟨_,rfl⟩
 rw [hr']
 have k1 : r'.kind = 3:=by rw [← hr']
 have k2 : r'.tx = tx:=by rw [← hr']
 have k3 : r'.page = p:=by rw [← hr']
 have hok : Cv r' = true:=by
  rw [← hr',D7]
  exact ⟨.inr (.inr (.inl ⟨rfl,(by show (0 : Int) ≤ (p : Int);omega),(by show (p : Int) ≤ 4;omega),rfl,rfl,rfl,rfl⟩)),(by show 1 ≤ tx;omega),(by show tx ≤ 3;omega),(by show (0 : Int) ≤ (Ae e.log tx e.log.length : Int);omega),(by show (Ae e.log tx e.log.length : Int) ≤ 150;omega)⟩
 have hl' : Au (e.log ++ [r']) = true:=Jl hc.log hok (by rw [← hr']) (by rw [← hr'];simp) (.inl (by rw [← hr'];exact Int.le_refl _)) (by omega)
 have hA:=Cq e.log [r']
 have hlen : e.log.length < (e.log ++ [r']).length:=by simp
 have hlen1 : (e.log ++ [r']).length = e.log.length + 1:=by simp
 have hrl : rc (e.log ++ [r']) e.log.length = r':=BK _ _
 have hpr : H7 (e.log ++ [r']) e.log.length:=by
  refine ⟨?_,?_,?_,?_,?_⟩
  all_goals rw [hrl]
  ·intro hk;omega
  ·intro hk;omega
  ·intro hk;omega
  ·intro he;rw [Eh (by omega)] at he;cases he
  ·intro _ t htn
   rw [k2] at htn
   rw [FJ hA _ _ (Nat.le_refl _),k3]
   exact hfree t htn
 have hP:=FD hc.prop hpr
 have hUA:=fun q => Tm hl' hlen (by rw [hrl];exact k1) q
 have hUA' : ∀ q,UA (e.log ++ [r']) (e.log.length + 1) q = UA e.log e.log.length q:=fun q => by rw [hUA q,Fb hA q (Nat.le_refl _)]
 have hroom : e.log.length + 1 + AR (e.log ++ [r']) (e.log.length + 1) ≤ B + 3:=by
  have h1:=hc.room e.log.length (Nat.le_refl _)
  have h2:=Ou (l:=e.log) (r:=r') ht k2 (by
   have:=Sm hl' hlen (by rw [hrl];exact k1)
   rw [hrl,k2] at this
   rw [this,H6 hA _ (Nat.le_refl _)];omega)
  omega
 have hno : ∀ q : Nat, ¬ (Cu r'.kind = true ∧ r'.page = (q : Int) ∧ (Bh (pg e.disk q) e.log q e.log.length).lsn < (e.log.length + 1 : Nat)):=fun q hx => by rw [k1] at hx;simp [Cu] at hx
 have hrd : ∀ q : Nat,Bh (pg e.disk q) (e.log ++ [r']) q (e.log.length + 1) = Bh (pg e.disk q) e.log q e.log.length:=fun q => by rw [Gf,if_neg (hno q)]
 have hcore : Core { e with log:=e.log ++ [r'] } C (B + 3):=by
  refine Core.snoc hc (by omega) hB hl' hpr (by omega) hroom fun q hq => ?_
  rw [hUA',hrd]
  exact D5 hA.symm (fun m hm => by have:=DX hm;omega) (hc.good e.log.length hs1 (Nat.le_refl _) q hq)
 refine ⟨hcore.mem _ _,by simpa using h.mlen,fun hd => ?_,fun _ => (h.upc hup).more hl' (by omega),fun _ q hq => ?_⟩
 ·rw [show e.down = true from hd] at hup;cases hup
 ·have hMq:=hm q hq
  have hd:=hc.JU q hq
  have hRx : Du ({ e with log:=e.log ++ [r'],mem:=e.mem.set p ⟨(e.log.length + 1 : Nat),(pg e.mem p).owner,vals⟩ } : Eng) q = Du e q:=by
   show Bh (pg e.disk q) (e.log ++ [r']) q (e.log ++ [r']).length = _
   rw [hlen1,hrd];rfl
  have hMx : pg (e.mem.set p ⟨(e.log.length + 1 : Nat),(pg e.mem p).owner,vals⟩) q = if p = q then ⟨(e.log.length + 1 : Nat),(pg e.mem p).owner,vals⟩ else pg e.mem q:=Eu (by rw [h.mlen];exact hp)
  by_cases e1 : p = q
  ·subst e1
   rw [if_pos rfl] at hMx
   have hMo:=Be.1 hMq.ok
   have hls : lds (e.log ++ [r']) (e.log.length + 1) p = true:=by
    rw [Lj]
    refine ⟨tx,ht,?_⟩
    have:=SN hl' hlen (by rw [hrl];exact Eh (by omega)) p
    rw [hrl,k2] at this
    rw [this,k1,k3]
    simp
   refine ⟨?_,?_,?_, .inr ⟨?_,?_, .inl ?_, .inr ?_⟩⟩
   ·show AL (pg (e.mem.set p _) p) = true
    rw [hMx,Be]
    exact ⟨by show (0 : Int) ≤ ((e.log.length + 1 : Nat) : Int);omega,by show ((e.log.length + 1 : Nat) : Int) ≤ 150;omega,hMo.2.2.1,hMo.2.2.2.1,hv.1,fun x hx => ⟨(hv.2 x hx).1,(hv.2 x hx).2,fun e => absurd e ho⟩⟩
   ·rw [hRx]
    show (pg (e.mem.set p _) p).owner = _
    rw [hMx]
    exact hMq.owner
   ·show (pg (e.mem.set p _) p).lsn ≤ ((e.log ++ [r']).length : Int)
    rw [hMx,hlen1]
    exact Int.le_refl _
   ·show lds (e.log ++ [r']) (e.log ++ [r']).length p = true
    rw [hlen1];exact hls
   ·show (pg (e.mem.set p _) p).lsn = (AO (e.log ++ [r']) p (e.log ++ [r']).length : Int)
    rw [hMx,hlen1,KN (by rw [hrl];exact ⟨k3, .inr k1⟩)]
   ·show (pg e.disk p).lsn < (pg (e.mem.set p _) p).lsn
    rw [hMx]
    show _ < ((e.log.length + 1 : Nat) : Int)
    omega
   ·show Pq (e.log ++ [r']) (UA (e.log ++ [r']) (e.log ++ [r']).length p)
    rw [hlen1,hUA']
    refine Ea hA.symm (fun m hm => by have:=DX hm;omega) ?_
    obtain ⟨m,h1,h2,h3,h4⟩:=htook
    have hmU : m ∈ U e.log tx e.log.length:=OT hc.log _ hle (fun x hx => h.upc hup tx x hx) m h1 (.inr h2)
    have hmb:=MG hmU
    have hrec:=(Ag hc.log (k:=m - 1) (by omega)).ok
    have hprop:=(hc.prop (m - 1) (by omega)).own h2 h4
    rw [D7] at hrec
    refine ⟨m,?_,by omega,hprop⟩
    rw [KT hc.log hc.prop (Nat.le_refl _) ht hfree,F,List.mem_filter]
    exact ⟨hmU,by simpa using h3⟩
  ·rw [if_neg e1] at hMx
   have hls : lds (e.log ++ [r']) (e.log.length + 1) q = lds e.log e.log.length q:=by
    rw [Nt hl' hlen (by rw [hrl];exact Eh (by omega)) (by rw [hrl,k3];omega),J8 hA q (Nat.le_refl _)]
   have hlo : AO (e.log ++ [r']) q (e.log.length + 1) = AO e.log q e.log.length:=by
    rw [Gt (by rw [hrl,k3];omega),Eo _ hA]
   refine ⟨?_,?_,?_,?_⟩
   ·show AL (pg (e.mem.set p _) q) = true
    rw [hMx];exact hMq.ok
   ·rw [hRx]
    show (pg (e.mem.set p _) q).owner = _
    rw [hMx];exact hMq.owner
   ·show (pg (e.mem.set p _) q).lsn ≤ ((e.log ++ [r']).length : Int)
    rw [hMx,hlen1];have:=hMq.lsn;omega
   ·rw [hRx]
    show (lds (e.log ++ [r']) (e.log ++ [r']).length q = false ∧ pg (e.mem.set p _) q = Du e q) ∨ (lds (e.log ++ [r']) (e.log ++ [r']).length q = true ∧ (pg (e.mem.set p _) q).lsn = (AO (e.log ++ [r']) q (e.log ++ [r']).length : Int) ∧ ((pg e.disk q).lsn < (pg (e.mem.set p _) q).lsn ∨ pg (e.mem.set p _) q = pg e.disk q) ∧ (pg (e.mem.set p _) q = Du e q ∨ Pq (e.log ++ [r']) (UA (e.log ++ [r']) (e.log ++ [r']).length q)))
    rw [hMx,hlen1,hls,hlo,hUA']
    rcases hMq.cases with hx | ⟨a,b,c,d⟩
    ·exact .inl hx
    ·exact .inr ⟨a,b,c,d.imp id (fun hz => Ea hA.symm (fun m hm => by have:=DX hm;omega) hz)⟩
def G7 (e : Eng) (tx : Int) : List Page:=(List.range 5).map fun p : Nat => if ld e.log tx e.log.length p = true then pg e.mem p else pg e.disk p
theorem JI (e : Eng) (tx : Int) {p : Nat} (hp : p < 5) : pg (G7 e tx) p = if ld e.log tx e.log.length p = true then pg e.mem p else pg e.disk p:=by
 simp [pg,G7,List.getD_eq_getElem?_getD,hp]
def Ib (e : Eng) (tx : Int) : Eng:={ e with disk:=G7 e tx,log:=e.log ++ [⟨4,tx,0,0,0,0,Ae e.log tx e.log.length,0⟩],safe:=(e.log.length + 1 : Nat) }
def N9 (e : Eng) (tx : Int) (C : Nat → Page) (p : Nat) : Page:=if has e.log tx e.log.length p = true then ⟨0,(pg e.mem p).owner,(pg e.mem p).vals⟩ else C p
theorem Inv.WU {e : Eng} {C : Nat → Page} {B : Nat} (h : Inv e C B) (hup : e.down = false) {tx : Int} (ht : tx = 1 ∨ tx = 2 ∨ tx = 3) (hlast : lastT e tx ≠ 0) : Inv (Ib e tx) (N9 e tx C) B:=by
 have hc:=h.core
 have hm:=h.upm hup
 have hle:=Bc e.log tx e.log.length
 have h150:=hc.one ht hlast
 have hs0:=hc.s0
 have hs1:=hc.s1
 obtain ⟨r',hr'⟩ : ∃ r' : Rec,(⟨4,tx,0,0,0,0,Ae e.log tx e.log.length,0⟩ : Rec) = r':=⟨_,rfl⟩
 unfold Ib
 rw [hr']
 have k1 : r'.kind = 4:=by rw [← hr']
 have k2 : r'.tx = tx:=by rw [← hr']
 have hok : Cv r' = true:=by
  rw [← hr',D7]
  exact ⟨.inr (.inr (.inr (.inl ⟨.inl rfl,rfl,rfl,rfl,rfl,rfl⟩))),(by show 1 ≤ tx;omega),(by show tx ≤ 3;omega),(by show (0 : Int) ≤ (Ae e.log tx e.log.length : Int);omega),(by show (Ae e.log tx e.log.length : Int) ≤ 150;omega)⟩
 have hl' : Au (e.log ++ [r']) = true:=Jl hc.log hok (by rw [← hr']) (by rw [← hr'];simp) (.inl (by rw [← hr'];exact Int.le_refl _)) h150
 have hA:=Cq e.log [r']
 have hlen : e.log.length < (e.log ++ [r']).length:=by simp
 have hlen1 : (e.log ++ [r']).length = e.log.length + 1:=by simp
 have hrl : rc (e.log ++ [r']) e.log.length = r':=BK _ _
 have hend : EK (rc (e.log ++ [r']) e.log.length).kind = true:=by rw [hrl,k1];rfl
 have htx : (rc (e.log ++ [r']) e.log.length).tx = tx:=by rw [hrl,k2]
 have hpr : H7 (e.log ++ [r']) e.log.length:=by
  refine ⟨?_,?_,?_,?_,?_⟩
  all_goals rw [hrl]
  ·intro hk;omega
  ·intro hk;omega
  ·intro hk;omega
  ·intro _;rw [k2,CF tx hA];exact Nat.pos_of_ne_zero hlast
  ·intro hk;omega
 have hP:=FD hc.prop hpr
 have hUA : ∀ q,UA (e.log ++ [r']) (e.log.length + 1) q = if has e.log tx e.log.length q = true then [] else UA e.log e.log.length q:=fun q => by
  rw [Wx hl' hP hlen (by rw [hrl];exact k1),htx,FJ hA _ _ (Nat.le_refl _),Fb hA q (Nat.le_refl _)]
 have hroom : e.log.length + 1 + AR (e.log ++ [r']) (e.log.length + 1) ≤ B:=by
  have h1:=hc.room e.log.length (Nat.le_refl _)
  have hs:=JL (l:=e.log ++ [r']) (n:=e.log.length) (t:=tx) htx ht
  rw [KI,Pt] at hs
  have e1 : cst (e.log ++ [r']) tx (e.log.length + 1) = 0:=by rw [cst,OI htx hend,Ja htx hend];rfl
  have e2 : 1 ≤ cst e.log tx e.log.length:=by rw [cst,if_neg hlast];omega
  omega
 have hoth : ∀ q,has e.log tx e.log.length q = true → lds (e.log ++ [r']) (e.log.length + 1) q = false:=fun q hq => by
  rw [Bool.eq_false_iff]
  intro hl
  obtain ⟨t,_,hlt⟩:=Lj.1 hl
  by_cases e1 : tx = t
  ·subst e1
   rw [RJ htx hend] at hlt;cases hlt
  ·rw [Ll (by rw [htx];exact e1),I7 hA _ _ (Nat.le_refl _)] at hlt
   have:=FP hc.log hc.prop _ (Nat.le_refl _) _ _ _ e1 hq
   rw [M6 hlt] at this;cases this
 have hrd : ∀ (P : Page) (q : Nat),Bh P (e.log ++ [r']) q (e.log.length + 1) = Bh P e.log q e.log.length:=fun P q => by
  rw [Gf,if_neg]
  intro hx
  rw [k1] at hx
  simp [Cu] at hx
 have hRed : ∀ q : Nat,q < 5 → has e.log tx e.log.length q = true → Bh (pg (G7 e tx) q) e.log q e.log.length = pg e.mem q:=fun q hq hhas => by
  rw [JI e tx hq]
  split
  ·exact Jg (hm q hq).calm
  ·rename_i hld
   rcases (hm q hq).cases with hx | ⟨a,_⟩
   ·exact hx.2.symm
   ·obtain ⟨t,_,hlt⟩:=Lj.1 a
    by_cases e1 : tx = t
    ·subst e1;exact absurd hlt hld
    ·have:=FP hc.log hc.prop _ (Nat.le_refl _) _ _ _ e1 hhas
     rw [M6 hlt] at this;cases this
 have hRed' : ∀ q : Nat,q < 5 → has e.log tx e.log.length q = false → pg (G7 e tx) q = pg e.disk q:=fun q hq hhas => by
  rw [JI e tx hq,if_neg]
  intro hld
  rw [M6 hld] at hhas;cases hhas
 have hcore : Core ({ e with disk:=G7 e tx,log:=e.log ++ [r'],safe:=(e.log.length + 1 : Nat) } : Eng) (N9 e tx C) B:=by
  refine ⟨by simp [G7],fun q hq => ?_,hl',hP,by show (0 : Int) ≤ ((e.log.length + 1 : Nat) : Int);omega,by show ((e.log.length + 1 : Nat) : Int) ≤ ((e.log ++ [r']).length : Int);rw [hlen1];exact Int.le_refl _,hc.b150,fun n hn => ?_,fun k hk _ => ?_,fun q hq => ?_,fun n hs hn q hq => ?_⟩
  ·show AL (pg (G7 e tx) q) = true
   rw [JI e tx hq]
   split
   ·exact (hm q hq).ok
   ·exact hc.dok q hq
  ·have hn : n ≤ (e.log ++ [r']).length:=hn
   show n + AR (e.log ++ [r']) n ≤ B
   rw [hlen1] at hn
   rcases Nat.lt_or_ge e.log.length n with hlt | hge
   ·obtain rfl : n = e.log.length + 1:=by omega
    exact hroom
   ·rw [ER hA hge]
    exact hc.room n hge
  ·have hk : k < (e.log ++ [r']).length:=hk
   rw [hlen1] at hk
   show ((k + 1 : Nat) : Int) ≤ ((e.log.length + 1 : Nat) : Int)
   omega
  ·show (pg (G7 e tx) q).lsn ≤ ((e.log.length + 1 : Nat) : Int)
   have h1:=hc.JU q hq
   have h2:=(hm q hq).lsn
   rw [JI e tx hq]
   split <;> omega
  ·have hs : ((e.log.length + 1 : Nat) : Int) ≤ n:=hs
   have hn : n ≤ (e.log ++ [r']).length:=hn
   rw [hlen1] at hn
   obtain rfl : n = e.log.length + 1:=by omega
   show EH (e.log ++ [r']) (N9 e tx C q) (UA (e.log ++ [r']) (e.log.length + 1) q) (Bh (pg (G7 e tx) q) (e.log ++ [r']) q (e.log.length + 1))
   rw [hUA,hrd]
   unfold N9
   cases hhas : has e.log tx e.log.length q
   ·rw [if_neg (by simp),if_neg (by simp),hRed' q hq hhas]
    exact D5 hA.symm (fun m hm => by have:=DX hm;omega) (hc.good e.log.length hs1 (Nat.le_refl _) q hq)
   ·rw [if_pos rfl,if_pos rfl,hRed q hq hhas]
    exact ⟨(hm q hq).ok,rfl,rfl⟩
 refine ⟨hcore,h.mlen,fun hd => ?_,fun _ => (h.upc hup).more hl' (by omega),fun _ q hq => ?_⟩
 ·rw [show e.down = true from hd] at hup;cases hup
 ·have hMq:=hm q hq
  have hRx : Du ({ e with disk:=G7 e tx,log:=e.log ++ [r'],safe:=(e.log.length + 1 : Nat) } : Eng) q = Bh (pg (G7 e tx) q) e.log q e.log.length:=by
   show Bh (pg (G7 e tx) q) (e.log ++ [r']) q (e.log ++ [r']).length = _
   rw [hlen1,hrd]
  cases hhas : has e.log tx e.log.length q
  ·have hdq:=hRed' q hq hhas
   have hRe : Bh (pg (G7 e tx) q) e.log q e.log.length = Du e q:=by rw [hdq];rfl
   have hls : lds (e.log ++ [r']) (e.log.length + 1) q = lds e.log e.log.length q:=by
    rw [SL hend (by rw [htx,I7 hA _ _ (Nat.le_refl _),Bool.eq_false_iff];intro hld;rw [M6 hld] at hhas;cases hhas),J8 hA q (Nat.le_refl _)]
   have hlo : AO (e.log ++ [r']) q (e.log.length + 1) = AO e.log q e.log.length:=by
    rw [Gt (by rw [hrl,k1];simp [Cu]),Eo _ hA]
   have hUq:=hUA q
   rw [hhas,if_neg (by simp)] at hUq
   refine ⟨hMq.ok,by rw [hRx,hRe];exact hMq.owner,?_,?_⟩
   ·show (pg e.mem q).lsn ≤ ((e.log ++ [r']).length : Int)
    rw [hlen1];have:=hMq.lsn;omega
   ·rw [hRx,hRe]
    show (lds (e.log ++ [r']) (e.log ++ [r']).length q = false ∧ pg e.mem q = Du e q) ∨ (lds (e.log ++ [r']) (e.log ++ [r']).length q = true ∧ (pg e.mem q).lsn = (AO (e.log ++ [r']) q (e.log ++ [r']).length : Int) ∧ ((pg (G7 e tx) q).lsn < (pg e.mem q).lsn ∨ pg e.mem q = pg (G7 e tx) q) ∧ (pg e.mem q = Du e q ∨ Pq (e.log ++ [r']) (UA (e.log ++ [r']) (e.log ++ [r']).length q)))
    rw [hlen1,hls,hlo,hUq,hdq]
    rcases hMq.cases with hx | ⟨a,b,c,d⟩
    ·exact .inl hx
    ·exact .inr ⟨a,b,c,d.imp id (fun hz => Ea hA.symm (fun m hm => by have:=DX hm;omega) hz)⟩
  ·have hRe:=hRed q hq hhas
   refine ⟨hMq.ok,by rw [hRx,hRe],?_, .inl ⟨?_,by rw [hRx,hRe]⟩⟩
   ·show (pg e.mem q).lsn ≤ ((e.log ++ [r']).length : Int)
    rw [hlen1];have:=hMq.lsn;omega
   ·show lds (e.log ++ [r']) (e.log ++ [r']).length q = false
    rw [hlen1];exact hoth q hhas
def Cj (e : Eng) (p : Nat) : Eng:={ e with safe:=max e.safe (pg e.mem p).lsn,disk:=e.disk.set p (pg e.mem p) }
theorem Inv.write {e : Eng} {C : Nat → Page} {B : Nat} (h : Inv e C B) (hup : e.down = false) {p : Nat} (hp : p < 5) : Inv (Cj e p) C B:=by
 have hc:=h.core
 have hm:=h.upm hup
 have hs0:=hc.s0
 have hs1:=hc.s1
 have hpl:=(hm p hp).lsn
 have hD : ∀ q,pg (e.disk.set p (pg e.mem p)) q = if p = q then pg e.mem p else pg e.disk q:=fun q => Eu (by rw [hc.dlen];exact hp)
 have hcalm:=(hm p hp).calm
 have hcore : Core (Cj e p) C B:=by
  refine ⟨by show (e.disk.set p _).length = 5;simpa using hc.dlen,fun q hq => ?_,hc.log,hc.prop,by show 0 ≤ max e.safe _;omega,by show max e.safe (pg e.mem p).lsn ≤ (e.log.length : Int);omega,hc.b150,hc.room,fun k hk h4 => ?_,fun q hq => ?_,fun n hs hn q hq => ?_⟩
  ·show AL (pg (e.disk.set p _) q) = true
   rw [hD]
   split
   ·exact (hm p hp).ok
   ·exact hc.dok q hq
  ·have:=hc.done k hk h4
   show _ ≤ max e.safe _
   omega
  ·show (pg (e.disk.set p _) q).lsn ≤ max e.safe _
   have:=hc.JU q hq
   rw [hD]
   split <;> omega
  ·have hs : max e.safe (pg e.mem p).lsn ≤ n:=hs
   show EH e.log (C q) (UA e.log n q) (Bh (pg (e.disk.set p (pg e.mem p)) q) e.log q n)
   rw [hD]
   split
   ·rename_i e1
    subst e1
    rw [Jg (fun k hk hlt => hcalm k (by have : n ≤ e.log.length:=hn;omega) hlt)]
    have hU : UA e.log e.log.length p = UA e.log n p:=R7 hc.log hc.prop hn (Nat.le_refl _) fun k h1 h2 => ⟨hcalm k h2 (by omega),fun h4 => by have:=hc.done k h2 h4;omega⟩
    rw [← hU]
    exact hc.P5 hp (hm p hp).ok (hm p hp).owner (hm p hp).alt
   ·exact hc.good n (by omega) hn q hq
 refine ⟨hcore,h.mlen,fun hd => ?_,h.upc,fun _ q hq => ?_⟩
 ·rw [show e.down = true from hd] at hup;cases hup
 ·have hMq:=hm q hq
  by_cases e1 : p = q
  ·subst e1
   have hRx : Du (Cj e p) p = pg e.mem p:=by
    show Bh (pg (e.disk.set p (pg e.mem p)) p) e.log p e.log.length = _
    rw [hD,if_pos rfl]
    exact Jg hcalm
   refine ⟨hMq.ok,by rw [hRx];rfl,hMq.lsn,?_⟩
   rw [hRx]
   rcases hMq.cases with hx | ⟨a,b,c,d⟩
   ·exact .inl ⟨hx.1,rfl⟩
   ·exact .inr ⟨a,b, .inr (by show _ = pg (e.disk.set p _) p;rw [hD,if_pos rfl];rfl), .inl rfl⟩
  ·have hdq : pg (Cj e p).disk q = pg e.disk q:=by
    show pg (e.disk.set p _) q = _
    rw [hD,if_neg e1]
   have hRx : Du (Cj e p) q = Du e q:=by
    show Bh (pg (Cj e p).disk q) e.log q e.log.length = _
    rw [hdq];rfl
   refine ⟨hMq.ok,by rw [hRx];exact hMq.owner,hMq.lsn,?_⟩
   rw [hRx,hdq]
   exact hMq.cases
def DV (e : Eng) : Eng:={ e with safe:=e.log.length }
theorem Inv.force {e : Eng} {C : Nat → Page} {B : Nat} (h : Inv e C B) (hup : e.down = false) : Inv (DV e) C B:=by
 have hc:=h.core
 have hs0:=hc.s0
 have hs1:=hc.s1
 refine ⟨⟨hc.dlen,hc.dok,hc.log,hc.prop,by show (0 : Int) ≤ (e.log.length : Int);omega,Int.le_refl _,hc.b150,hc.room,fun k hk h4 => ?_,fun q hq => ?_,fun n hs hn q hq => ?_⟩,h.mlen,fun hd => ?_,h.upc,fun hd q hq => ?_⟩
 ·have:=hc.done k hk h4
  show _ ≤ (e.log.length : Int)
  omega
 ·have:=hc.JU q hq
  show (pg e.disk q).lsn ≤ (e.log.length : Int)
  omega
 ·have hs : (e.log.length : Int) ≤ n:=hs
  exact hc.good n (by omega) hn q hq
 ·rw [show e.down = true from hd] at hup;cases hup
 ·have hMq:=h.upm hup q hq
  exact ⟨hMq.ok,hMq.owner,hMq.lsn,hMq.cases⟩
def Dj (e : Eng) (left : Int) : Nat:=(max e.safe (min left e.log.length)).toNat
def BL (e : Eng) (left : Int) : Eng:={ e with mem:=e.disk,log:=e.log.take (Dj e left),down:=true }
theorem Core.take {e : Eng} {C : Nat → Page} {B : Nat} (h : Core e C B) {n : Nat} (h1 : e.safe ≤ n) (h2 : n ≤ e.log.length) : Core { e with log:=e.log.take n } C B:=by
 have hA:=FB e.log n
 have hl : (e.log.take n).length = n:=by rw [List.length_take];omega
 refine ⟨h.dlen,h.dok,Fv h.log n,Qc h.prop n,h.s0,by show e.safe ≤ ((e.log.take n).length : Int);rw [hl];exact h1,h.b150,fun k hk => ?_,fun k hk h4 => ?_,h.JU,fun k hs hk q hq => ?_⟩
 ·have hk : k ≤ (e.log.take n).length:=hk
  show k + AR (e.log.take n) k ≤ B
  rw [ER hA (by omega)]
  exact h.room k (by omega)
 ·have hk : k < (e.log.take n).length:=hk
  have h4 : (rc (e.log.take n) k).kind = 4:=h4
  rw [hA k (by omega)] at h4
  exact h.done k (by omega) h4
 ·have hk : k ≤ (e.log.take n).length:=hk
  show EH (e.log.take n) (C q) (UA (e.log.take n) k q) (Bh (pg e.disk q) (e.log.take n) q k)
  rw [Fb hA q (by omega),EF _ q (hA.le (by omega))]
  exact D5 hA.symm (fun m hm => by have:=DX hm;omega) (h.good k hs (by omega) q hq)
theorem Gw {e : Eng} {left : Int} (h0 : 0 ≤ e.safe) (h1 : e.safe ≤ e.log.length) : e.safe ≤ Dj e left ∧ Dj e left ≤ e.log.length:=by
 unfold Dj
 omega
theorem Inv.fall {e : Eng} {C : Nat → Page} {B : Nat} (h : Inv e C B) (left : Int) : Inv (BL e left) C B:=by
 have hl:=Gw (left:=left) h.core.s0 h.core.s1
 exact ⟨(h.core.take hl.1 hl.2).mem _ _,h.core.dlen,fun _ => rfl,fun hd => (by cases hd),fun hd => (by cases hd)⟩
def Mh (tx : Int) : Nat → Eng → Eng
 | 0,e => e
 | k + 1,e => Mh tx k (AY e tx)
def GN (e : Eng) (tx : Int) : Eng:=if lastT e tx = 0 then e else Mh tx ((U e.log tx e.log.length).length + 1) e
structure EL (e : Eng) (C : Nat → Page) (B : Nat) (tx : Int) : Prop where
 core : Core e C B
 mlen : e.mem.length = 5
 up : e.down = false
 oth : ∀ t,t ≠ tx → ∀ m ∈ Ch e.log t e.log.length,(rc e.log (m - 1)).kind ≠ 6
 upm : ∀ p,p < 5 → PL e p
theorem IX (e : Eng) (tx : Int) : (AY e tx).log.length = e.log.length + 1:=by rw [Gd];simp
theorem Core.Q5 {e : Eng} {C : Nat → Page} {B : Nat} (h : Core e C B) {tx : Int} (ht : tx = 1 ∨ tx = 2 ∨ tx = 3) (hlast : lastT e tx ≠ 0) :
  U (AY e tx).log tx (AY e tx).log.length = (U e.log tx e.log.length).tail ∧ (∀ t,t ≠ tx → U (AY e tx).log t (AY e tx).log.length = U e.log t e.log.length ∧ lastT (AY e tx) t = lastT e t) ∧ (lastT (AY e tx) tx = if U e.log tx e.log.length = [] then 0 else e.log.length + 1) ∧ AR (AY e tx).log (AY e tx).log.length + 1 = AR e.log e.log.length:=by
 have h1:=h.one ht hlast
 have hk:=EP (e:=e) h.log tx
 have hn:=hk.next h.log (by omega) h1
 have hd:=hk.need h.log ht h1 hlast
 unfold lastT
 rw [IX,Gd]
 exact ⟨hn.1,hn.2.1,hn.2.2,hd⟩
theorem Core.Xl {e : Eng} {C : Nat → Page} {B : Nat} (h : Core e C B) {tx t : Int} (hne : t ≠ tx) : Ch (AY e tx).log t (AY e tx).log.length = Ch e.log t e.log.length:=by
 have hk:=EP (e:=e) h.log tx
 rw [IX,Gd,NS (by rw [BK,hk.tx];exact Ne.symm hne),Ri (Cq _ _) t (Nat.le_refl _)]
theorem EL.step {e : Eng} {C : Nat → Page} {B : Nat} {tx : Int} (h : EL e C B tx) (ht : tx = 1 ∨ tx = 2 ∨ tx = 3) (hlast : lastT e tx ≠ 0) : EL (AY e tx) C B tx:=by
 refine ⟨h.core.step ht hlast,by unfold AY;rw [LB];exact h.mlen,h.up,fun t hne m hm => ?_,fun p hp => (h.upm p hp).step h.core h.mlen ht hlast hp⟩
 rw [h.core.Xl hne] at hm
 have h1:=Es _ m hm
 have h2:=Bc e.log t e.log.length
 rw [Gd,LW (by omega)]
 exact h.oth t hne m hm
theorem EL.all {C : Nat → Page} {B : Nat} {tx : Int} (ht : tx = 1 ∨ tx = 2 ∨ tx = 3) : ∀ (k : Nat) (e : Eng),EL e C B tx → lastT e tx ≠ 0 → (U e.log tx e.log.length).length = k → EL (Mh tx (k + 1) e) C B tx ∧ lastT (Mh tx (k + 1) e) tx = 0
 | 0,e,h,hlast,hk => by
  have hs:=h.core.Q5 ht hlast
  have h0:=List.eq_nil_of_length_eq_zero hk
  refine ⟨h.step ht hlast,?_⟩
  show lastT (AY e tx) tx = 0
  rw [hs.2.2.1,if_pos h0]
 | k + 1,e,h,hlast,hk => by
  have hs:=h.core.Q5 ht hlast
  have hne : U e.log tx e.log.length ≠ []:=fun h0 => by rw [h0] at hk;cases hk
  exact EL.all ht k (AY e tx) (h.step ht hlast) (by rw [hs.2.2.1,if_neg hne];omega) (by rw [hs.1,List.length_tail,hk];omega)
theorem MR {e : Eng} {t : Int} (h : lastT e t = 0) : Ch e.log t e.log.length = []:=by
 rw [Ch,show Ae e.log t e.log.length = 0 from h,C9]
theorem Inv.und {e : Eng} {C : Nat → Page} {B : Nat} (h : Inv e C B) (hup : e.down = false) (tx : Int) : EL e C B tx:=⟨h.core,h.mlen,hup,fun t _ => h.upc hup t,h.upm hup⟩
theorem EL.inv {e : Eng} {C : Nat → Page} {B : Nat} {tx : Int} (h : EL e C B tx) (h0 : lastT e tx = 0) : Inv e C B:=by
 refine ⟨h.core,h.mlen,fun hd => ?_,fun _ t m hm => ?_,fun _ => h.upm⟩
 ·rw [h.up] at hd;cases hd
 ·by_cases e1 : t = tx
  ·subst e1
   rw [MR h0] at hm;cases hm
  ·exact h.oth t e1 m hm
theorem Inv.JC {e : Eng} {C : Nat → Page} {B : Nat} (h : Inv e C B) (hup : e.down = false) {tx : Int} (ht : tx = 1 ∨ tx = 2 ∨ tx = 3) : Inv (GN e tx) C B ∧ lastT (GN e tx) tx = 0 ∧ (GN e tx).down = false:=by
 unfold GN
 split
 ·rename_i h0
  exact ⟨h,h0,hup⟩
 ·rename_i h0
  have:=EL.all ht _ e (h.und hup tx) h0 rfl
  exact ⟨this.1.inv this.2,this.2,this.1.up⟩
def Ai (e : Eng) : Int:=if lastT e 1 ≠ 0 then 1 else if lastT e 2 ≠ 0 then 2 else if lastT e 3 ≠ 0 then 3 else 0
def BJ : Nat → Eng → Eng
 | 0,e => e
 | k + 1,e => if Ai e = 0 then e else BJ k (AY e (Ai e))
def La (e : Eng) (steps : Nat) : Eng:=
 let x:=BJ steps { e with mem:=BI e.disk e.log e.log.length }
 if Ai x = 0 then { x with down:=false } else { x with mem:=x.disk }
theorem Iz {e : Eng} (h : Ai e ≠ 0) : (Ai e = 1 ∨ Ai e = 2 ∨ Ai e = 3) ∧ lastT e (Ai e) ≠ 0:=by
 unfold Ai at h ⊢
 split at h
 ·rename_i h1;rw [if_pos h1];exact ⟨.inl rfl,h1⟩
 ·rename_i h1
  rw [if_neg h1]
  split at h
  ·rename_i h2;rw [if_pos h2];exact ⟨.inr (.inl rfl),h2⟩
  ·rename_i h2
   rw [if_neg h2]
   split at h
   ·rename_i h3;rw [if_pos h3];exact ⟨.inr (.inr rfl),h3⟩
   ·exact absurd rfl h
theorem EJ {e : Eng} (h : Ai e = 0) : lastT e 1 = 0 ∧ lastT e 2 = 0 ∧ lastT e 3 = 0:=by
 unfold Ai at h
 split at h
 ·cases h
 ·rename_i h1
  split at h
  ·cases h
  ·rename_i h2
   split at h
   ·cases h
   ·rename_i h3
    exact ⟨Decidable.not_not.1 h1,Decidable.not_not.1 h2,Decidable.not_not.1 h3⟩
theorem Mx {e : Eng} (h : AR e.log e.log.length = 0) : Ai e = 0:=by
 by_cases h0 : Ai e = 0
 ·exact h0
 ·obtain ⟨h1,h2⟩:=Iz h0
  have h3 : 1 ≤ cst e.log (Ai e) e.log.length:=by rw [cst,if_neg h2];omega
  rw [AR] at h
  rcases h1 with h1 | h1 | h1 <;> rw [h1] at h3 <;> omega
structure Fh (e : Eng) (C : Nat → Page) (B : Nat) : Prop where
 core : Core e C B
 mlen : e.mem.length = 5
 same : ∀ p,p < 5 → pg e.mem p = Du e p
theorem Fh.step {e : Eng} {C : Nat → Page} {B : Nat} (h : Fh e C B) {tx : Int} (ht : tx = 1 ∨ tx = 2 ∨ tx = 3) (hlast : lastT e tx ≠ 0) : Fh (AY e tx) C B:=
 ⟨h.core.step ht hlast,by unfold AY;rw [LB];exact h.mlen,TJ h.core h.mlen tx h.same⟩
theorem Fh.all {C : Nat → Page} {B : Nat} : ∀ (k : Nat) (e : Eng),Fh e C B → Fh (BJ k e) C B ∧ (BJ k e).disk = e.disk ∧ (BJ k e).safe = e.safe ∧ (BJ k e).down = e.down ∧ (AR e.log e.log.length ≤ k → Ai (BJ k e) = 0)
 | 0,e,h => ⟨h,rfl,rfl,rfl,fun hn => Mx (e:=e) (by omega)⟩
 | k + 1,e,h => by
  rw [BJ]
  split
  ·rename_i h0
   exact ⟨h,rfl,rfl,rfl,fun _ => h0⟩
  ·rename_i h0
   obtain ⟨h1,h2⟩:=Iz h0
   obtain ⟨a,b,c,d,f⟩:=Fh.all k (AY e (Ai e)) (h.step h1 h2)
   have hs:=h.core.Q5 h1 h2
   exact ⟨a,b,c,d,fun hn => f (by omega)⟩
theorem Core.start {e : Eng} {C : Nat → Page} {B : Nat} (h : Core e C B) : Fh { e with mem:=BI e.disk e.log e.log.length } C B:=by
 refine ⟨h.mem _ e.down,by show (BI e.disk e.log e.log.length).length = 5;rw [Ej];exact h.dlen,fun p hp => ?_⟩
 exact E9 h.dlen (fun k hk => (Ag h.log hk).ok) p _ (Nat.le_refl _)
theorem Core.YL {e : Eng} {C : Nat → Page} {B : Nat} (h : Core e C B) (h0 : Ai e = 0) (t : Int) : Ch e.log t e.log.length = []:=by
 have hz:=EJ h0
 by_cases h1 : Ch e.log t e.log.length = []
 ·exact h1
 ·obtain ⟨m,hm⟩:=List.exists_mem_of_ne_nil _ h1
  have hb:=Es _ m hm
  have hle:=Bc e.log t e.log.length
  have hrec:=Ag h.log (k:=m - 1) (by omega)
  have ht : t = 1 ∨ t = 2 ∨ t = 3:=by
   have hlt:=I8 e.log t e.log.length
   have hF:=Ag h.log (k:=Ae e.log t e.log.length - 1) (by omega)
   rcases hlt with hlt | hlt
   ·omega
   ·have h2:=hF.tx1
    have h3:=hF.tx3
    rw [hlt] at h2 h3
    omega
  rcases ht with rfl | rfl | rfl
  ·exact MR hz.1
  ·exact MR hz.2.1
  ·exact MR hz.2.2
theorem Core.noU {e : Eng} {C : Nat → Page} {B : Nat} (_h : Core e C B) (h0 : Ai e = 0) (p : Int) : UA e.log e.log.length p = []:=by
 have hz:=EJ h0
 have hF : ∀ t,lastT e t = 0 → F e.log e.log.length p t = []:=fun t ht => by
  rw [F,U,show Ae e.log t e.log.length = 0 from ht,Cn];rfl
 rw [UA,hF 1 hz.1,hF 2 hz.2.1,hF 3 hz.2.2];rfl
theorem Core.noL {e : Eng} {C : Nat → Page} {B : Nat} (h : Core e C B) (h0 : Ai e = 0) (p : Int) : lds e.log e.log.length p = false:=by
 rw [Bool.eq_false_iff]
 intro hl
 obtain ⟨t,_,hlt⟩:=Lj.1 hl
 obtain ⟨m,hm,_⟩:=UY.1 hlt
 rw [h.YL h0 t] at hm
 cases hm
theorem Fh.up {e : Eng} {C : Nat → Page} {B : Nat} (h : Fh e C B) (h0 : Ai e = 0) : Inv { e with down:=false } C B:=by
 refine ⟨h.core.mem e.mem false,h.mlen,fun hd => (by cases hd),fun _ t m hm => ?_,fun _ p hp => ?_⟩
 ·have hm : m ∈ Ch e.log t e.log.length:=hm
  rw [h.core.YL h0 t] at hm;cases hm
 ·have hsm:=h.same p hp
  have hs1:=h.core.s1
  refine ⟨?_,?_,?_, .inl ⟨h.core.noL h0 p,hsm⟩⟩
  ·show AL (pg e.mem p) = true
   rw [hsm];exact h.core.rok hp hs1 (Nat.le_refl _)
  ·show (pg e.mem p).owner = (Du e p).owner
   rw [hsm]
  ·show (pg e.mem p).lsn ≤ (e.log.length : Int)
   rw [hsm];exact h.core.VQ hp hs1
theorem Inv.rise {e : Eng} {C : Nat → Page} {B : Nat} (h : Inv e C B) (hd : e.down = true) (k : Nat) : Inv (La e k) C B:=by
 obtain ⟨a,b,c,d,_⟩:=Fh.all k _ h.core.start
 unfold La
 simp only
 split
 ·rename_i h0
  exact a.up h0
 ·refine ⟨a.core.mem _ _,by show (BJ k _).disk.length = 5;rw [b];exact h.core.dlen,fun _ => rfl,fun hx => ?_,fun hx => ?_⟩
  ·have hx : (BJ k { e with mem:=BI e.disk e.log e.log.length }).down = false:=hx
   rw [d] at hx
   rw [show e.down = false from hx] at hd;cases hd
  ·have hx : (BJ k { e with mem:=BI e.disk e.log e.log.length }).down = false:=hx
   rw [d] at hx
   rw [show e.down = false from hx] at hd;cases hd
theorem Inv.rises {e : Eng} {C : Nat → Page} {B : Nat} (h : Inv e C B) {k : Nat} (hk : AR e.log e.log.length ≤ k) : (La e k).down = false ∧ Ai (La e k) = 0:=by
 obtain ⟨a,b,c,d,f⟩:=Fh.all k _ h.core.start
 have h0:=f hk
 unfold La
 simp only
 rw [if_pos h0]
 exact ⟨rfl,h0⟩
theorem Inv.truth {e : Eng} {C : Nat → Page} {B : Nat} (h : Inv e C B) (hup : e.down = false) (h0 : Ai e = 0) {p : Nat} (hp : p < 5) : (pg e.mem p).owner = (C p).owner ∧ (pg e.mem p).vals = (C p).vals:=by
 have hc:=h.core
 have hg:=hc.P5 hp (h.upm hup p hp).ok (h.upm hup p hp).owner (h.upm hup p hp).alt
 rw [hc.noU h0] at hg
 exact hg.2
theorem Inv.Jk {e : Eng} {C : Nat → Page} {B : Nat} (h : Inv e C B) : AR e.log e.log.length ≤ 150:=by
 have h1:=h.core.room e.log.length (Nat.le_refl _)
 have h2:=h.core.b150
 omega
theorem DF {p q : Page} : D8 p q = true ↔ p = q:=by
 simp only [D8,Bool.and_eq_true,beq_iff_eq]
 constructor
 ·rintro ⟨⟨h1,h2⟩,h3⟩
  exact Qg h1 h2 h3
 ·rintro rfl
  exact ⟨⟨rfl,rfl⟩,rfl⟩
def Kn (e : Eng) (p : Nat) : Bool:=
 if FR e.log p 3 = true then (pg e.mem p).owner == (pg (BI e.disk e.log e.log.length) p).owner && (pg e.mem p).lsn == AO e.log p e.log.length && (decide ((pg e.disk p).lsn < (pg e.mem p).lsn) || D8 (pg e.mem p) (pg e.disk p))
 else D8 (pg e.mem p) (pg (BI e.disk e.log e.log.length) p)
def E5 (e : Eng) (p : Nat) : Bool:=
 (F7 e.log p (BX e.log 3) 0 true).2 && decide ((pg e.disk p).lsn ≤ e.safe) && (if e.down = true then D8 (pg e.mem p) (pg e.disk p) else Kn e p)
def Ez (e : Eng) (n : Nat) : Bool:=Et (BI e.disk (e.log.take n) (e.log.take n).length) && DR (e.log.take n) (BI e.disk (e.log.take n) (e.log.take n).length)
def Fs (e : Eng) : Nat → Nat → Bool
 | 0,_ => true
 | k + 1,n => Ez e n && Fs e k (n + 1)
def eOk (e : Eng) : Bool:=
 Et e.disk && (Et e.mem && (Au e.log && (inB e.safe 0 e.log.length && (G6 e.log && (Fs e (e.log.length + 1 - e.safe.toNat) e.safe.toNat && (List.range 5).all fun p => E5 e p)))))
theorem Jh {e : Eng} : ∀ {k n : Nat},Fs e k n = true ↔ ∀ m,n ≤ m → m < n + k → Ez e m = true
 | 0,n => ⟨fun _ m h1 h2 => by omega,fun _ => rfl⟩
 | k + 1,n => by
  rw [Fs,Bool.and_eq_true,Jh]
  constructor
  ·rintro ⟨h1,h2⟩ m h3 h4
   rcases Nat.eq_or_lt_of_le h3 with rfl | h3
   ·exact h1
   ·exact h2 m h3 (by omega)
  ·intro h
   exact ⟨h n (Nat.le_refl _) (by omega),fun m h1 h2 => h m (by omega) (by omega)⟩
theorem Ko {l : List Rec} {C : Nat → Page} : ∀ {ms : List Nat} {ps : List Page},ps.length = 5 → (∀ m ∈ ms,0 ≤ (rc l (m - 1)).page ∧ (rc l (m - 1)).page < 5) → (∀ p,p < 5 → EH l (C p) (ms.filter fun m => (rc l (m - 1)).page == (p : Int)) (pg ps p)) → DL l ps ms = true
 | [],_,_,_,_ => rfl
 | m :: ms,ps,hl,hm,hp => by
  have h5:=hm m (by simp)
  obtain ⟨q,hq⟩ : ∃ q : Nat,(rc l (m - 1)).page = (q : Int):=⟨(rc l (m - 1)).page.toNat,by omega⟩
  have hq5 : q < 5:=by omega
  have hpq:=hp q hq5
  rw [List.filter_cons,if_pos (by rw [hq];simp)] at hpq
  have e1 : (rc l (m - 1)).page.toNat = q:=by omega
  rw [DL,e1,J5 hpq.2,Bool.true_and]
  refine Ko (C:=C) (by simpa using hl) (fun x hx => hm x (by simp [hx])) fun p hp5 => ?_
  rw [Eu (by omega)]
  by_cases e2 : q = p
  ·subst e2
   rw [if_pos rfl]
   exact hpq.2
  ·rw [if_neg e2]
   have hpp:=hp p hp5
   rw [List.filter_cons,if_neg (by rw [hq,beq_iff_eq];omega)] at hpp
   exact hpp
theorem VK (l : List Rec) (p : Int) : (GI l 3).filter (fun m => (rc l (m - 1)).page == p) = UA l l.length p:=by
 have e1 : (3 - ((2 : Nat) : Int)) = 1:=rfl
 have e2 : (3 - ((1 : Nat) : Int)) = 2:=rfl
 have e3 : (3 - ((0 : Nat) : Int)) = 3:=rfl
 rw [GI,GI,GI,GI,e1,e2,e3,List.append_nil,List.filter_append,List.filter_append]
 rfl
theorem PY {l : List Rec} (hl : Au l = true) : ∀ m ∈ GI l 3,0 ≤ (rc l (m - 1)).page ∧ (rc l (m - 1)).page < 5:=by
 have hU : ∀ t, ∀ m ∈ CW l (Ae l t l.length),0 ≤ (rc l (m - 1)).page ∧ (rc l (m - 1)).page < 5:=fun t m hm => by
  have h1:=MG (l:=l) (tx:=t) (n:=l.length) hm
  have h2:=GR hl h1.1 h1.2 (Pz hl (Nat.le_refl _) hm)
  exact ⟨h2.2.1,h2.2.2.1⟩
 intro m hm
 rw [GI,GI,GI,GI,List.append_nil,List.mem_append,List.mem_append] at hm
 rcases hm with hm | hm | hm <;> exact hU _ m hm
theorem M5 {l : List Rec} {p : Int} : ∀ {txs : List Int} {b : Int} {ok : Bool},ok = true → (∀ t ∈ txs,t ≠ 0) → (∀ t ∈ txs, ∀ t' ∈ txs,t ≠ t' → Fy l (Ae l t l.length) p = true → Fy l (Ae l t' l.length) p = false) → txs.Nodup → (b = 0 ∨ ∀ t ∈ txs,Fy l (Ae l t l.length) p = false) →
  (F7 l p txs b ok).2 = true ∧ ((F7 l p txs b ok).1 = b ∧ (∀ t ∈ txs,Fy l (Ae l t l.length) p = false) ∨ ((F7 l p txs b ok).1 ∈ txs ∧ Fy l (Ae l (F7 l p txs b ok).1 l.length) p = true))
 | [],b,ok,hok,_,_,_,_ => ⟨hok, .inl ⟨rfl,fun t ht => by cases ht⟩⟩
 | t :: txs,b,ok,hok,hz,hone,hnd,hb => by
  rw [List.nodup_cons] at hnd
  cases hh : Fy l (Ae l t l.length) p
  ·rw [F7,if_neg (by rw [hh];simp)]
   have ih:=M5 (b:=b) (ok:=ok) hok (fun x hx => hz x (by simp [hx])) (fun x hx y hy => hone x (by simp [hx]) y (by simp [hy])) hnd.2 (hb.imp id fun h x hx => h x (by simp [hx]))
   refine ⟨ih.1,ih.2.imp (fun h => ⟨h.1,fun x hx => ?_⟩) (fun h => ⟨List.mem_cons_of_mem _ h.1,h.2⟩)⟩
   rcases List.mem_cons.1 hx with rfl | hx
   ·exact hh
   ·exact h.2 x hx
  ·have hb0 : b = 0:=by
    rcases hb with hb | hb
    ·exact hb
    ·have:=hb t (by simp)
     rw [hh] at this;cases this
   have hrest : ∀ x ∈ txs,Fy l (Ae l x l.length) p = false:=fun x hx => hone t (by simp) x (by simp [hx]) (fun e => hnd.1 (e ▸ hx)) hh
   rw [F7,if_pos hh]
   have ih:=M5 (b:=t) (ok:=b == 0) (by rw [hb0];rfl) (fun x hx => hz x (by simp [hx])) (fun x hx y hy => hone x (by simp [hx]) y (by simp [hy])) hnd.2 (.inr hrest)
   refine ⟨ih.1, .inr ?_⟩
   rcases ih.2 with h | h
   ·rw [h.1];exact ⟨by simp,hh⟩
   ·have:=hrest _ h.1
    rw [h.2] at this;cases this
theorem EG (l : List Rec) : BX l 3 = (if Ae l 1 l.length = 0 then [] else [1]) ++ ((if Ae l 2 l.length = 0 then [] else [2]) ++ (if Ae l 3 l.length = 0 then [] else [3])):=by
 have e1 : (3 - ((2 : Nat) : Int)) = 1:=rfl
 have e2 : (3 - ((1 : Nat) : Int)) = 2:=rfl
 have e3 : (3 - ((0 : Nat) : Int)) = 3:=rfl
 rw [BX,BX,BX,BX,e1,e2,e3,List.append_nil]
theorem Ql (l : List Rec) : (BX l 3).Nodup:=by
 rw [EG]
 split <;> split <;> split <;> decide
theorem K8 {l : List Rec} {t : Int} : t ∈ BX l 3 ↔ (t = 1 ∨ t = 2 ∨ t = 3) ∧ Ae l t l.length ≠ 0:=by
 rw [EG,List.mem_append,List.mem_append]
 constructor
 ·rintro (h | h | h)
  ·split at h
   ·cases h
   ·rename_i h1;rw [List.mem_singleton.1 h];exact ⟨.inl rfl,h1⟩
  ·split at h
   ·cases h
   ·rename_i h1;rw [List.mem_singleton.1 h];exact ⟨.inr (.inl rfl),h1⟩
  ·split at h
   ·cases h
   ·rename_i h1;rw [List.mem_singleton.1 h];exact ⟨.inr (.inr rfl),h1⟩
 ·rintro ⟨rfl | rfl | rfl,h⟩
  ·left;rw [if_neg h];simp
  ·right;left;rw [if_neg h];simp
  ·right;right;rw [if_neg h];simp
def lk (l : List Rec) (p : Int) : Int:=(F7 l p (BX l 3) 0 true).1
theorem Pb {l : List Rec} {p : Int} (hone : ∀ t t',t ≠ t' → has l t l.length p = true → has l t' l.length p = false) : (F7 l p (BX l 3) 0 true).2 = true ∧ ((lk l p = 0 ∧ ∀ t,(t = 1 ∨ t = 2 ∨ t = 3) → has l t l.length p = false) ∨ ((lk l p = 1 ∨ lk l p = 2 ∨ lk l p = 3) ∧ has l (lk l p) l.length p = true)):=by
 have h:=M5 (l:=l) (p:=p) (txs:=BX l 3) (b:=0) (ok:=true) rfl (fun t ht => by have:=(K8.1 ht).1;omega) (fun t _ t' _ hne hh => hone t t' hne hh) (Ql l) (.inl rfl)
 refine ⟨h.1,h.2.imp (fun hx => ⟨hx.1,fun t ht => ?_⟩) (fun hx => ⟨(K8.1 hx.1).1,hx.2⟩)⟩
 by_cases h0 : Ae l t l.length = 0
 ·rw [has,h0,Gi]
 ·exact hx.2 t (K8.2 ⟨ht,h0⟩)
theorem Core.one_holds {e : Eng} {C : Nat → Page} {B : Nat} (h : Core e C B) (p : Int) : ∀ t t',t ≠ t' → has e.log t e.log.length p = true → has e.log t' e.log.length p = false:=fun t t' hne hh => FP h.log h.prop _ (Nat.le_refl _) t t' p hne hh
theorem Bb {ps : List Page} : Et ps = true ↔ ps.length = 5 ∧ ∀ p,p < 5 → AL (pg ps p) = true:=by
 simp only [Et,Bool.and_eq_true,beq_iff_eq,Bool.not_eq_true',List.any_eq_false]
 constructor
 ·rintro ⟨h1,h2⟩
  refine ⟨h1,fun p hp => ?_⟩
  have:=h2 (pg ps p) (by simp [pg,List.getD_eq_getElem?_getD,h1,hp])
  simpa using this
 ·rintro ⟨h1,h2⟩
  refine ⟨h1,fun x hx => ?_⟩
  obtain ⟨k,hk,rfl⟩:=List.getElem_of_mem hx
  have:=h2 k (by omega)
  simp [pg,List.getD_eq_getElem?_getD,hk] at this
  simp [this]
theorem Core.pref {e : Eng} {C : Nat → Page} {B : Nat} (h : Core e C B) {n : Nat} (h1 : e.safe ≤ n) (h2 : n ≤ e.log.length) : Ez e n = true:=by
 have ht:=h.take h1 h2
 have hl : (e.log.take n).length = n:=by rw [List.length_take];omega
 have hrd:=fun p => E9 h.dlen (fun k hk => (Ag ht.log hk).ok) p n (by show n ≤ (e.log.take n).length;omega)
 have hg:=ht.good n h1 (by show n ≤ (e.log.take n).length;omega)
 rw [Ez,hl,Bool.and_eq_true]
 refine ⟨Bb.2 ⟨by rw [Ej];exact h.dlen,fun p hp => ?_⟩,?_⟩
 ·rw [hrd];exact J5 (hg p hp)
 ·rw [DR,EC]
  refine Ko (C:=C) (by rw [Ej];exact h.dlen) (PY ht.log) fun p hp => ?_
  rw [VK,hl,hrd]
  exact hg p hp
theorem Inv.Mk {e : Eng} {C : Nat → Page} {B : Nat} (h : Inv e C B) : Et e.mem = true:=by
 rw [Bb]
 refine ⟨h.mlen,fun p hp => ?_⟩
 cases hd : e.down
 ·exact (h.upm hd p hp).ok
 ·rw [h.dn hd];exact h.core.dok p hp
theorem U9 (l : List Rec) (p : Int) : FR l p 3 = lds l l.length p:=Qw l p
theorem Inv.ok {e : Eng} {C : Nat → Page} {B : Nat} (h : Inv e C B) : eOk e = true:=by
 have hc:=h.core
 have hs0:=hc.s0
 have hs1:=hc.s1
 have hroom:=hc.room e.log.length (Nat.le_refl _)
 have hb:=hc.b150
 simp only [eOk,Bool.and_eq_true]
 refine ⟨Bb.2 ⟨hc.dlen,hc.dok⟩,h.Mk,hc.log,CU.2 ⟨hs0,hs1⟩,?_,?_,?_⟩
 ·rw [G6,Iw,decide_eq_true_eq];omega
 ·rw [Jh]
  intro m h1 h2
  exact hc.pref (by omega) (by omega)
 ·rw [List.all_eq_true]
  intro p hp
  have hp : p < 5:=by simpa using hp
  have hrd:=E9 hc.dlen (fun k hk => (Ag hc.log hk).ok) p e.log.length (Nat.le_refl _)
  simp only [E5,Bool.and_eq_true,decide_eq_true_eq]
  refine ⟨⟨(Pb (hc.one_holds p)).1,hc.JU p hp⟩,?_⟩
  split
  ·rename_i hd
   rw [h.dn hd]
   exact DF.2 rfl
  ·rename_i hd
   have hM:=h.upm (by simpa using hd) p hp
   rw [Kn,hrd,U9]
   rcases hM.cases with hx | ⟨a,b,c,d⟩
   ·rw [if_neg (by rw [hx.1];simp)]
    exact DF.2 hx.2
   ·rw [if_pos a]
    simp only [Bool.and_eq_true,beq_iff_eq,Bool.or_eq_true,decide_eq_true_eq]
    exact ⟨⟨hM.owner,b⟩,c.imp id DF.2⟩
def M4 (e : Eng) (tx page : Int) : Bool := !e.down && (inB tx 1 3 && (inB page 0 4 && (lk e.log page == 0 || lk e.log page == tx)))
def Jt (e : Eng) (ok : Bool) (x : Eng) : Eng × Bool:=if ok = true ∧ G6 x.log = true then (x,true) else (e,false)
def TP (e : Eng) (tx page slot val : Int) : Rec:=⟨1,tx,page,slot,iv (pg e.mem page.toNat).vals slot.toNat,val,0,0⟩
def RA (e : Eng) (tx page slot val : Int) : Bool:=M4 e tx page && ((pg e.mem page.toNat).owner != 0 && (inB slot 0 2 && inB val 0 9))
def TQ (e : Eng) (tx page slot val : Int) : Eng × Bool:=Jt e (RA e tx page slot val) (e.app (TP e tx page slot val))
def U1 (e : Eng) (tx page table : Int) : Rec:=⟨2,tx,page, -1,(pg e.mem page.toNat).owner,table,0,0⟩
def ownB (e : Eng) (tx page table : Int) : Bool:=M4 e tx page && (inB table 0 3 && (((pg e.mem page.toNat).owner == 0) != (table == 0) && Ik (pg e.mem page.toNat).vals))
def U2 (e : Eng) (tx page table : Int) : Eng × Bool:=Jt e (ownB e tx page table) (e.app (U1 e tx page table))
def Q0 (l : List Rec) (tx page : Int) : Bool:=(Ch l tx l.length).any fun m => (rc l (m - 1)).kind == 2 && ((rc l (m - 1)).page == page && (rc l (m - 1)).new != 0)
def Ns (e : Eng) (tx page : Int) (vals : List Int) : Bool:=M4 e tx page && ((pg e.mem page.toNat).owner != 0 && (Ik (pg e.mem page.toNat).vals && (Hq vals && Q0 e.log tx page)))
def Qv (e : Eng) (tx page : Int) (vals : List Int) : Eng:={ e with log:=e.log ++ [⟨3,tx,page,0,0,0,Ae e.log tx e.log.length,0⟩],mem:=e.mem.set page.toNat ⟨(e.log.length + 1 : Nat),(pg e.mem page.toNat).owner,vals⟩ }
def Nr (e : Eng) (tx page : Int) (vals : List Int) : Eng × Bool:=Jt e (Ns e tx page vals) (Qv e tx page vals)
def Ms (e : Eng) (tx : Int) : Bool := !e.down && (inB tx 1 3 && lastT e tx != 0)
def Bf (e : Eng) (v : Evt) : Eng:=
 if v.kind = 1 then (TQ e v.tx v.page v.slot v.n).1
 else if v.kind = 2 then (U2 e v.tx v.page v.n).1
 else if v.kind = 3 then (Nr e v.tx v.page v.vals).1
 else if v.kind = 4 then (if Ms e v.tx = true then Ib e v.tx else e)
 else if v.kind = 5 then (if Ms e v.tx = true then GN e v.tx else e)
 else if v.kind = 6 then (if e.down = false ∧ inB v.page 0 4 = true then Cj e v.page.toNat else e)
 else if v.kind = 7 then (if e.down = false then DV e else e)
 else if v.kind = 8 then (if 0 ≤ v.n then BL e v.n else e)
 else if v.kind = 9 then (if e.down = true ∧ 0 ≤ v.n then La e v.n.toNat else e)
 else e
def Uy (e : Eng) (v : Evt) (C : Nat → Page) : Nat → Page:=if v.kind = 4 ∧ Ms e v.tx = true then N9 e v.tx C else C
theorem J4 {e : Eng} {tx : Int} : Ms e tx = true ↔ e.down = false ∧ (tx = 1 ∨ tx = 2 ∨ tx = 3) ∧ lastT e tx ≠ 0:=by
 simp only [Ms,Bool.and_eq_true,Bool.not_eq_true',CU,bne_iff_ne]
 constructor
 ·rintro ⟨h1,h2,h3⟩;exact ⟨h1,by omega,h3⟩
 ·rintro ⟨h1,h2,h3⟩;exact ⟨h1,by omega,h3⟩
theorem K3 {vs : List Int} : Ik vs = true ↔ ∀ x ∈ vs,x = 0:=by
 simp [Ik]
theorem Gu {e : Eng} {tx page : Int} : M4 e tx page = true ↔ e.down = false ∧ (1 ≤ tx ∧ tx ≤ 3) ∧ (0 ≤ page ∧ page ≤ 4) ∧ (lk e.log page = 0 ∨ lk e.log page = tx):=by
 simp only [M4,Bool.and_eq_true,Bool.not_eq_true',CU,Bool.or_eq_true,beq_iff_eq]
theorem Core.free {e : Eng} {C : Nat → Page} {B : Nat} (h : Core e C B) {tx page : Int} (hl : lk e.log page = 0 ∨ lk e.log page = tx) : ∀ t,t ≠ tx → has e.log t e.log.length page = false:=by
 intro t ht
 have hall:=(Pb (h.one_holds page)).2
 rcases hall with hx | hx
 ·by_cases h0 : Ae e.log t e.log.length = 0
  ·rw [has,h0,Gi]
  ·refine hx.2 t ?_
   have hlt:=I8 e.log t e.log.length
   have hle:=Bc e.log t e.log.length
   have hF:=Ag h.log (k:=Ae e.log t e.log.length - 1) (by omega)
   rcases hlt with hlt | hlt
   ·exact absurd hlt h0
   ·have h2:=hF.tx1
    have h3:=hF.tx3
    rw [hlt] at h2 h3
    omega
 ·rcases hl with hl | hl
  ·rw [hl] at hx;omega
  ·exact h.one_holds page (lk e.log page) t (by rw [hl];exact Ne.symm ht) hx.2
theorem Inv.mono {e : Eng} {C : Nat → Page} {B B' : Nat} (h : Inv e C B) (hB : B ≤ B') (h150 : B' ≤ 150) : Inv e C B':=
 ⟨⟨h.core.dlen,h.core.dok,h.core.log,h.core.prop,h.core.s0,h.core.s1,h150,fun n hn => by have:=h.core.room n hn;omega,h.core.done,h.core.JU,h.core.good⟩,h.mlen,h.dn,h.upc,h.upm⟩
theorem Wp {e : Eng} {C : Nat → Page} {B : Nat} (h : Core e C B) : G6 e.log = true:=by
 have h1:=h.room e.log.length (Nat.le_refl _)
 have h2:=h.b150
 rw [G6,Iw,decide_eq_true_eq];omega
theorem Inv.Xu {e : Eng} {C : Nat → Page} {B : Nat} (h : Inv e C B) (hB : B + 3 ≤ 150) {tx page slot val : Int} (hp : RA e tx page slot val = true) : Inv (e.app (TP e tx page slot val)) C (B + 3):=by
 simp only [RA,Bool.and_eq_true,Gu,bne_iff_ne,CU] at hp
 obtain ⟨⟨h1,h2,h3,h4⟩,h5,h6,h7⟩:=hp
 exact h.chg h1 (p:=page.toNat) (by omega) (by show page = _;omega) (by show tx = 1 ∨ tx = 2 ∨ tx = 3;omega) (.inl ⟨rfl,h5,h6.1,h6.2,h7.1,h7.2,rfl⟩) rfl (by
  have:=h.core.free h4
  rwa [show ((page.toNat : Nat) : Int) = page by omega]) hB
theorem Inv.XD {e : Eng} {C : Nat → Page} {B : Nat} (h : Inv e C B) (hB : B + 3 ≤ 150) {tx page table : Int} (hp : ownB e tx page table = true) : Inv (e.app (U1 e tx page table)) C (B + 3):=by
 simp only [ownB,Bool.and_eq_true,Gu,bne_iff_ne,CU,K3] at hp
 obtain ⟨⟨h1,h2,h3,h4⟩,h5,h6,h7⟩:=hp
 have hok:=(Be.1 (Bb.1 h.Mk |>.2 page.toNat (by omega))).2.2.2.2.1
 refine h.chg h1 (p:=page.toNat) (by omega) (by show page = _;omega) (by show tx = 1 ∨ tx = 2 ∨ tx = 3;omega) (.inr ⟨rfl,rfl,h5.1,h5.2,?_,OM hok h7,rfl⟩) rfl (by
  have:=h.core.free h4
  rwa [show ((page.toNat : Nat) : Int) = page by omega]) hB
 show (pg e.mem page.toNat).owner = 0 ↔ table ≠ 0
 constructor
 ·intro e1 e2
  rw [e1,e2] at h6
  exact h6 rfl
 ·intro e2
  by_cases e1 : (pg e.mem page.toNat).owner = 0
  ·exact e1
  ·exfalso
   apply h6
   rw [beq_eq_false_iff_ne.2 e1,beq_eq_false_iff_ne.2 e2]
theorem Inv.UW {e : Eng} {C : Nat → Page} {B : Nat} (h : Inv e C B) (hB : B + 3 ≤ 150) {tx page : Int} {vals : List Int} (hp : Ns e tx page vals = true) : Inv (Qv e tx page vals) C (B + 3):=by
 simp only [Ns,Bool.and_eq_true,Gu,bne_iff_ne,K3] at hp
 obtain ⟨⟨h1,h2,h3,h4⟩,h5,h6,h7,h8⟩:=hp
 have e1 : ((page.toNat : Nat) : Int) = page:=by omega
 have hL:=h.load (tx:=tx) (p:=page.toNat) (vals:=vals) h1 (by omega) (by omega) h5 ?_ (by rw [e1];exact h.core.free h4) ?_ hB
 ·rw [e1] at hL
  exact hL
 ·simp only [Hq,Bool.and_eq_true,beq_iff_eq,Bool.not_eq_true',List.any_eq_false] at h7
  refine ⟨h7.1,fun x hx => ?_⟩
  have:=h7.2 x hx
  simp [inB] at this
  exact this
 ·rw [e1]
  simp only [Q0,List.any_eq_true,Bool.and_eq_true,beq_iff_eq,bne_iff_ne] at h8
  obtain ⟨m,h8,h9⟩:=h8
  exact ⟨m,h8,h9⟩
theorem Inv.change {e x : Eng} {C : Nat → Page} {B : Nat} (h : Inv e C B) (hB : B + 3 ≤ 150) {ok : Bool} (hx : ok = true → Inv x C (B + 3)) : Inv (Jt e ok x).1 C (B + 3):=by
 unfold Jt
 split
 ·rename_i hc;exact hx hc.1
 ·exact h.mono (by omega) hB
theorem Inv.play {e : Eng} {C : Nat → Page} {B : Nat} (h : Inv e C B) (hB : B + 3 ≤ 150) (v : Evt) : Inv (Bf e v) (Uy e v C) (B + 3):=by
 have hid:=h.mono (show B ≤ B + 3 by omega) hB
 have hle : B ≤ B + 3:=by omega
 unfold Bf Uy
 by_cases k4 : v.kind = 4
 ·rw [if_neg (by omega),if_neg (by omega),if_neg (by omega),if_pos k4]
  cases ho : Ms e v.tx
  ·rw [if_neg (by simp),if_neg (by simp)];exact hid
  ·rw [if_pos rfl,if_pos ⟨k4,rfl⟩]
   obtain ⟨h1,h2,h3⟩:=J4.1 ho
   exact (h.WU h1 h2 h3).mono hle hB
 have h4 : ¬ (v.kind = 4 ∧ Ms e v.tx = true):=fun hx => k4 hx.1
 rw [if_neg h4]
 by_cases k1 : v.kind = 1
 ·rw [if_pos k1];exact h.change hB (h.Xu hB)
 rw [if_neg k1]
 by_cases k2 : v.kind = 2
 ·rw [if_pos k2];exact h.change hB (h.XD hB)
 rw [if_neg k2]
 by_cases k3 : v.kind = 3
 ·rw [if_pos k3];exact h.change hB (h.UW hB)
 rw [if_neg k3,if_neg k4]
 by_cases k5 : v.kind = 5
 ·rw [if_pos k5]
  split
  ·rename_i ho
   obtain ⟨h1,h2,h3⟩:=J4.1 ho
   exact (h.JC h1 h2).1.mono hle hB
  ·exact hid
 rw [if_neg k5]
 by_cases k6 : v.kind = 6
 ·rw [if_pos k6]
  split
  ·rename_i hw
   have:=CU.1 hw.2
   exact (h.write hw.1 (by omega)).mono hle hB
  ·exact hid
 rw [if_neg k6]
 by_cases k7 : v.kind = 7
 ·rw [if_pos k7]
  split
  ·rename_i hd;exact (h.force hd).mono hle hB
  ·exact hid
 rw [if_neg k7]
 by_cases k8 : v.kind = 8
 ·rw [if_pos k8]
  split
  ·exact (h.fall _).mono hle hB
  ·exact hid
 rw [if_neg k8]
 by_cases k9 : v.kind = 9
 ·rw [if_pos k9]
  split
  ·rename_i hr;exact (h.rise hr.1 _).mono hle hB
  ·exact hid
 rw [if_neg k9]
 exact hid
def newP : Page:=⟨0,0, [0,0,0]⟩
def newE : Eng:=⟨List.replicate 5 newP,List.replicate 5 newP, [],0,false⟩
theorem Nl {p : Nat} (h : p < 5) : pg (List.replicate 5 newP) p = newP:=by
 match p,h with
 | 0,_ => rfl
 | 1,_ => rfl
 | 2,_ => rfl
 | 3,_ => rfl
 | 4,_ => rfl
theorem Wm : Inv newE (fun _ => newP) 0:=by
 have hU : ∀ p : Int,UA [] 0 p = []:=fun p => by simp [UA,F,U,Ae,Cn]
 have hok : AL newP = true:=by decide
 refine ⟨⟨rfl,fun p hp => ?_,rfl,fun k hk => ?_,Int.le_refl _,Int.le_refl _,by omega,fun n hn => ?_,fun k hk => ?_,fun p hp => ?_,fun n _ hn p hp => ?_⟩,rfl,fun hd => rfl,fun _ t m hm => ?_,fun _ p hp => ⟨?_,?_,?_, .inl ⟨?_,?_⟩⟩⟩
 ·show AL (pg (List.replicate 5 newP) p) = true
  rw [Nl hp];exact hok
 ·cases hk
 ·obtain rfl : n = 0:=Nat.le_zero.1 hn
  show 0 + AR [] 0 ≤ 0
  simp [AR,cst,U,Ae,Cn]
 ·cases hk
 ·show (pg (List.replicate 5 newP) p).lsn ≤ 0
  rw [Nl hp];exact Int.le_refl _
 ·obtain rfl : n = 0:=Nat.le_zero.1 hn
  show EH [] newP (UA [] 0 p) (Bh (pg (List.replicate 5 newP) p) [] p 0)
  rw [hU,Nl hp]
  exact ⟨hok,rfl,rfl⟩
 ·simp [Ch,newE,Ae,C9] at hm
 ·show AL (pg (List.replicate 5 newP) p) = true
  rw [Nl hp];exact hok
 ·rfl
 ·show (pg (List.replicate 5 newP) p).lsn ≤ 0
  rw [Nl hp];exact Int.le_refl _
 ·simp [newE,lds,ld,Ae,I6]
 ·rfl
def runE (e : Eng) : List Evt → Eng
 | [] => e
 | v :: vs => runE (Bf e v) vs
def WL (e : Eng) (C : Nat → Page) : List Evt → Nat → Page
 | [] => C
 | v :: vs => WL (Bf e v) (Uy e v C) vs
theorem Inv.run : ∀ {vs : List Evt} {e : Eng} {C : Nat → Page} {B : Nat},Inv e C B → B + 3 * vs.length ≤ 150 → Inv (runE e vs) (WL e C vs) (B + 3 * vs.length)
 | [],e,C,B,h,_ => h
 | v :: vs,e,C,B,h,hB => by
  rw [List.length_cons] at hB
  have:=Inv.run (h.play (by omega) v) (vs:=vs) (by omega)
  rw [List.length_cons,show B + 3 * (vs.length + 1) = B + 3 + 3 * vs.length by omega]
  exact this
def IK (P : Page) (r : Rec) (n : Int) : Bool:=AL P && (Cv r && (Cu r.kind && (decide (P.lsn < n) && (decide (n ≤ 150) && AL (doR P r n)))))
structure Jv (e : Eng) (tx : Int) : Prop where
 log : Au e.log = true
 geo : geo e.mem
 t1 : 1 ≤ tx
 t3 : tx ≤ 3
 XJ : e.log.length + 1 ≤ 150
 may : Cu (CB e tx).kind = true → IK (pg e.mem (CB e tx).page.toNat) (CB e tx) (e.log.length + 1 : Nat) = true
 log' : Au (e.log ++ [CB e tx]) = true
 room : e.log.length + 1 + AR (e.log ++ [CB e tx]) (e.log.length + 1) ≤ 150
structure Sim (ps qs : List Page) : Prop where
 l : ps.length = 5
 l' : qs.length = 5
 lsn : ∀ p,p < 5 → 0 ≤ (pg qs p).lsn ∧ (pg qs p).lsn ≤ 150
 owner : ∀ p,p < 5 → (pg qs p).owner = (pg ps p).owner
 vals : ∀ p,p < 5 → (pg qs p).vals = (pg ps p).vals
theorem TD {P Q : Page} (r : Rec) (ho : Q.owner = P.owner) (hv : Q.vals = P.vals) : (AV Q r).owner = (AV P r).owner ∧ (AV Q r).vals = (AV P r).vals:=by
 unfold AV
 split
 ·exact ⟨ho,by simp only;rw [hv]⟩
 ·split
  ·exact ⟨rfl,rfl⟩
  ·exact ⟨rfl,hv⟩
theorem LK {l : List Rec} : ∀ {ms : List Nat} {ps qs : List Page},(∀ m ∈ ms,0 ≤ (rc l (m - 1)).page ∧ (rc l (m - 1)).page < 5) → Sim ps qs → DL l ps ms = true → DL l qs ms = true
 | [],_,_,_,_,_ => rfl
 | m :: ms,ps,qs,hm,hs,h => by
  have h5:=hm m (by simp)
  rw [DL,Bool.and_eq_true] at h ⊢
  have hp : (rc l (m - 1)).page.toNat < 5:=by omega
  have hw:=TD (Br (rc l (m - 1)) 0) (hs.owner _ hp) (hs.vals _ hp)
  have hl:=hs.lsn _ hp
  refine ⟨?_,LK (fun x hx => hm x (by simp [hx])) ⟨by simpa using hs.l,by simpa using hs.l',fun p hp5 => ?_,fun p hp5 => ?_,fun p hp5 => ?_⟩ h.2⟩
  ·have h1:=Hy (k:=(pg qs (rc l (m - 1)).page.toNat).lsn) h.1 hl.1 hl.2
   rw [← hw.1, ← hw.2] at h1
   rw [← K4 (pg qs (rc l (m - 1)).page.toNat) (Br (rc l (m - 1)) 0)] at h1
   exact h1
  ·rw [Eu (by rw [hs.l'];exact hp)]
   split
   ·rw [K4];exact hl
   ·exact hs.lsn p hp5
  ·rw [Eu (by rw [hs.l'];exact hp),Eu (by rw [hs.l];exact hp)]
   split
   ·exact hw.1
   ·exact hs.owner p hp5
  ·rw [Eu (by rw [hs.l'];exact hp),Eu (by rw [hs.l];exact hp)]
   split
   ·exact hw.2
   ·exact hs.vals p hp5
theorem JE {l l' : List Rec} {n : Nat} (h : Agree l l' n) : ∀ {ms : List Nat} {ps : List Page},(∀ m ∈ ms,0 < m ∧ m ≤ n) → DL l ps ms = DL l' ps ms
 | [],_,_ => rfl
 | m :: ms,ps,hm => by
  have:=hm m (by simp)
  rw [DL,DL,h (m - 1) (by omega),JE h (fun x hx => hm x (by simp [hx]))]
structure Py (e : Eng) (ms : List Nat) : Prop where
 log : Au e.log = true
 mem : Et e.mem = true
 lsn : ∀ p,p < 5 → (pg e.mem p).lsn ≤ e.log.length
 und : DL e.log e.mem ms = true
 room : e.log.length + AR e.log e.log.length ≤ 150
theorem Py.one {e : Eng} {ms : List Nat} (h : Py e ms) {tx : Int} (ht : tx = 1 ∨ tx = 2 ∨ tx = 3) (hlast : lastT e tx ≠ 0) : e.log.length + 1 ≤ 150:=by
 have h1:=h.room
 have h3 : cst e.log tx e.log.length ≥ 1:=by rw [cst,if_neg hlast];omega
 have h4 : cst e.log tx e.log.length ≤ AR e.log e.log.length:=by
  rw [AR]
  rcases ht with rfl | rfl | rfl <;> omega
 omega
theorem Py.Fj {e : Eng} {tx : Int} {rest : List Nat} (h : Py e (U e.log tx e.log.length ++ rest)) (ht : tx = 1 ∨ tx = 2 ∨ tx = 3) (hlast : lastT e tx ≠ 0) : Jv e tx:=by
 have h1:=h.one ht hlast
 have hk:=EP (e:=e) h.log tx
 have hl':=hk.log h.log (by omega) h1
 have hn:=hk.need h.log ht h1 hlast
 have hr:=h.room
 refine ⟨h.log,AZ h.mem,by omega,by omega,h1,fun hc => ?_,hl',by omega⟩
 have hok:=hk.ok h.log (by omega)
 have hund:=h.und
 have hmem:=Bb.1 h.mem
 have hls:=h.lsn
 generalize CB e tx = r at hk hok hc ⊢
 cases hk with
 | fin hU => simp [Cu] at hc
 | JC m ms hU h0 hm hkk htx =>
  have hrec:=GR h.log h0 hm hkk
  rw [hU,List.cons_append,DL,Bool.and_eq_true] at hund
  have hp : (rc e.log (m - 1)).page.toNat < 5:=by omega
  have hl5:=hls _ hp
  simp only [IK,Bool.and_eq_true,decide_eq_true_eq]
  refine ⟨hmem.2 _ hp,hok,hc,?_,by omega,?_⟩
  ·show (pg e.mem (rc e.log (m - 1)).page.toNat).lsn < ((e.log.length + 1 : Nat) : Int)
   omega
  ·rw [EU]
   exact Hy hund.1 (by omega) (by omega)
theorem Py.step {e : Eng} {tx : Int} {rest : List Nat} (h : Py e (U e.log tx e.log.length ++ rest)) (ht : tx = 1 ∨ tx = 2 ∨ tx = 3) (hlast : lastT e tx ≠ 0) (hrest : ∀ m ∈ rest,0 < m ∧ m ≤ e.log.length ∧ 0 ≤ (rc e.log (m - 1)).page ∧ (rc e.log (m - 1)).page < 5) : Py (AY e tx) ((U e.log tx e.log.length).tail ++ rest):=by
 have h1:=h.one ht hlast
 have hk:=EP (e:=e) h.log tx
 have hl':=hk.log h.log (by omega) h1
 have hn:=hk.need h.log ht h1 hlast
 have hr:=h.room
 have hmem:=Bb.1 h.mem
 have hso:=h.Fj ht hlast
 have hM:=fun p => Kk hmem.1 (H9 h.log tx) p
 have hA:=Cq e.log [CB e tx]
 have hLl : (AY e tx).log = e.log ++ [CB e tx]:=rfl
 have hM : ∀ p : Nat,pg (AY e tx).mem p = if Cu (CB e tx).kind = true ∧ (CB e tx).page = (p : Int) then doR (pg e.mem p) (CB e tx) (e.log.length + 1 : Nat) else pg e.mem p:=hM
 have hml : (AY e tx).mem.length = 5:=by unfold AY;rw [LB];exact hmem.1
 have hUr : ∀ m ∈ U e.log tx e.log.length,0 < m ∧ m ≤ e.log.length ∧ 0 ≤ (rc e.log (m - 1)).page ∧ (rc e.log (m - 1)).page < 5:=fun m hm => by
  have h2:=MG hm
  have h3:=GR h.log h2.1 h2.2 (Pz h.log (Nat.le_refl _) hm)
  exact ⟨h2.1,h2.2,h3.2.1,h3.2.2.1⟩
 have hpage : ∀ p : Nat,p < 5 → AL (pg (AY e tx).mem p) = true:=fun p hp => by
  rw [hM p]
  split
  ·rename_i hc
   have:=hso.may hc.1
   simp only [IK,Bool.and_eq_true,decide_eq_true_eq] at this
   rw [show (CB e tx).page.toNat = p by omega] at this
   exact this.2.2.2.2.2
  ·exact hmem.2 p hp
 refine ⟨by rw [hLl];exact hl',Bb.2 ⟨hml,hpage⟩,fun p hp => ?_,?_,by rw [hLl];simp only [List.length_append,List.length_singleton];omega⟩
 ·rw [hM p,hLl]
  simp only [List.length_append,List.length_singleton]
  split
  ·exact Int.le_refl _
  ·have:=h.lsn p hp;omega
 ·have hund:=h.und
  rw [hLl]
  generalize CB e tx = r at hk hl' hn hA hM
  cases hk with
  | fin hU =>
   rw [hU,List.nil_append] at hund
   rw [hU,List.tail_nil,List.nil_append,JE hA (fun m hm => by have:=hrest m hm;omega)]
   refine LK (fun m hm => (hrest m hm).2.2) ⟨hmem.1,hml,fun p hp => ?_,fun p hp => ?_,fun p hp => ?_⟩ hund
   ·have:=Be.1 (hpage p hp);exact ⟨this.1,this.2.1⟩
   ·rw [hM p,if_neg (fun hc => by simp [Cu] at hc)]
   ·rw [hM p,if_neg (fun hc => by simp [Cu] at hc)]
  | JC m ms hU h0 hm hkk htx =>
   rw [hU,List.cons_append,DL,Bool.and_eq_true] at hund
   rw [hU] at hUr
   have hmr:=hUr m (by simp)
   have hmp : (rc e.log (m - 1)).page.toNat < 5:=by omega
   rw [hU,List.tail_cons,JE hA (fun x hx => by
    rcases List.mem_append.1 hx with hx | hx
    ·have:=hUr x (by simp [hx]);omega
    ·have:=hrest x hx;omega)]
   refine LK (fun x hx => ?_) ⟨by simpa using hmem.1,hml,fun p hp => ?_,fun p hp => ?_,fun p hp => ?_⟩ hund.2
   ·rcases List.mem_append.1 hx with hx | hx
    ·exact (hUr x (by simp [hx])).2.2
    ·exact (hrest x hx).2.2
   ·have:=Be.1 (hpage p hp);exact ⟨this.1,this.2.1⟩
   ·rw [hM p,Eu (by rw [hmem.1];exact hmp)]
    by_cases e1 : (rc e.log (m - 1)).page.toNat = p
    ·rw [if_pos ⟨rfl,by show (rc e.log (m - 1)).page = _;omega⟩,if_pos e1, ← e1];rfl
    ·rw [if_neg (fun hc => e1 (by have h2 : (rc e.log (m - 1)).page = (p : Int):=hc.2;omega)),if_neg e1]
   ·rw [hM p,Eu (by rw [hmem.1];exact hmp)]
    by_cases e1 : (rc e.log (m - 1)).page.toNat = p
    ·rw [if_pos ⟨rfl,by show (rc e.log (m - 1)).page = _;omega⟩,if_pos e1, ← e1];rfl
    ·rw [if_neg (fun hc => e1 (by have h2 : (rc e.log (m - 1)).page = (p : Int):=hc.2;omega)),if_neg e1]
theorem Je (l : List Rec) : GI l 3 = U l 1 l.length ++ (U l 2 l.length ++ U l 3 l.length):=by
 have e1 : (3 - ((2 : Nat) : Int)) = 1:=rfl
 have e2 : (3 - ((1 : Nat) : Int)) = 2:=rfl
 have e3 : (3 - ((0 : Nat) : Int)) = 3:=rfl
 rw [GI,GI,GI,GI,e1,e2,e3,List.append_nil]
 rfl
def DY (e : Eng) : Prop:=Py e (GI e.log 3)
theorem GY {e : Eng} {t : Int} (h : lastT e t = 0) : U e.log t e.log.length = []:=by rw [U,show Ae e.log t e.log.length = 0 from h,Cn]
theorem DY.step {e : Eng} (h : DY e) (h0 : Ai e ≠ 0) : Jv e (Ai e) ∧ DY (AY e (Ai e)) ∧ AR (AY e (Ai e)).log (AY e (Ai e)).log.length + 1 = AR e.log e.log.length:=by
 obtain ⟨ht,hlast⟩:=Iz h0
 have hlt:=h
 unfold DY at h ⊢
 obtain ⟨rest,hrest,hr2,hr3⟩ : ∃ rest,GI e.log 3 = U e.log (Ai e) e.log.length ++ rest ∧ (∀ m ∈ rest, ∃ t,m ∈ U e.log t e.log.length) ∧ ∀ l' : List Rec,(∀ t,t ≠ Ai e → U l' t l'.length = U e.log t e.log.length) → GI l' 3 = U l' (Ai e) l'.length ++ rest:=by
  rw [Je]
  by_cases h1 : lastT e 1 = 0
  ·by_cases h2 : lastT e 2 = 0
   ·by_cases h3 : lastT e 3 = 0
    ·exact absurd (show Ai e = 0 by unfold Ai;rw [if_neg (by simpa using h1),if_neg (by simpa using h2),if_neg (by simpa using h3)]) h0
    ·have hf : Ai e = 3:=by unfold Ai;rw [if_neg (by simpa using h1),if_neg (by simpa using h2),if_pos h3]
     rw [hf,GY h1,GY h2]
     refine ⟨[],by simp,fun m hm => (by cases hm),fun l' hl => ?_⟩
     rw [Je,hl 1 (by decide),hl 2 (by decide),GY h1,GY h2];simp
   ·have hf : Ai e = 2:=by unfold Ai;rw [if_neg (by simpa using h1),if_pos h2]
    rw [hf,GY h1]
    refine ⟨U e.log 3 e.log.length,by simp,fun m hm => ⟨3,hm⟩,fun l' hl => ?_⟩
    rw [Je,hl 1 (by decide),hl 3 (by decide),GY h1];simp
  ·have hf : Ai e = 1:=by unfold Ai;rw [if_pos h1]
   rw [hf]
   refine ⟨U e.log 2 e.log.length ++ U e.log 3 e.log.length,rfl,fun m hm => ?_,fun l' hl => ?_⟩
   ·rcases List.mem_append.1 hm with hm | hm
    ·exact ⟨2,hm⟩
    ·exact ⟨3,hm⟩
   ·rw [Je,hl 2 (by decide),hl 3 (by decide)]
 rw [hrest] at h
 have h1:=h.one ht hlast
 have hk:=EP (e:=e) h.log (Ai e)
 have hn:=hk.next h.log (by omega) h1
 have hd:=hk.need h.log ht h1 hlast
 have hlen : (AY e (Ai e)).log.length = e.log.length + 1:=IX _ _
 have hLl : (AY e (Ai e)).log = e.log ++ [CB e (Ai e)]:=rfl
 refine ⟨h.Fj ht hlast,?_,by rw [hlen,hLl];exact hd⟩
 rw [hr3 (AY e (Ai e)).log (fun t hne => by rw [hlen,hLl];exact (hn.2.1 t hne).1)]
 rw [show U (AY e (Ai e)).log (Ai e) (AY e (Ai e)).log.length = (U e.log (Ai e) e.log.length).tail by rw [hlen,hLl];exact hn.1]
 refine h.step ht hlast fun m hm => ?_
 obtain ⟨t,hmt⟩:=hr2 m hm
 have h2:=MG hmt
 have h3:=GR h.log h2.1 h2.2 (Pz h.log (Nat.le_refl _) hmt)
 exact ⟨h2.1,h2.2,h3.2.1,h3.2.2.1⟩
structure OkF (e : Eng) : Prop where
 disk : Et e.disk = true
 mem : Et e.mem = true
 log : Au e.log = true
 s0 : 0 ≤ e.safe
 s1 : e.safe ≤ e.log.length
 fits : G6 e.log = true
 pref : ∀ n : Nat,e.safe ≤ n → n ≤ e.log.length → Ez e n = true
 page : ∀ p,p < 5 → E5 e p = true
theorem Ct {e : Eng} : eOk e = true ↔ OkF e:=by
 simp only [eOk,Bool.and_eq_true,CU,Jh,List.all_eq_true,List.mem_range]
 constructor
 ·rintro ⟨h1,h2,h3,⟨h4,h5⟩,h6,h7,h8⟩
  exact ⟨h1,h2,h3,h4,h5,h6,fun n ha hb => h7 n (by omega) (by omega),h8⟩
 ·rintro ⟨h1,h2,h3,h4,h5,h6,h7,h8⟩
  exact ⟨h1,h2,h3,⟨h4,h5⟩,h6,fun n ha hb => h7 n (by omega) (by omega),h8⟩
theorem OkF.JU {e : Eng} (h : OkF e) {p : Nat} (hp : p < 5) : (pg e.disk p).lsn ≤ e.safe:=by
 have:=h.page p hp
 simp only [E5,Bool.and_eq_true,decide_eq_true_eq] at this
 exact this.1.2
theorem OkF.rise {e : Eng} (h : OkF e) : DY { e with mem:=BI e.disk e.log e.log.length }:=by
 have hp:=h.pref e.log.length h.s1 (Nat.le_refl _)
 have hd:=Bb.1 h.disk
 rw [Ez,List.take_length,Bool.and_eq_true,DR,EC] at hp
 have hf:=h.fits
 rw [G6,Iw,decide_eq_true_eq] at hf
 refine ⟨h.log,hp.1,fun p hp5 => ?_,hp.2,hf⟩
 show (pg (BI e.disk e.log e.log.length) p).lsn ≤ (e.log.length : Int)
 rw [E9 hd.1 (fun k hk => (Ag h.log hk).ok) p _ (Nat.le_refl _)]
 have h1:=He (P:=pg e.disk p) (l:=e.log) (p:=p) e.log.length
 have h2:=h.JU hp5
 have h3:=h.s1
 omega
def R6 (tx : Int) : Nat → Eng → Prop
 | 0,e => lastT e tx = 0 ∧ Au e.log = true
 | k + 1,e => lastT e tx ≠ 0 ∧ Jv e tx ∧ R6 tx k (AY e tx)
theorem EL.Fj {e : Eng} {C : Nat → Page} {B : Nat} {tx : Int} (h : EL e C B tx) (ht : tx = 1 ∨ tx = 2 ∨ tx = 3) (hlast : lastT e tx ≠ 0) : Jv e tx:=by
 have h1:=h.core.one ht hlast
 have hk:=EP (e:=e) h.core.log tx
 have hl':=hk.log h.core.log (by omega) h1
 have hn:=hk.need h.core.log ht h1 hlast
 have hr:=h.core.room e.log.length (Nat.le_refl _)
 have hb:=h.core.b150
 have hs:=fun p hp => (h.step ht hlast).upm p hp
 have hps : Et e.mem = true:=Bb.2 ⟨h.mlen,fun p hp => (h.upm p hp).ok⟩
 refine ⟨h.core.log,AZ hps,by omega,by omega,h1,fun hc => ?_,hl',by omega⟩
 have hok:=hk.ok h.core.log (by omega)
 have hpg:=H9 h.core.log tx hc
 have hpn : (Da e tx).page.toNat < 5:=by omega
 have hmem:=Kk h.mlen (H9 h.core.log tx) (Da e tx).page.toNat
 rw [if_pos ⟨hc,by omega⟩] at hmem
 have hs1:=(hs _ hpn).ok
 rw [show pg (AY e tx).mem (Da e tx).page.toNat = _ from hmem] at hs1
 have hl:=(h.upm _ hpn).lsn
 simp only [IK,Bool.and_eq_true,decide_eq_true_eq]
 refine ⟨(h.upm _ hpn).ok,hok,hc,?_,by omega,hs1⟩
 show (pg e.mem (Da e tx).page.toNat).lsn < ((e.log.length + 1 : Nat) : Int)
 omega
theorem EL.WK {C : Nat → Page} {B : Nat} {tx : Int} (ht : tx = 1 ∨ tx = 2 ∨ tx = 3) : ∀ (k : Nat) (e : Eng),EL e C B tx → lastT e tx ≠ 0 → (U e.log tx e.log.length).length = k → R6 tx (k + 1) e
 | 0,e,h,hlast,hk => by
  have hs:=h.core.Q5 ht hlast
  have h0:=List.eq_nil_of_length_eq_zero hk
  refine ⟨hlast,h.Fj ht hlast,?_,(h.step ht hlast).core.log⟩
  show lastT (AY e tx) tx = 0
  rw [hs.2.2.1,if_pos h0]
 | k + 1,e,h,hlast,hk => by
  have hs:=h.core.Q5 ht hlast
  have hne : U e.log tx e.log.length ≠ []:=fun h0 => by rw [h0] at hk;cases hk
  exact ⟨hlast,h.Fj ht hlast,EL.WK ht k (AY e tx) (h.step ht hlast) (by rw [hs.2.2.1,if_neg hne];omega) (by rw [hs.1,List.length_tail,hk];omega)⟩
theorem Wv (e : Eng) (r : Rec) : (e.app r).log = e.log ++ [{ r with prev:=Ae e.log r.tx e.log.length }]:=rfl
theorem MQ (e : Eng) (r : Rec) : (e.app r).log.length = e.log.length + 1:=by rw [Wv];simp
theorem Inv.SC {x : Eng} {C : Nat → Page} {B n : Nat} {l : List Rec} (hx : Inv x C B) (hl : x.log = l) (hn : l.length = n + 1) : n + 1 + AR l (n + 1) ≤ 150:=by
 subst hl
 have hr:=hx.core.room (n + 1) (by omega)
 have hb:=hx.core.b150
 omega
theorem Inv.Pw {e x : Eng} {C : Nat → Page} {B : Nat} {ok : Bool} (hx : ok = true → Inv x C B) : Jt e ok x = if ok = true then (x,true) else (e,false):=by
 unfold Jt
 cases ok
 ·rw [if_neg (by simp),if_neg (by simp)]
 ·rw [if_pos ⟨rfl,Wp (hx rfl).core⟩,if_pos rfl]
def Ew (e : Eng) : List Int → Eng
 | [] => e
 | p :: ps => Ew (Cj e p.toNat) ps
theorem IE : ∀ (ps : List Int) (e : Eng),(Ew e ps).mem = e.mem ∧ (Ew e ps).log = e.log ∧ (Ew e ps).down = e.down ∧ (Ew e ps).disk.length = e.disk.length
 | [],e => ⟨rfl,rfl,rfl,rfl⟩
 | p :: ps,e => by
  obtain ⟨h1,h2,h3,h4⟩:=IE ps (Cj e p.toNat)
  exact ⟨h1,h2,h3,h4.trans (by simp [Cj])⟩
theorem KW : ∀ (ps : List Int) (e : Eng) (q : Nat),e.disk.length = 5 → q < 5 → (∀ p ∈ ps,0 ≤ p ∧ p < 5) → pg (Ew e ps).disk q = if (q : Int) ∈ ps then pg e.mem q else pg e.disk q
 | [],e,q,_,_,_ => by rw [if_neg (by simp)];rfl
 | p :: ps,e,q,h5,hq,hp => by
  have h1:=hp p (List.mem_cons_self ..)
  have ih:=KW ps (Cj e p.toNat) q (by simp [Cj,h5]) hq (fun x hx => hp x (List.mem_cons_of_mem _ hx))
  show pg (Ew (Cj e p.toNat) ps).disk q = _
  rw [ih]
  by_cases h : (q : Int) ∈ ps
  ·rw [if_pos h,if_pos (List.mem_cons_of_mem _ h)];rfl
  ·rw [if_neg h]
   show pg (e.disk.set p.toNat (pg e.mem p.toNat)) q = _
   rw [Eu (by omega)]
   by_cases e1 : p.toNat = q
   ·rw [if_pos e1,if_pos (by rw [show (q : Int) = p by omega];exact List.mem_cons_self ..),e1]
   ·rw [if_neg e1,if_neg (fun hx => by
     rcases List.mem_cons.1 hx with hx | hx
     ·omega
     ·exact h hx)]
theorem QX {e : Eng} {tx : Int} {ps : List Int} (h5 : e.disk.length = 5) (hm : ∀ p : Nat,p < 5 → ((p : Int) ∈ ps ↔ ld e.log tx e.log.length p = true)) (hp : ∀ p ∈ ps,0 ≤ p ∧ p < 5) : { (Ew e ps).app ⟨4,tx,0,0,0,0,0,0⟩ with safe:=(e.log.length + 1 : Nat) } = Ib e tx:=by
 obtain ⟨h1,h2,h3,h4⟩:=IE ps e
 have hd : (Ew e ps).disk = G7 e tx:=by
  refine List.ext_getElem (by rw [h4,h5];simp [G7]) (fun i h1' h2' => ?_)
  have hi : i < 5:=by rw [h4,h5] at h1';exact h1'
  have hx:=KW ps e i h5 hi hp
  have hy:=JI e tx hi
  simp only [pg,List.getD_eq_getElem?_getD,List.getElem?_eq_getElem h1',Option.getD_some] at hx
  simp only [pg,List.getD_eq_getElem?_getD,List.getElem?_eq_getElem h2',Option.getD_some] at hy
  rw [hx,hy]
  by_cases hl : ld e.log tx e.log.length i = true
  ·rw [if_pos ((hm i hi).2 hl),if_pos hl]
  ·rw [if_neg (fun h => hl ((hm i hi).1 h)),if_neg hl]
 unfold Eng.app Ib
 rw [if_neg (by simp [Cu])]
 rw [hd,h1,h2,h3]
theorem J9 {l : List Rec} (hl : Au l = true) {tx : Int} (h : Ae l tx l.length ≠ 0) : tx = 1 ∨ tx = 2 ∨ tx = 3:=by
 have hle:=Bc l tx l.length
 have hF:=Ag hl (k:=Ae l tx l.length - 1) (by omega)
 rcases I8 l tx l.length with h1 | h1
 ·exact absurd h1 h
 ·have h2:=hF.tx1
  have h3:=hF.tx3
  rw [h1] at h2 h3
  omega
def GA (e : Eng) (tx : Int) (X : Eng) : Eng × Bool:=if e.down = false ∧ Ae e.log tx e.log.length ≠ 0 then (X,true) else (e,false)
theorem Inv.T9 {e : Eng} {C : Nat → Page} {B : Nat} (h : Inv e C B) (n : Int) : Inv (Bf e ⟨8,0,0,0,n, []⟩) C B ∧ (0 ≤ n → (Bf e ⟨8,0,0,0,n, []⟩).down = true):=by
 have hp : Bf e ⟨8,0,0,0,n, []⟩ = if 0 ≤ n then BL e n else e:=by simp [Bf]
 rw [hp]
 split
 ·exact ⟨h.fall n,fun _ => rfl⟩
 ·rename_i hn
  exact ⟨h,fun hx => absurd hx hn⟩
theorem Inv.WM {e : Eng} {C : Nat → Page} {B : Nat} (h : Inv e C B) (n : Int) : Inv (Bf e ⟨9,0,0,0,n, []⟩) C B:=by
 have hp : Bf e ⟨9,0,0,0,n, []⟩ = if e.down = true ∧ 0 ≤ n then La e n.toNat else e:=by simp [Bf]
 rw [hp]
 split
 ·rename_i hx
  exact h.rise hx.1 _
 ·exact h
theorem Inv.Xq {e : Eng} {C : Nat → Page} {B : Nat} (h : Inv e C B) (hd : e.down = true) : (Bf e ⟨9,0,0,0,150, []⟩).down = false ∧ Ai (Bf e ⟨9,0,0,0,150, []⟩) = 0:=by
 have hp : Bf e ⟨9,0,0,0,150, []⟩ = La e 150:=by simp [Bf,hd]
 rw [hp]
 exact h.rises h.Jk
def Sv (ps : List Page) (C : Nat → Page) : Prop:=ps.length = 5 ∧ ∀ p,p < 5 → (pg ps p).owner = (C p).owner ∧ (pg ps p).vals = (C p).vals
theorem Inv.has {e : Eng} {C : Nat → Page} {B : Nat} (h : Inv e C B) (hup : e.down = false) (h0 : Ai e = 0) : Sv e.mem C:=⟨h.mlen,fun _ hp => h.truth hup h0 hp⟩
theorem Sv.same {a b : List Page} {C : Nat → Page} (h : Sv a C) (g : Sv b C) : a.length = b.length ∧ ∀ k,k < a.length → (pg a k).owner = (pg b k).owner ∧ (pg a k).vals = (pg b k).vals:=
 ⟨h.1.trans g.1.symm,fun k hk => by rw [h.1] at hk;exact ⟨(h.2 k hk).1.trans (g.2 k hk).1.symm,(h.2 k hk).2.trans (g.2 k hk).2.symm⟩⟩
def NP (C : Nat → Page) (B : Nat) (e : Eng) : Prop:=Inv e C B ∧ (e.down = true ∨ e.log = [])
theorem NP.start {e : Eng} {C : Nat → Page} {B : Nat} (h : Inv e C B) {n : Int} (hn : 0 ≤ n) : NP C B (Bf e ⟨8,0,0,0,n, []⟩):=⟨(h.T9 n).1, .inl ((h.T9 n).2 hn)⟩
theorem NP.round {e : Eng} {C : Nat → Page} {B : Nat} (h : NP C B e) (n : Int) {m : Int} (hm : m ≤ 1) : NP C B (Bf (Bf e ⟨9,0,0,0,n, []⟩) ⟨8,0,0,0,(Bf e ⟨9,0,0,0,n, []⟩).log.length - m, []⟩):=by
 have h1:=h.1.WM n
 obtain ⟨X,hX⟩ : ∃ X,Bf e ⟨9,0,0,0,n, []⟩ = X:=⟨_,rfl⟩
 rw [hX] at h1 ⊢
 refine ⟨(h1.T9 _).1,?_⟩
 by_cases h0 : 0 ≤ (X.log.length : Int) - m
 ·exact .inl ((h1.T9 _).2 h0)
 ·have hl : X.log = []:=List.eq_nil_of_length_eq_zero (by omega)
  have hp : Bf X ⟨8,0,0,0,(X.log.length : Int) - m, []⟩ = X:=by
   have : Bf X ⟨8,0,0,0,(X.log.length : Int) - m, []⟩ = if 0 ≤ (X.log.length : Int) - m then BL X ((X.log.length : Int) - m) else X:=by simp [Bf]
   rw [this,if_neg h0]
  rw [hp]
  exact .inr hl
theorem NP.last {e : Eng} {C : Nat → Page} {B : Nat} (h : NP C B e) : Inv (Bf e ⟨9,0,0,0,150, []⟩) C B ∧ (Bf e ⟨9,0,0,0,150, []⟩).down = false ∧ Sv (Bf e ⟨9,0,0,0,150, []⟩).mem C:=by
 have h1:=h.1.WM 150
 have h2 : (Bf e ⟨9,0,0,0,150, []⟩).down = false ∧ Ai (Bf e ⟨9,0,0,0,150, []⟩) = 0:=by
  cases hd : e.down
  ·have hl : e.log = []:=h.2.resolve_left (by simp [hd])
   have hp : Bf e ⟨9,0,0,0,150, []⟩ = e:=by simp [Bf,hd]
   rw [hp]
   have hz : ∀ t,lastT e t = 0:=fun t => by show Ae e.log t e.log.length = 0;rw [hl];rfl
   exact ⟨hd,by simp [Ai,hz]⟩
  ·exact h.1.Xq hd
 exact ⟨h1,h2.1,h1.has h2.1 h2.2⟩
theorem Wh {e : Eng} (h0 : Ai e = 0) : BX e.log 3 = []:=by
 obtain ⟨h1,h2,h3⟩:=EJ h0
 rw [EG,if_pos h1,if_pos h2,if_pos h3]
 rfl
theorem Sv.done {e : Eng} {C : Nat → Page} {tx : Int} {ps : List Page} (h : Sv ps (N9 e tx C)) {p : Nat} (hp : p < 5) (hh : has e.log tx e.log.length p = true) : (pg ps p).owner = (pg e.mem p).owner ∧ (pg ps p).vals = (pg e.mem p).vals:=by
 have:=h.2 p hp
 rw [N9,if_pos hh] at this
 exact this
end Go.Proofs.YtjeodgfkilhkhaaGreat
