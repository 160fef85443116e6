/- A part of the proof: what the last text of the claim says leans on this one. -/
import Derived.Test.YtofgeajaajfiaaaGreatZA2
set_option linter.unusedVariables false
set_option linter.unusedSimpArgs false
namespace Go.Proofs.YtofgeajaajfiaaaGreat
def Agree (l l' : List Rec) (n : Nat) : Prop := ∀ k,k < n → rc l k = rc l' k
theorem Agree.le {l l' : List Rec} {n m : Nat} (h : Agree l l' n) (hm : m ≤ n) : Agree l l' m:=fun k hk => h k (by omega)
theorem Agree.symm {l l' : List Rec} {n : Nat} (h : Agree l l' n) : Agree l' l n:=fun k hk => (h k hk).symm
theorem M7 (l : List Rec) (n : Nat) : Agree (l.take n) l n:=fun k hk => by
 simp [rc,List.getD_eq_getElem?_getD,List.getElem?_take,hk]
theorem Cf (l m : List Rec) : Agree (l ++ m) l l.length:=fun k hk => by
 simp [rc,List.getD_eq_getElem?_getD,List.getElem?_append_left hk]
theorem Ns {l m : List Rec} {k : Nat} (h : k < l.length) : rc (l ++ m) k = rc l k:=Cf l m k h
theorem BF (l : List Rec) (r : Rec) : rc (l ++ [r]) l.length = r:=by
 simp [rc,List.getD_eq_getElem?_getD]
theorem D5 {l l' : List Rec} (tx : Int) : ∀ {n : Nat},Agree l l' n → Ai l tx n = Ai l' tx n
 | 0,_ => rfl
 | n + 1,h => by
  unfold Ai
  rw [h n (by omega),D5 tx (h.le (Nat.le_succ n))]
theorem NU {l l' : List Rec} {n k : Nat} (h : Agree l l' n) (hk : k < n) : BP l (k + 1) = BP l' (k + 1):=by
 simp only [BP,Nat.add_sub_cancel]
 rw [h k hk]
theorem RP {l l' : List Rec} {n k : Nat} (h : Agree l l' n) (hk : k < n) : F6 l (k + 1) = F6 l' (k + 1):=by
 simp only [F6,Nat.add_sub_cancel]
 rw [h k hk]
theorem JM {l l' : List Rec} {n : Nat} (h : Agree l l' n) (m : Nat) : m ≤ n → BD l m = BD l' m:=by
 induction m using Nat.strongRecOn with
 | _ m ih =>
  intro hm
  match m with
  | 0 => rw [Cs,Cs]
  | m + 1 =>
   rw [BD,BD,NU h (by omega)]
   split
   ·rw [ih _ (by omega) (by omega)]
   ·rfl
theorem OA {l l' : List Rec} {n : Nat} (h : Agree l l' n) (m : Nat) : m ≤ n → D8 l m = D8 l' m:=by
 induction m using Nat.strongRecOn with
 | _ m ih =>
  intro hm
  match m with
  | 0 => rw [Db,Db]
  | m + 1 =>
   rw [D8,D8,NU h (by omega),RP h (by omega),h m (by omega)]
   split
   ·split
    ·rw [ih _ (by omega) (by omega)]
    ·rfl
   ·split
    ·split
     ·rw [ih _ (by omega) (by omega)]
     ·rfl
    ·split
     ·rw [ih _ (by omega) (by omega)]
     ·rfl
theorem E8 {l : List Rec} (n : Nat) : ∀ m ∈ BD l n,0 < m ∧ m ≤ n:=by
 induction n using Nat.strongRecOn with
 | _ n ih =>
  intro m hm
  match n with
  | 0 => rw [Cs] at hm;cases hm
  | n + 1 =>
   rw [BD] at hm
   rcases List.mem_cons.1 hm with rfl | hm
   ·omega
   ·split at hm
    ·have:=ih _ (by omega) m hm
     omega
    ·cases hm
theorem Rs {l : List Rec} (n : Nat) : ∀ m ∈ D8 l n,0 < m ∧ m ≤ n:=by
 induction n using Nat.strongRecOn with
 | _ n ih =>
  intro m hm
  match n with
  | 0 => rw [Db] at hm;cases hm
  | n + 1 =>
   rw [D8] at hm
   split at hm
   ·rcases List.mem_cons.1 hm with rfl | hm
    ·omega
    ·split at hm
     ·have:=ih _ (by omega) m hm
      omega
     ·cases hm
   ·split at hm
    ·split at hm
     ·have:=ih _ (by omega) m hm
      omega
     ·cases hm
    ·split at hm
     ·have:=ih _ (by omega) m hm
      omega
     ·cases hm
theorem LA {α : Type} {l : List α} {p q : α → Bool} (h : ∀ x ∈ l,p x = q x) : l.any p = l.any q:=by
 induction l with
 | nil => rfl
 | cons a t ih => rw [List.any_cons,List.any_cons,h a (by simp),ih fun x hx => h x (by simp [hx])]
theorem TP {l l' : List Rec} {n : Nat} (h : Agree l l' n) (p : Int) {m : Nat} (hm : m ≤ n) : GH l m p = GH l' m p:=by
 rw [GH,GH,JM h m hm]
 exact LA fun x hx => by
  have:=E8 m x hx
  rw [h (x - 1) (by omega)]
theorem Sb {l l' : List Rec} {n : Nat} (h : Agree l l' n) (p : Int) {m : Nat} (hm : m ≤ n) : Fg l m p = Fg l' m p:=by
 rw [Fg,Fg,JM h m hm]
 exact LA fun x hx => by
  have:=E8 m x hx
  rw [h (x - 1) (by omega)]
theorem TU {l l' : List Rec} {n k : Nat} (h : Agree l l' n) (hk : k < n) : atOk l k = atOk l' k:=by
 have hl:=D5 (rc l' k).tx (h.le (show k ≤ n by omega))
 unfold atOk
 rw [h k hk,hl]
 by_cases hn : (rc l' k).next ≤ k
 ·by_cases h0 : (rc l' k).next ≤ 0
  ·simp [h0]
  ·rw [h ((rc l' k).next.toNat - 1) (by omega)]
 ·simp [hn]
theorem JC {l l' : List Rec} : ∀ {n : Nat},Agree l l' n → EC l n = EC l' n
 | 0,_ => rfl
 | n + 1,h => by
  unfold EC
  rw [JC (h.le (Nat.le_succ n)),TU h (by omega)]
theorem EA {l l' : List Rec} (p : Int) : ∀ {n : Nat},Agree l l' n → BK l p n = BK l' p n
 | 0,_ => rfl
 | n + 1,h => by
  unfold BK
  rw [EA p (h.le (Nat.le_succ n)),h n (by omega)]
theorem LX {l : List Rec} (h : AB l = true) (n : Nat) : AB (l.take n) = true:=by
  simp only [AB,Bool.and_eq_true,decide_eq_true_eq] at h ⊢
  rw [List.length_take]
  refine ⟨?_,by omega⟩
  rcases Nat.lt_or_ge n l.length with hn | hn
  · rw [Nat.min_eq_left (by omega),JC (M7 l n)]
    have hp : ∀ {m k},EC l m = true → k ≤ m → EC l k = true:=by
      intro m
      induction m with
      | zero => intro k hm hk; obtain rfl : k = 0 := by omega
                exact hm
      | succ m ih =>
        intro k hm hk
        rcases Nat.eq_or_lt_of_le hk with rfl | hk
        · exact hm
        · simp only [EC,Bool.and_eq_true] at hm
          exact ih hm.1 (by omega)
    exact hp h.1 (by omega)
  · rw [List.take_of_length_le hn,Nat.min_eq_right hn]
    exact h.1
theorem JB {l : List Rec} {r : Rec} (h : AB l = true) (hr : CZ r = true) (hp : r.prev = Ai l r.tx l.length) (hn : r.next ≤ l.length) (hn2 : r.next ≤ 0 ∨ (rc l (r.next.toNat - 1)).tx = r.tx) (hl : l.length + 1 ≤ 150) : AB (l ++ [r]) = true:=by
 simp only [AB,Bool.and_eq_true,decide_eq_true_eq] at h ⊢
 rw [List.length_append,List.length_singleton]
 refine ⟨?_,hl⟩
 rw [EC,JC (Cf l [r]),h.1,Bool.true_and,atOk,BF,D5 r.tx (Cf l [r])]
 simp only [Bool.and_eq_true,beq_iff_eq,decide_eq_true_eq,Bool.or_eq_true]
 refine ⟨⟨⟨hr,hp⟩,hn⟩,?_⟩
 rcases hn2 with hn2 | hn2
 ·exact .inl hn2
 ·by_cases h0 : r.next ≤ 0
  ·exact .inl h0
  ·refine .inr ?_
   rw [Ns (by omega)]
   exact hn2
def U (l : List Rec) (tx : Int) (n : Nat) : List Nat:=D8 l (Ai l tx n)
def Ch (l : List Rec) (tx : Int) (n : Nat) : List Nat:=BD l (Ai l tx n)
def has (l : List Rec) (tx : Int) (n : Nat) (p : Int) : Bool:=GH l (Ai l tx n) p
theorem QT {l : List Rec} {tx p : Int} {n : Nat} : has l tx n p = true ↔ ∃ m ∈ Ch l tx n,(rc l (m - 1)).page = p:=by
 simp [has,GH,Ch]
theorem Gj {l : List Rec} {tx : Int} {k : Nat} (h : (rc l k).tx ≠ tx) : Ai l tx (k + 1) = Ai l tx k:=by
 rw [Ai,if_neg h]
theorem Je {l : List Rec} {tx : Int} {k : Nat} (h : (rc l k).tx = tx) (he : EO (rc l k).kind = true) : Ai l tx (k + 1) = 0:=by
 rw [Ai,if_pos h,if_pos he]
theorem ET {l : List Rec} {tx : Int} {k : Nat} (h : (rc l k).tx = tx) (he : EO (rc l k).kind = false) : Ai l tx (k + 1) = k + 1:=by
 rw [Ai,if_pos h,if_neg (by simp [he])]
theorem IJ {l : List Rec} {tx : Int} {k : Nat} (h : (rc l k).tx ≠ tx) : U l tx (k + 1) = U l tx k:=by rw [U,Gj h,U]
theorem Qp {l : List Rec} {tx : Int} {k : Nat} (h : (rc l k).tx = tx) (he : EO (rc l k).kind = true) : U l tx (k + 1) = []:=by rw [U,Je h he,Db]
theorem Ew {k : Int} (h : k = 1 ∨ k = 2 ∨ k = 3 ∨ k = 6) : EO k = false:=by
 simp only [EO,Bool.or_eq_false_iff,beq_eq_false_iff_ne];omega
theorem UO {l : List Rec} (hl : AB l = true) {k : Nat} (hk : k < l.length) (h : (rc l k).kind = 1 ∨ (rc l k).kind = 2) : U l (rc l k).tx (k + 1) = (k + 1) :: U l (rc l k).tx k:=by
 have F:=Aq hl hk
 rw [U,ET rfl (Ew (by omega)),Mf h F.prev_le,F.last,U]
theorem U0 {l : List Rec} (hl : AB l = true) {k : Nat} (hk : k < l.length) (h : (rc l k).kind = 3) : U l (rc l k).tx (k + 1) = U l (rc l k).tx k:=by
 have F:=Aq hl hk
 rw [U,ET rfl (Ew (by omega)),Nk (by omega) (by omega) (by omega) F.prev_le,F.last,U]
theorem Pv {l : List Rec} {tx : Int} {k : Nat} (h : (rc l k).tx ≠ tx) : Ch l tx (k + 1) = Ch l tx k:=by rw [Ch,Gj h,Ch]
theorem Yv {l : List Rec} {tx : Int} {k : Nat} (h : (rc l k).tx = tx) (he : EO (rc l k).kind = true) : Ch l tx (k + 1) = []:=by rw [Ch,Je h he,Cs]
theorem Nf {l : List Rec} (hl : AB l = true) {k : Nat} (hk : k < l.length) (h : EO (rc l k).kind = false) : Ch l (rc l k).tx (k + 1) = (k + 1) :: Ch l (rc l k).tx k:=by
 have F:=Aq hl hk
 rw [Ch,ET rfl h,Eh F.prev_le,F.last,Ch]
structure He (l : List Rec) (k : Nat) : Prop where
 own : (rc l k).kind = 2 → (rc l k).new ≠ 0 → (rc l k).old = 0
 Jt : (rc l k).kind = 6 → ∃ m ms,U l (rc l k).tx k = m :: ms ∧ rc l k = Bz (rc l (m - 1)) (rc l k).prev
 ended : (rc l k).kind = 5 → U l (rc l k).tx k = []
 fin : EO (rc l k).kind = true → 0 < Ai l (rc l k).tx k
 lock : (rc l k).kind = 1 ∨ (rc l k).kind = 2 ∨ (rc l k).kind = 3 → ∀ t,t ≠ (rc l k).tx → has l t k (rc l k).page = false
def F8 (l : List Rec) : Prop := ∀ k,k < l.length → He l k
theorem H9 {l l' : List Rec} {n : Nat} (h : Agree l l' n) (tx : Int) {k : Nat} (hk : k ≤ n) : U l tx k = U l' tx k:=by
 rw [U,U,D5 tx (h.le hk)]
 exact OA h _ (by have:=Bc l' tx k;omega)
theorem SX {l l' : List Rec} {n : Nat} (h : Agree l l' n) (tx : Int) {k : Nat} (hk : k ≤ n) : Ch l tx k = Ch l' tx k:=by
 rw [Ch,Ch,D5 tx (h.le hk)]
 exact JM h _ (by have:=Bc l' tx k;omega)
theorem Hw {l l' : List Rec} {n : Nat} (h : Agree l l' n) (tx p : Int) {k : Nat} (hk : k ≤ n) : has l tx k p = has l' tx k p:=by
 rw [has,has,D5 tx (h.le hk)]
 exact TP h p (by have:=Bc l' tx k;omega)
theorem Oc {l : List Rec} {tx : Int} {n m : Nat} (h : m ∈ U l tx n) : 0 < m ∧ m ≤ n:=by
 have:=Rs _ m h
 have:=Bc l tx n
 omega
theorem Ll {l l' : List Rec} {n k : Nat} (h : Agree l l' n) (hk : k < n) (hp : He l k) : He l' k:=by
 have e:=h k hk
 obtain ⟨h1,h2,h3,h4,h5⟩:=hp
 rw [e] at h1 h2 h3 h4 h5
 refine ⟨h1,fun k6 => ?_,fun k5 => ?_,fun he => ?_,fun hk3 t ht => ?_⟩
 ·obtain ⟨m,ms,hm,hb⟩:=h2 k6
  have hm2 : m ∈ U l (rc l' k).tx k:=by rw [hm];simp
  have:=Oc hm2
  refine ⟨m,ms,by rw [← H9 h _ (by omega)];exact hm,?_⟩
  rw [← h (m - 1) (by omega)]
  exact hb
 ·rw [← H9 h _ (by omega)];exact h3 k5
 ·rw [← D5 _ (h.le (by omega))];exact h4 he
 ·rw [← Hw h _ _ (by omega)];exact h5 hk3 t ht
theorem RA {l : List Rec} (h : F8 l) (n : Nat) : F8 (l.take n):=fun k hk => by
 rw [List.length_take] at hk
 exact Ll (M7 l n).symm (by omega) (h k (by omega))
theorem FM {l : List Rec} {r : Rec} (h : F8 l) (hr : He (l ++ [r]) l.length) : F8 (l ++ [r]):=fun k hk => by
 rw [List.length_append,List.length_singleton] at hk
 rcases Nat.lt_or_ge k l.length with hlt | hge
 ·exact Ll (Cf l [r]).symm hlt (h k hlt)
 ·obtain rfl : k = l.length:=by omega
  exact hr
theorem TY {l : List Rec} (hl : AB l = true) (hp : F8 l) {k : Nat} (hk : k < l.length) (h : (rc l k).kind = 6) : ∃ m,U l (rc l k).tx k = m :: U l (rc l k).tx (k + 1) ∧ rc l k = Bz (rc l (m - 1)) (rc l k).prev:=by
 have F:=Aq hl hk
 obtain ⟨m,ms,hm,hb⟩:=(hp k hk).Jt h
 refine ⟨m,?_,hb⟩
 have hmk:=Oc (show m ∈ U l (rc l k).tx k by rw [hm];simp)
 have hnx : F6 l (k + 1) = BP l m:=by
  simp only [F6,BP,Nat.add_sub_cancel]
  rw [hb]
  rfl
 obtain ⟨h1,h2,h3,h4⟩:=Gf _ m ms hm
 have Fm:=Aq hl (k:=m - 1) (by omega)
 have hpm:=Fm.prev_le
 rw [show m - 1 + 1 = m by omega] at hpm
 rw [hm,(h4 (by omega)).1,U,ET rfl (Ew (by omega)),Ni h F.next_le,hnx]
theorem M5 {l : List Rec} (hl : AB l = true) {k : Nat} (hk : k < l.length) : (rc l k).kind = 1 ∨ (rc l k).kind = 2 ∨ (rc l k).kind = 3 ∨ (rc l k).kind = 4 ∨ (rc l k).kind = 5 ∨ (rc l k).kind = 6:=by
 have:=(Aq hl hk).ok
 rw [Dc] at this
 omega
theorem XI {l : List Rec} (hl : AB l = true) (hp : F8 l) (tx : Int) : ∀ n,n ≤ l.length → ∀ m ∈ U l tx n,m ∈ Ch l tx n
 | 0,_,m,h => by simp [U,Ai,Db] at h
 | n + 1,hn,m,h => by
  have ih:=XI hl hp tx n (by omega)
  by_cases ht : (rc l n).tx = tx
  ·subst ht
   rcases M5 hl (k:=n) (by omega) with hk | hk | hk | hk | hk | hk
   ·rw [Nf hl (by omega) (Ew (by omega))]
    rw [UO hl (by omega) (.inl hk)] at h
    rcases List.mem_cons.1 h with rfl | h
    ·simp
    ·exact List.mem_cons_of_mem _ (ih m h)
   ·rw [Nf hl (by omega) (Ew (by omega))]
    rw [UO hl (by omega) (.inr hk)] at h
    rcases List.mem_cons.1 h with rfl | h
    ·simp
    ·exact List.mem_cons_of_mem _ (ih m h)
   ·rw [Nf hl (by omega) (Ew (by omega))]
    rw [U0 hl (by omega) hk] at h
    exact List.mem_cons_of_mem _ (ih m h)
   ·rw [Qp rfl (by rw [hk];rfl)] at h;cases h
   ·rw [Qp rfl (by rw [hk];rfl)] at h;cases h
   ·rw [Nf hl (by omega) (Ew (by omega))]
    obtain ⟨m',hm',_⟩:=TY hl hp (k:=n) (by omega) hk
    exact List.mem_cons_of_mem _ (ih m (by rw [hm'];exact List.mem_cons_of_mem _ h))
  ·rw [IJ ht] at h
   rw [Pv ht]
   exact ih m h
theorem MJ {l : List Rec} (hl : AB l = true) {k : Nat} (hk : k < l.length) (h : EO (rc l k).kind = false) (p : Int) : has l (rc l k).tx (k + 1) p = ((rc l k).page == p || has l (rc l k).tx k p):=by
 have F:=Aq hl hk
 rw [has,ET rfl h,Qm F.prev_le,F.last,has]
theorem EX {l : List Rec} {tx : Int} {k : Nat} (h : (rc l k).tx ≠ tx) (p : Int) : has l tx (k + 1) p = has l tx k p:=by rw [has,Gj h,has]
theorem QU {l : List Rec} {tx : Int} {k : Nat} (h : (rc l k).tx = tx) (he : EO (rc l k).kind = true) (p : Int) : has l tx (k + 1) p = false:=by rw [has,Je h he,Gn]
theorem MI {l : List Rec} (hl : AB l = true) (hp : F8 l) {tx : Int} {n m : Nat} (hn : n ≤ l.length) (h : m ∈ U l tx n) : has l tx n (rc l (m - 1)).page = true:=QT.2 ⟨m,XI hl hp tx n hn m h,rfl⟩
theorem Ie {l : List Rec} (hl : AB l = true) (hp : F8 l) : ∀ n,n ≤ l.length → ∀ t t' p,t ≠ t' → has l t n p = true → has l t' n p = false
 | 0,_,t,t',p,_,h => by simp [has,Ai,Gn] at h
 | n + 1,hn,t,t',p,hne,h => by
  have ih:=Ie hl hp n (by omega)
  have hn' : n < l.length:=by omega
  cases he : EO (rc l n).kind
  ·have hnew : ∀ s,s ≠ (rc l n).tx → has l s n (rc l n).page = false:=by
    intro s hs
    rcases M5 hl hn' with hk | hk | hk | hk | hk | hk
    ·exact (hp n hn').lock (by omega) s hs
    ·exact (hp n hn').lock (by omega) s hs
    ·exact (hp n hn').lock (by omega) s hs
    ·rw [hk] at he;cases he
    ·rw [hk] at he;cases he
    ·obtain ⟨m,hm,hb⟩:=TY hl hp hn' hk
     have h1:=MI hl hp (tx:=(rc l n).tx) (n:=n) (m:=m) (by omega) (by rw [hm];simp)
     have h2 : (rc l n).page = (rc l (m - 1)).page:=by rw [hb];rfl
     rw [h2]
     exact ih _ _ _ (Ne.symm hs) h1
   by_cases ht : (rc l n).tx = t
   ·subst ht
    rw [EX hne]
    rw [MJ hl hn' he,Bool.or_eq_true,beq_iff_eq] at h
    rcases h with rfl | h
    ·exact hnew t' (Ne.symm hne)
    ·exact ih _ _ _ hne h
   ·rw [EX ht] at h
    by_cases ht' : (rc l n).tx = t'
    ·subst ht'
     rw [MJ hl hn' he,ih _ _ _ hne h,Bool.or_false,beq_eq_false_iff_ne]
     rintro rfl
     rw [hnew t hne] at h
     cases h
    ·rw [EX ht']
     exact ih _ _ _ hne h
  ·by_cases ht : (rc l n).tx = t
   ·rw [QU ht he] at h;cases h
   ·rw [EX ht] at h
    by_cases ht' : (rc l n).tx = t'
    ·exact QU ht' he p
    ·rw [EX ht']
     exact ih _ _ _ hne h
def F (l : List Rec) (n : Nat) (p t : Int) : List Nat:=(U l t n).filter fun m => (rc l (m - 1)).page == p
def UA (l : List Rec) (n : Nat) (p : Int) : List Nat:=F l n p 1 ++ (F l n p 2 ++ F l n p 3)
theorem X7 {l : List Rec} (hl : AB l = true) (hp : F8 l) {n : Nat} (hn : n ≤ l.length) {p t : Int} (h : has l t n p = false) : F l n p t = []:=by
 rw [F,List.filter_eq_nil_iff]
 intro m hm
 have h1:=MI hl hp hn hm
 rw [beq_iff_eq]
 rintro rfl
 rw [h] at h1
 cases h1
theorem Kj {l : List Rec} (hl : AB l = true) {k : Nat} (hk : k < l.length) : (rc l k).tx = 1 ∨ (rc l k).tx = 2 ∨ (rc l k).tx = 3:=by
 have F:=Aq hl hk
 have:=F.tx1
 have:=F.tx3
 omega
theorem M8 {l : List Rec} (hl : AB l = true) (hp : F8 l) {n : Nat} (hn : n ≤ l.length) {p t : Int} (ht : t = 1 ∨ t = 2 ∨ t = 3) (h : ∀ s,s ≠ t → has l s n p = false) : UA l n p = F l n p t:=by
 have hF : ∀ s,s ≠ t → F l n p s = []:=fun s hs => X7 hl hp hn (h s hs)
 rw [UA]
 rcases ht with rfl | rfl | rfl
 ·rw [hF 2 (by decide),hF 3 (by decide)];simp
 ·rw [hF 1 (by decide),hF 3 (by decide)];simp
 ·rw [hF 1 (by decide),hF 2 (by decide)];simp
theorem Fp {l l' : List Rec} {n : Nat} (h : Agree l l' n) (p : Int) {k : Nat} (hk : k ≤ n) : UA l k p = UA l' k p:=by
 have hF : ∀ t,F l k p t = F l' k p t:=fun t => by
  rw [F,F,H9 h t hk]
  refine List.filter_congr fun m hm => ?_
  have:=Oc hm
  rw [h (m - 1) (by omega)]
 rw [UA,UA,hF,hF,hF]
theorem MX {l : List Rec} {n : Nat} {p : Int} (h : ∀ t,F l (n + 1) p t = F l n p t) : UA l (n + 1) p = UA l n p:=by
 rw [UA,UA,h,h,h]
theorem U1 {l : List Rec} (hl : AB l = true) (hp : F8 l) {n : Nat} (hn : n < l.length) (h : (rc l n).kind = 1 ∨ (rc l n).kind = 2) (p : Int) : UA l (n + 1) p = if (rc l n).page = p then (n + 1) :: UA l n p else UA l n p:=by
 have hU:=UO hl hn h
 split
 ·rename_i e
  subst e
  have hlk:=(hp n hn).lock (by omega)
  rw [M8 hl hp (by omega) (Kj hl hn) hlk,M8 hl hp (n:=n + 1) (by omega) (Kj hl hn) (fun s hs => by rw [EX (Ne.symm hs)];exact hlk s hs),F,hU,List.filter_cons,F]
  simp
 ·rename_i e
  refine MX fun t => ?_
  by_cases ht : (rc l n).tx = t
  ·subst ht
   rw [F,hU,List.filter_cons,F]
   simp [e]
  ·rw [F,IJ ht,F]
theorem UR {l : List Rec} (hl : AB l = true) {n : Nat} (hn : n < l.length) (h : (rc l n).kind = 3) (p : Int) : UA l (n + 1) p = UA l n p:=by
 refine MX fun t => ?_
 by_cases ht : (rc l n).tx = t
 ·subst ht
  rw [F,U0 hl hn h,F]
 ·rw [F,IJ ht,F]
theorem Pp {l : List Rec} (hp : F8 l) {n : Nat} (hn : n < l.length) (h : (rc l n).kind = 5) (p : Int) : UA l (n + 1) p = UA l n p:=by
 refine MX fun t => ?_
 by_cases ht : (rc l n).tx = t
 ·subst ht
  rw [F,Qp rfl (by rw [h];rfl),F,(hp n hn).ended h]
 ·rw [F,IJ ht,F]
theorem Xw {l : List Rec} (hl : AB l = true) (hp : F8 l) {n : Nat} (hn : n < l.length) (h : (rc l n).kind = 4) (p : Int) : UA l (n + 1) p = if has l (rc l n).tx n p = true then [] else UA l n p:=by
 have hF : F l (n + 1) p (rc l n).tx = []:=by rw [F,Qp rfl (by rw [h];rfl)];rfl
 split
 ·rename_i e
  rw [M8 hl hp (n:=n + 1) (by omega) (Kj hl hn) (fun s hs => by rw [EX (Ne.symm hs)];exact Ie hl hp n (by omega) _ _ _ (Ne.symm hs) e),hF]
 ·rename_i e
  refine MX fun t => ?_
  by_cases ht : (rc l n).tx = t
  ·subst ht
   rw [hF,X7 hl hp (by omega) (by simpa using e)]
  ·rw [F,IJ ht,F]
theorem Ra {l : List Rec} (hl : AB l = true) (hp : F8 l) {n : Nat} (hn : n < l.length) (h : (rc l n).kind = 6) : ∃ m,rc l n = Bz (rc l (m - 1)) (rc l n).prev ∧ ∀ p,UA l n p = if (rc l n).page = p then m :: UA l (n + 1) p else UA l (n + 1) p:=by
 obtain ⟨m,hm,hb⟩:=TY hl hp hn h
 refine ⟨m,hb,fun p => ?_⟩
 have hpg : (rc l n).page = (rc l (m - 1)).page:=by rw [hb];rfl
 have hhas:=MI hl hp (tx:=(rc l n).tx) (n:=n) (m:=m) (by omega) (by rw [hm];simp)
 rw [← hpg] at hhas
 split
 ·rename_i e
  subst e
  have hlk : ∀ s,s ≠ (rc l n).tx → has l s n (rc l n).page = false:=fun s hs => Ie hl hp n (by omega) _ _ _ (Ne.symm hs) hhas
  rw [M8 hl hp (by omega) (Kj hl hn) hlk,M8 hl hp (n:=n + 1) (by omega) (Kj hl hn) (fun s hs => by rw [EX (Ne.symm hs)];exact hlk s hs),F,hm,List.filter_cons,F]
  simp [hpg]
 ·rename_i e
  refine (MX fun t => ?_).symm
  by_cases ht : (rc l n).tx = t
  ·subst ht
   rw [F,F,hm,List.filter_cons]
   rw [hpg] at e
   simp [e]
  ·rw [F,IJ ht,F]
theorem KP (p : Page) (r : Rec) : (Bg p r).lsn = p.lsn:=by
 unfold Bg
 split
 ·rfl
 ·split <;> rfl
theorem V8 (p : Page) (r : Rec) (k : Int) : Bg ⟨k,p.owner,p.vals⟩ r = ⟨k,(Bg p r).owner,(Bg p r).vals⟩:=by
 unfold Bg
 split
 ·rfl
 ·split <;> rfl
theorem Iy {p q : Page} (r : Rec) (h : p.owner = q.owner) : (Bg p r).owner = (Bg q r).owner:=by
 unfold Bg
 split
 ·exact h
 ·split <;> rfl
theorem I9 {p : Page} {k : Int} (h : Bt p = true) (h0 : 0 ≤ k) (h1 : k ≤ 150) : Bt ⟨k,p.owner,p.vals⟩ = true:=by
 rw [Cj] at h ⊢
 exact ⟨h0,h1,h.2.2⟩
theorem RF {p q : Page} (h1 : p.lsn = q.lsn) (h2 : p.owner = q.owner) (h3 : p.vals = q.vals) : p = q:=by
 cases p;cases q
 simp only at h1 h2 h3
 rw [h1,h2,h3]
def EN (l : List Rec) (c : Page) : List Nat → Page → Prop
 | [],P => Bt P = true ∧ P.owner = c.owner ∧ P.vals = c.vals
 | m :: ms,P => Bt P = true ∧ EN l c ms (Bg P (Bz (rc l (m - 1)) 0))
theorem J7 {l : List Rec} {c : Page} {ms : List Nat} {P : Page} (h : EN l c ms P) : Bt P = true:=by
 cases ms
 ·exact h.1
 ·exact h.1
theorem JA {l : List Rec} {c : Page} {k : Int} (h0 : 0 ≤ k) (h1 : k ≤ 150) : ∀ {ms : List Nat} {P : Page},EN l c ms P → EN l c ms ⟨k,P.owner,P.vals⟩
 | [],P,h => ⟨I9 h.1 h0 h1,h.2⟩
 | m :: ms,P,h => ⟨I9 h.1 h0 h1,by rw [V8];exact JA h0 h1 h.2⟩
theorem Dh {l l' : List Rec} {c : Page} {n : Nat} (h : Agree l l' n) : ∀ {ms : List Nat} {P : Page},(∀ m ∈ ms,0 < m ∧ m ≤ n) → EN l c ms P → EN l' c ms P
 | [],_,_,hp => hp
 | m :: ms,P,hm,hp => ⟨hp.1,by
  have:=hm m (by simp)
  rw [← h (m - 1) (by omega)]
  exact Dh h (fun x hx => hm x (by simp [hx])) hp.2⟩
def QY (l : List Rec) (ms : List Nat) : Prop := ∃ m ∈ ms,(rc l (m - 1)).slot < 0 ∧ (rc l (m - 1)).old = 0
theorem Eo {l l' : List Rec} {n : Nat} {ms : List Nat} (h : Agree l l' n) (hm : ∀ m ∈ ms,0 < m ∧ m ≤ n) (hz : QY l ms) : QY l' ms:=by
 obtain ⟨m,h1,h2,h3⟩:=hz
 have:=hm m h1
 rw [h (m - 1) (by omega)] at h2 h3
 exact ⟨m,h1,h2,h3⟩
theorem Gc {p : Page} {r : Rec} (h : r.slot < 0) (h0 : r.new = 0) : Bg p r = ⟨p.lsn,0, [0,0,0]⟩:=by
 rw [Bg,if_neg (by omega),if_pos h0]
theorem VQ {vs : List Int} (h : vs.length = 3) (h0 : ∀ x ∈ vs,x = 0) : vs = [0,0,0]:=by
 match vs,h with
 | [a,b,c],_ => rw [h0 a (by simp),h0 b (by simp),h0 c (by simp)]
theorem RQ {vs : List Int} {i : Nat} {x y : Int} (h : y ∈ vs.set i x) : y ∈ vs ∨ y = x:=List.mem_or_eq_of_mem_set h
theorem Xf {vs : List Int} {i : Nat} {x : Int} (h : i < vs.length) : x ∈ vs.set i x:=by
 rw [List.mem_iff_getElem?]
 exact ⟨i,by simp [h]⟩
theorem VS {P P' : Page} {r : Rec} (hr : r.slot ≤ 2) (h : Bt P = true) (h' : Bt P' = true) (ho : P'.owner = P.owner) (hw : Bt (Bg P r) = true) : Bt (Bg P' r) = true:=by
 rw [Cj] at h h' hw ⊢
 rw [KP] at hw ⊢
 have hown:=Iy (p:=P') (q:=P) r ho
 rw [hown]
 refine ⟨h'.1,h'.2.1,hw.2.2.1,hw.2.2.2.1,KQ h'.2.2.2.2.1,?_⟩
 rcases Int.lt_or_le r.slot 0 with hs | hs
 ·by_cases h0 : r.new = 0
  ·rw [Gc hs h0]
   intro x hx
   simp at hx
   rw [hx]
   simp
  ·have e1 : Bg P' r = ⟨P'.lsn,r.new,P'.vals⟩:=by rw [Bg,if_neg (by omega),if_neg h0]
   have e2 : Bg P r = ⟨P.lsn,r.new,P.vals⟩:=by rw [Bg,if_neg (by omega),if_neg h0]
   rw [e1,e2]
   intro x hx
   have:=h'.2.2.2.2.2 x hx
   exact ⟨this.1,this.2.1,fun e => absurd e h0⟩
 ·have e1 : Bg P' r = ⟨P'.lsn,P'.owner,P'.vals.set r.slot.toNat r.new⟩:=by rw [Bg,if_pos hs]
  have e2 : Bg P r = ⟨P.lsn,P.owner,P.vals.set r.slot.toNat r.new⟩:=by rw [Bg,if_pos hs]
  rw [e2] at hw ⊢
  rw [e1]
  have hnew:=hw.2.2.2.2.2 r.new (Xf (by rw [h.2.2.2.2.1];omega))
  intro x hx
  rcases RQ hx with hx | rfl
  ·have:=h'.2.2.2.2.2 x hx
   exact ⟨this.1,this.2.1,fun e => this.2.2 (by rw [ho];exact e)⟩
  ·exact hnew
theorem Kv {l : List Rec} {c : Page} : ∀ {ms : List Nat} {P P' : Page},(∀ m ∈ ms,(rc l (m - 1)).slot ≤ 2) → QY l ms → Bt P' = true → P'.owner = P.owner → EN l c ms P → EN l c ms P'
 | [],_,_,_,⟨_,h,_⟩,_,_,_ => by cases h
 | m :: ms,P,P',hs,hz,h',ho,h => by
  refine ⟨h',?_⟩
  have hok:=J7 h.2
  have hb : (Bz (rc l (m - 1)) 0).slot ≤ 2:=hs m (by simp)
  have hw:=VS hb h.1 h' ho hok
  by_cases hzz : (rc l (m - 1)).slot < 0 ∧ (rc l (m - 1)).old = 0
  ·have e1 : Bg P' (Bz (rc l (m - 1)) 0) = ⟨P'.lsn,0, [0,0,0]⟩:=Gc hzz.1 hzz.2
   have e2 : Bg P (Bz (rc l (m - 1)) 0) = ⟨P.lsn,0, [0,0,0]⟩:=Gc hzz.1 hzz.2
   rw [e1]
   have h2:=h.2
   rw [e2] at h2
   rw [Cj] at h'
   exact JA h'.1 h'.2.1 h2
  ·refine Kv (fun x hx => hs x (by simp [hx])) ?_ hw (Iy _ ho) h.2
   obtain ⟨x,hx,h1,h2⟩:=hz
   rcases List.mem_cons.1 hx with rfl | hx
   ·exact absurd ⟨h1,h2⟩ hzz
   ·exact ⟨x,hx,h1,h2⟩
def Cb (P : Page) (l : List Rec) (p : Nat) : Nat → Page
 | 0 => P
 | n + 1 => if Cw (rc l n).kind = true ∧ (rc l n).page = p ∧ (Cb P l p n).lsn < (n + 1 : Nat) then doR (Cb P l p n) (rc l n) (n + 1 : Nat) else Cb P l p n
theorem FU {ps : List Page} {i j : Nat} {q : Page} (h : i < ps.length) : pg (ps.set i q) j = if i = j then q else pg ps j:=by
 by_cases e : i = j
 ·subst e
  simp [pg,List.getD_eq_getElem?_getD,h]
 ·simp [pg,List.getD_eq_getElem?_getD,e]
theorem J3 (ps : List Page) (l : List Rec) (n : Nat) : (Cr ps l n).length = ps.length:=by
 induction n with
 | zero => rfl
 | succ n ih =>
  rw [Cr,Et]
  split
  ·rw [List.length_set,ih]
  ·exact ih
theorem Mt {ps : List Page} {l : List Rec} (h5 : ps.length = 5) (hl : ∀ k,k < l.length → CZ (rc l k) = true) (p : Nat) : ∀ n,n ≤ l.length → pg (Cr ps l n) p = Cb (pg ps p) l p n
 | 0,_ => rfl
 | n + 1,hn => by
  have ih:=fun p => Mt h5 hl p n (by omega)
  rw [Cr,Et,Cb]
  by_cases hc : Cw (rc l n).kind = true
  ·have hpg:=Im (hl n (by omega)) hc
   by_cases hp : (rc l n).page = p
   ·have e : (rc l n).page.toNat = p:=by omega
    rw [e,ih p]
    by_cases hlt : (Cb (pg ps p) l p n).lsn < ((n + 1 : Nat) : Int)
    ·rw [if_pos ⟨hc,hlt⟩,if_pos ⟨hc,hp,hlt⟩,FU (by rw [J3];omega),if_pos rfl]
    ·rw [if_neg (fun h => hlt h.2),if_neg (fun h => hlt h.2.2),ih p]
   ·rw [if_neg (c:=_ ∧ _ = _ ∧ _) (fun h => hp h.2.1)]
    split
    ·rw [FU (by rw [J3];omega),if_neg (by omega),ih p]
    ·exact ih p
  ·rw [if_neg (fun h => hc h.1),if_neg (fun h => hc h.1),ih p]
theorem IB {l l' : List Rec} (P : Page) (p : Nat) : ∀ {n : Nat},Agree l l' n → Cb P l p n = Cb P l' p n
 | 0,_ => rfl
 | n + 1,h => by
  unfold Cb
  rw [IB P p (h.le (Nat.le_succ n)),h n (by omega)]
theorem Nr {P : Page} {l : List Rec} {p : Nat} : ∀ n : Nat,P.lsn ≤ (Cb P l p n).lsn ∧ ((Cb P l p n).lsn ≤ P.lsn ∨ (Cb P l p n).lsn ≤ n)
 | 0 => ⟨Int.le_refl _, .inl (Int.le_refl _)⟩
 | n + 1 => by
  have ih:=Nr (P:=P) (l:=l) (p:=p) n
  rw [Cb]
  split
  ·rename_i h
   have : (doR (Cb P l p n) (rc l n) ((n + 1 : Nat) : Int)).lsn = ((n + 1 : Nat) : Int):=rfl
   rw [this]
   have:=h.2.2
   omega
  ·omega
def UK (l : List Rec) (p k : Nat) : Prop:=Cw (rc l k).kind = true ∧ (rc l k).page = p
theorem OP {P : Page} {l : List Rec} {p : Nat} : ∀ {n : Nat} {k : Nat},k < n → (Cb P l p n).lsn < (k + 1 : Nat) → ¬ UK l p k
 | 0,k,hk,_ => by omega
 | n + 1,k,hk,h => by
  rw [Cb] at h
  split at h
  ·have : (doR (Cb P l p n) (rc l n) ((n + 1 : Nat) : Int)).lsn = ((n + 1 : Nat) : Int):=rfl
   rw [this] at h
   omega
  ·rename_i hc
   rcases Nat.eq_or_lt_of_le (Nat.le_of_lt_succ hk) with rfl | hlt
   ·exact fun hch => hc ⟨hch.1,hch.2,h⟩
   ·exact OP hlt h
theorem Jw {P : Page} {l : List Rec} {p : Nat} : ∀ {n : Nat},(∀ k,k < n → P.lsn < (k + 1 : Nat) → ¬ UK l p k) → Cb P l p n = P
 | 0,_ => rfl
 | n + 1,h => by
  have ih:=Jw (P:=P) (l:=l) (p:=p) (n:=n) (fun k hk => h k (by omega))
  rw [Cb,ih,if_neg]
  exact fun hc => h n (by omega) hc.2.2 ⟨hc.1,hc.2.1⟩
theorem I7 {P : Page} {l : List Rec} {r : Rec} {p : Nat} : Cb P (l ++ [r]) p (l.length + 1) = if Cw r.kind = true ∧ r.page = p ∧ (Cb P l p l.length).lsn < (l.length + 1 : Nat) then doR (Cb P l p l.length) r (l.length + 1 : Nat) else Cb P l p l.length:=by
 rw [Cb,BF,IB P p (Cf l [r])]
theorem Ec {l : List Rec} {n m : Nat} {p : Int} (h : m ∈ UA l n p) : 0 < m ∧ m ≤ n ∧ (rc l (m - 1)).page = p ∧ ∃ t,m ∈ U l t n:=by
 have hF : ∀ t,m ∈ F l n p t → 0 < m ∧ m ≤ n ∧ (rc l (m - 1)).page = p ∧ ∃ t,m ∈ U l t n:=fun t hm => by
  obtain ⟨h1,h2⟩:=List.mem_filter.1 hm
  have:=Oc h1
  exact ⟨this.1,this.2,by simpa using h2,t,h1⟩
 rw [UA,List.mem_append,List.mem_append] at h
 rcases h with h | h | h
 ·exact hF _ h
 ·exact hF _ h
 ·exact hF _ h
theorem R9 {l : List Rec} (hl : AB l = true) {t : Int} {n m : Nat} (hn : n ≤ l.length) (h : m ∈ U l t n) : (rc l (m - 1)).kind = 1 ∨ (rc l (m - 1)).kind = 2:=by
 have:=Bc l t n
 exact (Uc hl _ (by omega) m h).2.2
theorem UQ {l : List Rec} (hl : AB l = true) {n : Nat} {p : Int} (hn : n ≤ l.length) : ∀ m ∈ UA l n p,(rc l (m - 1)).slot ≤ 2:=fun m hm => by
 obtain ⟨h1,h2,h3,t,h4⟩:=Ec hm
 have:=(Iz hl (m:=m) h1 (by omega) (R9 hl hn h4)).2.2.2
 omega
theorem SI {l : List Rec} (hl : AB l = true) (hp : F8 l) {p m : Nat} : ∀ {n : Nat},m ≤ n → n ≤ l.length → (∀ k,m ≤ k → k < n → ¬ UK l p k ∧ (rc l k).kind ≠ 4) → UA l n p = UA l m p
  | 0, hm, _, _ => by obtain rfl : m = 0 := by omega
                      rfl
  | n + 1,hm,hn,h => by
    rcases Nat.eq_or_lt_of_le hm with rfl | hlt
    · rfl
    · have ih:=SI hl hp (p:=p) (m:=m) (n:=n) (by omega) (by omega) (fun k h1 h2 => h k h1 (by omega))
      obtain ⟨h1,h2⟩:=h n (by omega) (by omega)
      rw [← ih]
      rcases M5 hl (k:=n) (by omega) with hk | hk | hk | hk | hk | hk
      · rw [U1 hl hp (by omega) (.inl hk),if_neg fun e => h1 ⟨by rw [hk];rfl,e⟩]
      · rw [U1 hl hp (by omega) (.inr hk),if_neg fun e => h1 ⟨by rw [hk];rfl,e⟩]
      · rw [UR hl (by omega) hk]
      · exact absurd hk h2
      · rw [Pp hp (by omega) hk]
      · obtain ⟨x,_,hx⟩:=Ra hl hp (n:=n) (by omega) hk
        rw [hx p,if_neg fun e => h1 ⟨by rw [hk];rfl,e⟩]
def cst (l : List Rec) (t : Int) (n : Nat) : Nat:=(U l t n).length + (if Ai l t n = 0 then 0 else 1)
def Bu (l : List Rec) (n : Nat) : Nat:=cst l 1 n + (cst l 2 n + cst l 3 n)
theorem Oi (l : List Rec) : need l = Bu l l.length:=by
 have e1 : (3 - ((2 : Nat) : Int)) = 1:=rfl
 have e2 : (3 - ((1 : Nat) : Int)) = 2:=rfl
 have e3 : (3 - ((0 : Nat) : Int)) = 3:=rfl
 rw [need,J8,J8,J8,J8,e1,e2,e3]
 rfl
theorem L9 {l l' : List Rec} {n : Nat} (h : Agree l l' n) (t : Int) {k : Nat} (hk : k ≤ n) : cst l t k = cst l' t k:=by
 rw [cst,cst,H9 h t hk,D5 t (h.le hk)]
theorem GX {l l' : List Rec} {n : Nat} (h : Agree l l' n) {k : Nat} (hk : k ≤ n) : Bu l k = Bu l' k:=by
 rw [Bu,Bu,L9 h 1 hk,L9 h 2 hk,L9 h 3 hk]
theorem VE {l : List Rec} {t : Int} {n : Nat} (h : (rc l n).tx ≠ t) : cst l t (n + 1) = cst l t n:=by
 rw [cst,cst,IJ h,Gj h]
theorem Ky {l : List Rec} {n : Nat} {t : Int} (ht : (rc l n).tx = t) (h3 : t = 1 ∨ t = 2 ∨ t = 3) : Bu l (n + 1) + cst l t n = Bu l n + cst l t (n + 1):=by
 have ho : ∀ s,s ≠ t → cst l s (n + 1) = cst l s n:=fun s hs => VE (by rw [ht];exact Ne.symm hs)
 rw [Bu,Bu]
 rcases h3 with rfl | rfl | rfl
 ·rw [ho 2 (by decide),ho 3 (by decide)];omega
 ·rw [ho 1 (by decide),ho 3 (by decide)];omega
 ·rw [ho 1 (by decide),ho 2 (by decide)];omega
def DL (e : Eng) (p : Nat) : Page:=Cb (pg e.disk p) e.log p e.log.length
structure Core (e : Eng) (C : Nat → Page) (B : Nat) : Prop where
 dlen : e.disk.length = 5
 dok : ∀ p,p < 5 → Bt (pg e.disk p) = true
 log : AB e.log = true
 prop : F8 e.log
 s0 : 0 ≤ e.safe
 s1 : e.safe ≤ e.log.length
 b150 : B ≤ 150
 room : ∀ n,n ≤ e.log.length → n + Bu e.log n ≤ B
 done : ∀ k,k < e.log.length → (rc e.log k).kind = 4 → ((k + 1 : Nat) : Int) ≤ e.safe
 MR : ∀ p,p < 5 → (pg e.disk p).lsn ≤ e.safe
 good : ∀ n : Nat,e.safe ≤ n → n ≤ e.log.length → ∀ p,p < 5 → EN e.log (C p) (UA e.log n p) (Cb (pg e.disk p) e.log p n)
theorem Core.mem {e : Eng} {C : Nat → Page} {B : Nat} (h : Core e C B) (m : List Page) (d : Bool) : Core { e with mem:=m,down:=d } C B:=
 ⟨h.dlen,h.dok,h.log,h.prop,h.s0,h.s1,h.b150,h.room,h.done,h.MR,h.good⟩
theorem Core.Xr {e : Eng} {C : Nat → Page} {B : Nat} (h : Core e C B) : e.log.length ≤ 150:=Bo h.log
theorem Core.Xh {e : Eng} {C : Nat → Page} {B : Nat} (h : Core e C B) {p n : Nat} (hp : p < 5) (hn : e.safe ≤ n) : (Cb (pg e.disk p) e.log p n).lsn ≤ n:=by
 have h1:=Nr (P:=pg e.disk p) (l:=e.log) (p:=p) n
 have h2:=h.MR p hp
 omega
theorem Core.rok {e : Eng} {C : Nat → Page} {B : Nat} (h : Core e C B) {p n : Nat} (hp : p < 5) (hn : e.safe ≤ n) (hl : n ≤ e.log.length) : Bt (Cb (pg e.disk p) e.log p n) = true:=J7 (h.good n hn hl p hp)
theorem Core.snoc {e : Eng} {C : Nat → Page} {B B' : Nat} {r : Rec} (h : Core e C B) (hB : B ≤ B') (hB' : B' ≤ 150) (hl : AB (e.log ++ [r]) = true) (hr : He (e.log ++ [r]) e.log.length) (hk : r.kind ≠ 4)
  (hroom : e.log.length + 1 + Bu (e.log ++ [r]) (e.log.length + 1) ≤ B') (hg : ∀ p,p < 5 → EN (e.log ++ [r]) (C p) (UA (e.log ++ [r]) (e.log.length + 1) p) (Cb (pg e.disk p) (e.log ++ [r]) p (e.log.length + 1))) : Core { e with log:=e.log ++ [r] } C B':=by
 have hA:=Cf e.log [r]
 have hlen : (e.log ++ [r]).length = e.log.length + 1:=by simp
 refine ⟨h.dlen,h.dok,hl,FM h.prop hr,h.s0,?_,hB',fun n hn => ?_,fun k hk' hk4 => ?_,h.MR,fun n hs hn p hp => ?_⟩
 ·have:=h.s1
  show e.safe ≤ ((e.log ++ [r]).length : Nat)
  rw [hlen];omega
 ·have hn : n ≤ (e.log ++ [r]).length:=hn
  show n + Bu (e.log ++ [r]) n ≤ B'
  rw [hlen] at hn
  rcases Nat.lt_or_ge e.log.length n with hlt | hge
  ·obtain rfl : n = e.log.length + 1:=by omega
   exact hroom
  ·rw [GX hA hge]
   have:=h.room n hge
   omega
 ·have hk' : k < (e.log ++ [r]).length:=hk'
  have hk4 : (rc (e.log ++ [r]) k).kind = 4:=hk4
  rw [hlen] at hk'
  rcases Nat.lt_or_ge k e.log.length with hlt | hge
  ·rw [Ns hlt] at hk4
   exact h.done k hlt hk4
  ·obtain rfl : k = e.log.length:=by omega
   rw [BF] at hk4
   exact absurd hk4 hk
 ·have hn : n ≤ (e.log ++ [r]).length:=hn
  rw [hlen] at hn
  show EN (e.log ++ [r]) (C p) (UA (e.log ++ [r]) n p) (Cb (pg e.disk p) (e.log ++ [r]) p n)
  rcases Nat.lt_or_ge e.log.length n with hlt | hge
  ·obtain rfl : n = e.log.length + 1:=by omega
   exact hg p hp
  ·rw [Fp hA p hge,IB _ p (hA.le hge)]
   exact Dh hA.symm (fun m hm => by have:=Ec hm;omega) (h.good n hs hge p hp)
def ld (l : List Rec) (t : Int) (n : Nat) (p : Int) : Bool:=Fg l (Ai l t n) p
theorem Wz (l : List Rec) (p : Int) : Jb l p 3 = (ld l 1 l.length p || (ld l 2 l.length p || ld l 3 l.length p)):=by
 have e1 : (3 - ((2 : Nat) : Int)) = 1:=rfl
 have e2 : (3 - ((1 : Nat) : Int)) = 2:=rfl
 have e3 : (3 - ((0 : Nat) : Int)) = 3:=rfl
 rw [Jb,Jb,Jb,Jb,e1,e2,e3,Bool.or_false]
 rfl
theorem WB {l : List Rec} {t p : Int} {n : Nat} : ld l t n p = true ↔ ∃ m ∈ Ch l t n,(rc l (m - 1)).kind = 3 ∧ (rc l (m - 1)).page = p:=by
 simp [ld,Fg,Ch]
theorem Ny {l : List Rec} {t p : Int} {n : Nat} (h : ld l t n p = true) : has l t n p = true:=by
 obtain ⟨m,h1,_,h2⟩:=WB.1 h
 exact QT.2 ⟨m,h1,h2⟩
theorem Ih {l l' : List Rec} {n : Nat} (h : Agree l l' n) (t p : Int) {k : Nat} (hk : k ≤ n) : ld l t k p = ld l' t k p:=by
 rw [ld,ld,D5 t (h.le hk)]
 exact Sb h p (by have:=Bc l' t k;omega)
theorem MF {l : List Rec} {t : Int} {k : Nat} (h : (rc l k).tx ≠ t) (p : Int) : ld l t (k + 1) p = ld l t k p:=by rw [ld,Gj h,ld]
theorem TF {l : List Rec} {t : Int} {k : Nat} (h : (rc l k).tx = t) (he : EO (rc l k).kind = true) (p : Int) : ld l t (k + 1) p = false:=by rw [ld,Je h he,LY]
theorem Uy {l : List Rec} (hl : AB l = true) {k : Nat} (hk : k < l.length) (h : EO (rc l k).kind = false) (p : Int) : ld l (rc l k).tx (k + 1) p = (((rc l k).kind == 3 && (rc l k).page == p) || ld l (rc l k).tx k p):=by
 have F:=Aq hl hk
 rw [ld,ET rfl h,TD F.prev_le,F.last,ld]
def lds (l : List Rec) (n : Nat) (p : Int) : Bool:=ld l 1 n p || (ld l 2 n p || ld l 3 n p)
theorem ME {l : List Rec} {n : Nat} {p : Int} : lds l n p = true ↔ ∃ t,(t = 1 ∨ t = 2 ∨ t = 3) ∧ ld l t n p = true:=by
 simp only [lds,Bool.or_eq_true]
 constructor
 ·rintro (h | h | h)
  ·exact ⟨1,by simp,h⟩
  ·exact ⟨2,by simp,h⟩
  ·exact ⟨3,by simp,h⟩
 ·rintro ⟨t,rfl | rfl | rfl,h⟩
  ·exact .inl h
  ·exact .inr (.inl h)
  ·exact .inr (.inr h)
theorem Si {l : List Rec} {n : Nat} {p : Int} (h : ∀ t,ld l t (n + 1) p = ld l t n p) : lds l (n + 1) p = lds l n p:=by rw [lds,lds,h,h,h]
theorem Jc {l l' : List Rec} {n : Nat} (h : Agree l l' n) (p : Int) {k : Nat} (hk : k ≤ n) : lds l k p = lds l' k p:=by
 rw [lds,lds,Ih h 1 p hk,Ih h 2 p hk,Ih h 3 p hk]
theorem P6 {l : List Rec} (hl : AB l = true) {n : Nat} (hn : n < l.length) (he : EO (rc l n).kind = false) {p : Int} (h : ¬ ((rc l n).kind = 3 ∧ (rc l n).page = p)) : lds l (n + 1) p = lds l n p:=by
 refine Si fun t => ?_
 by_cases ht : (rc l n).tx = t
 ·subst ht
  rw [Uy hl hn he]
  have : ((rc l n).kind == 3 && (rc l n).page == p) = false:=by
   rw [Bool.eq_false_iff]
   intro h2
   simp only [Bool.and_eq_true,beq_iff_eq] at h2
   exact h h2
  rw [this,Bool.false_or]
 ·exact MF ht p
theorem Ux {l : List Rec} {n : Nat} (he : EO (rc l n).kind = true) {p : Int} (h : ld l (rc l n).tx n p = false) : lds l (n + 1) p = lds l n p:=by
 refine Si fun t => ?_
 by_cases ht : (rc l n).tx = t
 ·subst ht
  rw [TF rfl he,h]
 ·exact MF ht p
structure Ri (e : Eng) (p : Nat) : Prop where
 ok : Bt (pg e.mem p) = true
 owner : (pg e.mem p).owner = (DL e p).owner
 lsn : (pg e.mem p).lsn ≤ e.log.length
 cases : (lds e.log e.log.length p = false ∧ pg e.mem p = DL e p) ∨ (lds e.log e.log.length p = true ∧ (pg e.mem p).lsn = BK e.log p e.log.length ∧ ((pg e.disk p).lsn < (pg e.mem p).lsn ∨ pg e.mem p = pg e.disk p) ∧ (pg e.mem p = DL e p ∨ QY e.log (UA e.log e.log.length p)))
def UpC (l : List Rec) : Prop := ∀ t, ∀ m ∈ Ch l t l.length,(rc l (m - 1)).kind ≠ 6
structure Inv (e : Eng) (C : Nat → Page) (B : Nat) : Prop where
 core : Core e C B
 mlen : e.mem.length = 5
 dn : e.down = true → e.mem = e.disk
 upc : e.down = false → UpC e.log
 upm : e.down = false → ∀ p,p < 5 → Ri e p
theorem Ri.alt {e : Eng} {p : Nat} (h : Ri e p) : pg e.mem p = DL e p ∨ QY e.log (UA e.log e.log.length p):=by
 rcases h.cases with h | h
 ·exact .inl h.2
 ·exact h.2.2.2
theorem Core.QA {e : Eng} {C : Nat → Page} {B : Nat} (h : Core e C B) {p : Nat} (hp : p < 5) {M : Page} (hok : Bt M = true) (ho : M.owner = (DL e p).owner) (ha : M = DL e p ∨ QY e.log (UA e.log e.log.length p)) : EN e.log (C p) (UA e.log e.log.length p) M:=by
 have hg:=h.good e.log.length h.s1 (Nat.le_refl _) p hp
 rcases ha with ha | ha
 ·rw [ha];exact hg
 ·exact Kv (UQ h.log (Nat.le_refl _)) ha hok ho hg
def Eng.app (e : Eng) (r : Rec) : Eng:=
 { e with log:=e.log ++ [{ r with prev:=Ai e.log r.tx e.log.length }],mem:=if Cw r.kind = true then e.mem.set r.page.toNat (doR (pg e.mem r.page.toNat) r (e.log.length + 1 : Nat)) else e.mem }
abbrev lastT (e : Eng) (tx : Int) : Nat:=Ai e.log tx e.log.length
def Dn (e : Eng) (tx : Int) : Rec:=if Br e.log (lastT e tx) = 0 then ⟨5,tx,0,0,0,0,0,0⟩ else Bz (rc e.log (Br e.log (lastT e tx) - 1)) 0
def Be (e : Eng) (tx : Int) : Eng:=e.app (Dn e tx)
theorem EY (p : Page) (r : Rec) (n : Int) : doR p r n = ⟨n,(Bg p r).owner,(Bg p r).vals⟩:=rfl
theorem LW {l : List Rec} (r : Rec) : Bu (l ++ [r]) l.length = Bu l l.length:=GX (Cf l [r]) (Nat.le_refl _)
theorem R4 {l : List Rec} (r : Rec) (t : Int) : cst (l ++ [r]) t l.length = cst l t l.length:=L9 (Cf l [r]) t (Nat.le_refl _)
theorem Ii (l : List Rec) (tx : Int) : ∀ n,Ai l tx n = 0 ∨ (rc l (Ai l tx n - 1)).tx = tx
 | 0 => .inl rfl
 | n + 1 => by
  rw [Ai]
  split
  ·rename_i h
   split
   ·exact .inl rfl
   ·exact .inr h
  ·exact Ii l tx n
theorem Xn {l : List Rec} (hl : AB l = true) {k : Nat} (hk : k < l.length) : F6 l (k + 1) = 0 ∨ (rc l (F6 l (k + 1) - 1)).tx = (rc l k).tx:=by
 have h:=hl
 simp only [AB,Bool.and_eq_true] at h
 have ha:=Qh h.1 hk
 simp only [atOk,Bool.and_eq_true,beq_iff_eq,decide_eq_true_eq,Bool.or_eq_true] at ha
 simp only [F6,Nat.add_sub_cancel]
 rcases ha.2 with h4 | h4
 ·exact .inl (by omega)
 ·exact .inr h4
theorem Xc {l : List Rec} (hl : AB l = true) (tx : Int) (n : Nat) : n ≤ l.length → (n = 0 ∨ (rc l (n - 1)).tx = tx) → ∀ m ∈ D8 l n,(rc l (m - 1)).tx = tx:=by
 induction n using Nat.strongRecOn with
 | _ n ih =>
  intro hn ht m hm
  match n with
  | 0 => rw [Db] at hm;cases hm
  | n + 1 =>
   have ht : (rc l n).tx = tx:=by
    rcases ht with ht | ht
    ·omega
    ·simpa using ht
   have FF:=Aq hl (k:=n) (by omega)
   have hp : BP l (n + 1) = 0 ∨ (rc l (BP l (n + 1) - 1)).tx = tx:=by
    rw [FF.last,ht]
    exact Ii l tx n
   have h1:=FF.prev_le
   have h2:=FF.next_le
   rw [D8] at hm
   split at hm
   ·rcases List.mem_cons.1 hm with rfl | hm
    ·simpa using ht
    ·try rw [dif_pos h1] at hm
     exact ih _ (by omega) (by omega) hp m hm
   ·split at hm
    ·try rw [dif_pos h2] at hm
     exact ih _ (by omega) (by omega) (by rw [← ht];exact Xn hl (by omega)) m hm
    ·try rw [dif_pos h1] at hm
     exact ih _ (by omega) (by omega) hp m hm
theorem YV {l : List Rec} (hl : AB l = true) {tx : Int} {n m : Nat} (hn : n ≤ l.length) (h : m ∈ U l tx n) : (rc l (m - 1)).tx = tx:=by
 have:=Bc l tx n
 exact Xc hl tx _ (by omega) (Ii l tx n) m h
inductive StepKind (l : List Rec) (tx : Int) : Rec → Prop
 | fin (h : U l tx l.length = []) : StepKind l tx ⟨5,tx,0,0,0,0,Ai l tx l.length,0⟩
 | Jt (m : Nat) (ms : List Nat) (h : U l tx l.length = m :: ms) (h0 : 0 < m) (hm : m ≤ l.length) (hk : (rc l (m - 1)).kind = 1 ∨ (rc l (m - 1)).kind = 2) (ht : (rc l (m - 1)).tx = tx) : StepKind l tx (Bz (rc l (m - 1)) (Ai l tx l.length))
def CU (e : Eng) (tx : Int) : Rec:={ Dn e tx with prev:=Ai e.log (Dn e tx).tx e.log.length }
theorem Ez {e : Eng} (hl : AB e.log = true) (tx : Int) : StepKind e.log tx (CU e tx):=by
 have hle:=Bc e.log tx e.log.length
 unfold CU Dn
 split
 ·rename_i h0
  exact .fin (GN h0)
 ·rename_i h0
  obtain ⟨ms,hm⟩:=NR (l:=e.log) (n:=lastT e tx) rfl (by omega)
  obtain ⟨h1,h2,h3,h4⟩:=Gf _ _ ms hm
  have hU : U e.log tx e.log.length = Br e.log (lastT e tx) :: ms:=hm
  have ht:=YV hl (Nat.le_refl _) (tx:=tx) (m:=Br e.log (lastT e tx)) (by rw [hU];exact List.mem_cons_self)
  have:=StepKind.Jt (l:=e.log) (tx:=tx) (Br e.log (lastT e tx)) ms hU h1 (by unfold lastT at h2 ⊢;omega) h3 ht
  have e1 : Ai e.log tx e.log.length = Ai e.log (Bz (rc e.log (Br e.log (lastT e tx) - 1)) 0).tx e.log.length:=by
   show Ai e.log tx e.log.length = Ai e.log (rc e.log (Br e.log (lastT e tx) - 1)).tx e.log.length
   rw [ht]
  rw [← e1]
  exact this
theorem StepKind.tx {l : List Rec} {tx : Int} {r : Rec} (h : StepKind l tx r) : r.tx = tx:=by
 cases h with
 | fin => rfl
 | Jt m ms _ _ _ _ ht => exact ht
theorem StepKind.prev {l : List Rec} {tx : Int} {r : Rec} (h : StepKind l tx r) : r.prev = Ai l tx l.length:=by
 cases h <;> rfl
theorem StepKind.ne4 {l : List Rec} {tx : Int} {r : Rec} (h : StepKind l tx r) : r.kind ≠ 4:=by
 cases h <;> simp [Bz]
theorem StepKind.ok {l : List Rec} {tx : Int} {r : Rec} (hl : AB l = true) (h : StepKind l tx r) (ht : 1 ≤ tx ∧ tx ≤ 3) : CZ r = true:=by
 have hle:=Bc l tx l.length
 have h150:=Bo hl
 cases h with
 | fin => rw [Dc];simp;omega
 | Jt m ms h h0 hm hk ht =>
  have hr:=(Iz hl h0 hm hk).1
  have FF:=Aq hl (k:=m - 1) (by omega)
  have hp:=FF.prev
  have hpl:=FF.prev_le
  rw [Dc] at hr
  rw [Dc]
  simp only [Bz]
  have hs:=Bc l tx l.length
  refine ⟨.inr (.inr (.inr (.inr ⟨trivial,by omega,by omega,by omega,by omega,trivial,by omega,fun _ => by omega,by omega,by omega,by omega⟩))),by omega,by omega,by omega,by omega⟩
theorem StepKind.log {l : List Rec} {tx : Int} {r : Rec} (hl : AB l = true) (h : StepKind l tx r) (ht : 1 ≤ tx ∧ tx ≤ 3) (h150 : l.length + 1 ≤ 150) : AB (l ++ [r]) = true:=by
 have hok:=h.ok hl ht
 refine JB hl hok (by rw [h.prev,h.tx]) ?_ ?_ h150
 ·cases h with
  | fin => simp
  | Jt m ms h h0 hm hk ht =>
   have FF:=Aq hl (k:=m - 1) (by omega)
   have h1:=FF.prev
   have h2:=FF.prev_le
   simp only [Bz]
   omega
 ·cases h with
  | fin => exact .inl (Int.le_refl _)
  | Jt m ms h h0 hm hk ht =>
   have FF:=Aq hl (k:=m - 1) (by omega)
   have h1:=FF.prev
   have h3:=Ii l (rc l (m - 1)).tx (m - 1)
   rw [← FF.last] at h3
   rw [show m - 1 + 1 = m by omega] at h1 h3
   simp only [Bz]
   rcases h3 with h3 | h3
   ·exact .inl (by omega)
   ·refine .inr ?_
    rw [h1]
    exact h3
theorem StepKind.next {l : List Rec} {tx : Int} {r : Rec} (hl : AB l = true) (h : StepKind l tx r) (ht : 1 ≤ tx ∧ tx ≤ 3) (h150 : l.length + 1 ≤ 150) : U (l ++ [r]) tx (l.length + 1) = (U l tx l.length).tail ∧ (∀ t,t ≠ tx → U (l ++ [r]) t (l.length + 1) = U l t l.length ∧ Ai (l ++ [r]) t (l.length + 1) = Ai l t l.length) ∧ Ai (l ++ [r]) tx (l.length + 1) = if U l tx l.length = [] then 0 else l.length + 1:=by
 have hl':=h.log hl ht h150
 have hA:=Cf l [r]
 have hlen : l.length < (l ++ [r]).length:=by simp
 have hrt : (rc (l ++ [r]) l.length).tx = tx:=by rw [BF,h.tx]
 refine ⟨?_,fun t hne => ?_,?_⟩
 ·cases h with
  | fin h =>
   rw [Qp hrt (by rw [BF];rfl),h]
   rfl
  | Jt m ms h h0 hm hk htx =>
   have FF:=Aq hl' hlen
   have hn : F6 (l ++ [Bz (rc l (m - 1)) (Ai l tx l.length)]) (l.length + 1) = BP l m:=by
    simp only [F6,BP,Nat.add_sub_cancel]
    rw [BF]
    rfl
   have h2:=Gf _ _ _ h
   have Fm:=Aq hl (k:=m - 1) (by omega)
   have hpm:=Fm.prev_le
   rw [show m - 1 + 1 = m by omega] at hpm
   rw [U,ET hrt (by rw [BF];rfl),Ni (by rw [BF];rfl) FF.next_le,hn,OA hA _ (by omega),h,List.tail_cons,(h2.2.2.2 (by omega)).1]
 ·have hne' : (rc (l ++ [r]) l.length).tx ≠ t:=by rw [hrt];exact Ne.symm hne
  rw [IJ hne',Gj hne',H9 hA t (Nat.le_refl _),D5 t hA]
  exact ⟨rfl,rfl⟩
 ·cases h with
  | fin h => rw [if_pos h,Je hrt (by rw [BF];rfl)]
  | Jt m ms h h0 hm hk htx => rw [if_neg (by rw [h];simp),ET hrt (by rw [BF];rfl)]
theorem StepKind.need {l : List Rec} {tx : Int} {r : Rec} (hl : AB l = true) (h : StepKind l tx r) (ht : tx = 1 ∨ tx = 2 ∨ tx = 3) (h150 : l.length + 1 ≤ 150) (hlast : Ai l tx l.length ≠ 0) : Bu (l ++ [r]) (l.length + 1) + 1 = Bu l l.length:=by
 have hN:=h.next hl (by omega) h150
 have hs:=Ky (l:=l ++ [r]) (n:=l.length) (t:=tx) (by rw [BF,h.tx]) ht
 rw [LW,R4] at hs
 have e1 : cst (l ++ [r]) tx (l.length + 1) = (U l tx l.length).tail.length + (if U l tx l.length = [] then 0 else 1):=by
  rw [cst,hN.1,hN.2.2]
  split
  ·simp
  ·simp
 have e2 : cst l tx l.length = (U l tx l.length).length + 1:=by rw [cst,if_neg hlast]
 rw [e1,e2] at hs
 cases hU : U l tx l.length with
 | nil => rw [hU] at hs;simp at hs;omega
 | cons a t => rw [hU] at hs;simp at hs;omega
theorem Core.one {e : Eng} {C : Nat → Page} {B : Nat} (h : Core e C B) {tx : Int} (ht : tx = 1 ∨ tx = 2 ∨ tx = 3) (hlast : lastT e tx ≠ 0) : e.log.length + 1 ≤ 150:=by
 have h1:=h.room e.log.length (Nat.le_refl _)
 have h2:=h.b150
 have h3 : cst e.log tx e.log.length ≥ 1:=by rw [cst,if_neg hlast];omega
 have h4 : cst e.log tx e.log.length ≤ Bu e.log e.log.length:=by
  rw [Bu]
  rcases ht with rfl | rfl | rfl <;> omega
 omega
theorem Gg (e : Eng) (tx : Int) : (Be e tx).log = e.log ++ [CU e tx]:=rfl
theorem La {e : Eng} {tx : Int} : (CU e tx).kind = (Dn e tx).kind ∧ (CU e tx).page = (Dn e tx).page:=⟨rfl,rfl⟩
theorem Qc {e : Eng} {C : Nat → Page} {B : Nat} (_h : Core e C B) {tx : Int} {r : Rec} (hk : StepKind e.log tx r) (hlast : lastT e tx ≠ 0) : He (e.log ++ [r]) e.log.length:=by
 have hA:=Cf e.log [r]
 cases hk with
 | fin hU =>
  refine ⟨?_,?_,?_,?_,?_⟩
  all_goals rw [BF]
  ·intro hk;simp at hk
  ·intro hk;simp at hk
  ·intro _;rw [H9 hA tx (Nat.le_refl _)];exact hU
  ·intro _
   rw [D5 tx hA]
   exact Nat.pos_of_ne_zero hlast
  ·intro hk;simp at hk
 | Jt m ms hU h0 hm hkk htx =>
  refine ⟨?_,?_,?_,?_,?_⟩
  all_goals rw [BF]
  ·intro hk;simp [Bz] at hk
  ·intro _
   refine ⟨m,ms,?_,?_⟩
   ·show U _ (rc e.log (m - 1)).tx _ = _
    rw [htx,H9 hA tx (Nat.le_refl _)]
    exact hU
   ·rw [Ns (by omega)]
    rfl
  ·intro hk;simp [Bz] at hk
  ·intro he;simp [Bz,EO] at he
  ·intro hk;simp [Bz] at hk
theorem Core.step {e : Eng} {C : Nat → Page} {B : Nat} (h : Core e C B) {tx : Int} (ht : tx = 1 ∨ tx = 2 ∨ tx = 3) (hlast : lastT e tx ≠ 0) : Core (Be e tx) C B:=by
 have h1:=h.one ht hlast
 have hk:=Ez (e:=e) h.log tx
 have hl':=hk.log h.log (by omega) h1
 have hpr:=Qc h hk hlast
 have hneed:=hk.need h.log ht h1 hlast
 have hroom:=h.room e.log.length (Nat.le_refl _)
 have hP:=FM h.prop hpr
 have hlen : e.log.length < (e.log ++ [CU e tx]).length:=by simp
 have hA:=Cf e.log [CU e tx]
 have hgood:=h.good e.log.length h.s1 (Nat.le_refl _)
 refine (Core.snoc h (Nat.le_refl _) h.b150 hl' hpr ?_ (by omega) ?_).mem _ _
 ·exact hk.ne4
 ·intro p hp
  have hg:=hgood p hp
  have hrl:=h.Xh (p:=p) hp h.s1
  generalize CU e tx = r at hk hl' hpr hneed hP hlen hA ⊢
  rw [I7]
  cases hk with
  | fin hU =>
   rw [if_neg (fun hc => by simp [Cw] at hc),Pp hP hlen (by rw [BF]),Fp hA p (Nat.le_refl _)]
   exact Dh hA.symm (fun m hm => by have:=Ec hm;omega) hg
  | Jt m ms hU h0 hm hkk htx =>
   obtain ⟨m',hm',hUA⟩:=Ra hl' hP hlen (by rw [BF];rfl)
   rw [BF] at hm' hUA
   have hU2:=hUA p
   rw [Fp hA p (Nat.le_refl _)] at hU2
   by_cases hpg : (Bz (rc e.log (m - 1)) (Ai e.log tx e.log.length)).page = p
   ·rw [if_pos hpg] at hU2
    rw [if_pos ⟨rfl,hpg,by omega⟩]
    have hg':=Dh hA.symm (fun m hm => by have:=Ec hm;omega) hg
    rw [hU2] at hg'
    rw [EY]
    have hw : Bg (Cb (pg e.disk p) e.log p e.log.length) (Bz (rc e.log (m - 1)) (Ai e.log tx e.log.length)) = Bg (Cb (pg e.disk p) e.log p e.log.length) (Bz (rc (e.log ++ [Bz (rc e.log (m - 1)) (Ai e.log tx e.log.length)]) (m' - 1)) 0):=(congrArg (Bg _) hm').trans rfl
    rw [hw]
    exact JA (by omega) (by omega) hg'.2
   ·rw [if_neg hpg] at hU2
    rw [if_neg (fun hc => hpg hc.2.1), ← hU2]
    exact Dh hA.symm (fun m hm => by have:=Ec hm;omega) hg
theorem H7 {e : Eng} {r : Rec} (hm : e.mem.length = 5) (hpg : Cw r.kind = true → 0 ≤ r.page ∧ r.page ≤ 4) (p : Nat) : pg (e.app r).mem p = if Cw r.kind = true ∧ r.page = p then doR (pg e.mem p) r (e.log.length + 1 : Nat) else pg e.mem p:=by
 unfold Eng.app
 by_cases hc : Cw r.kind = true
 ·have h1:=hpg hc
  simp only [hc,if_true]
  rw [FU (by omega)]
  by_cases e1 : r.page = p
  ·have e2 : r.page.toNat = p:=by omega
   rw [if_pos e2,if_pos ⟨trivial,e1⟩,e2]
  ·rw [if_neg (by omega),if_neg (fun h => e1 h.2)]
 ·simp only [hc]
  rw [if_neg (fun h => by simp at h)]
  rfl
theorem MV (e : Eng) (r : Rec) : (e.app r).mem.length = e.mem.length:=by
 unfold Eng.app
 split
 ·simp
 ·rfl
theorem Po {e : Eng} {C : Nat → Page} {B : Nat} (h : Core e C B) (r : Rec) {p : Nat} (hp : p < 5) : DL (e.app r) p = if Cw r.kind = true ∧ r.page = p then doR (DL e p) r (e.log.length + 1 : Nat) else DL e p:=by
 have hrl:=h.Xh (p:=p) hp h.s1
 have : DL (e.app r) p = Cb (pg e.disk p) (e.log ++ [{ r with prev:=Ai e.log r.tx e.log.length }]) p (e.log.length + 1):=by
  unfold DL Eng.app
  simp
 rw [this,I7]
 unfold DL
 by_cases hc : Cw r.kind = true ∧ r.page = p
 ·rw [if_pos hc,if_pos ⟨hc.1,hc.2,by omega⟩]
  rfl
 ·rw [if_neg hc,if_neg (fun h => hc ⟨h.1,h.2.1⟩)]
theorem Hg {e : Eng} (hl : AB e.log = true) (tx : Int) : Cw (Dn e tx).kind = true → 0 ≤ (Dn e tx).page ∧ (Dn e tx).page ≤ 4:=by
 have hk:=Ez (e:=e) hl tx
 intro hc
 rw [← La.1] at hc
 rw [← La.2]
 generalize CU e tx = r at hk hc ⊢
 cases hk with
 | fin => simp [Cw] at hc
 | Jt m ms h h0 hm hk ht =>
  have:=Iz hl h0 hm hk
  simp only [Bz]
  omega
theorem Ve {e : Eng} {C : Nat → Page} {B : Nat} (h : Core e C B) (hm : e.mem.length = 5) (tx : Int) (hr : ∀ p,p < 5 → pg e.mem p = DL e p) : ∀ p,p < 5 → pg (Be e tx).mem p = DL (Be e tx) p:=fun p hp => by
 unfold Be
 rw [H7 hm (Hg h.log tx),Po h _ hp,hr p hp]
theorem M0 {l : List Rec} {p : Int} {n : Nat} (h : (rc l n).page = p ∧ (Cw (rc l n).kind = true ∨ (rc l n).kind = 3)) : BK l p (n + 1) = n + 1:=by rw [BK,if_pos h]
theorem Gw {l : List Rec} {p : Int} {n : Nat} (h : ¬ ((rc l n).page = p ∧ (Cw (rc l n).kind = true ∨ (rc l n).kind = 3))) : BK l p (n + 1) = BK l p n:=by rw [BK,if_neg h]
theorem Ri.step {e : Eng} {C : Nat → Page} {B : Nat} (h : Core e C B) (hm : e.mem.length = 5) {tx : Int} (ht : tx = 1 ∨ tx = 2 ∨ tx = 3) (hlast : lastT e tx ≠ 0) {p : Nat} (hp : p < 5) (hr : Ri e p) : Ri (Be e tx) p:=by
 have h1:=h.one ht hlast
 have hk:=Ez (e:=e) h.log tx
 have hl':=hk.log h.log (by omega) h1
 have hpr:=Qc h hk hlast
 have hP:=FM h.prop hpr
 have hlen : e.log.length < (e.log ++ [CU e tx]).length:=by simp
 have hlen1 : (e.log ++ [CU e tx]).length = e.log.length + 1:=by simp
 have hA:=Cf e.log [CU e tx]
 have hM:=H7 hm (Hg h.log tx) p
 have hR:=Po h (Dn e tx) hp
 have hpath:=h.QA hp hr.ok hr.owner hr.alt
 have hLl : (Be e tx).log = e.log ++ [CU e tx]:=rfl
 have hds:=h.MR p hp
 have hs1:=h.s1
 have hdisk : (Be e tx).disk = e.disk:=rfl
 have hM : pg (Be e tx).mem p = if Cw (CU e tx).kind = true ∧ (CU e tx).page = p then doR (pg e.mem p) (CU e tx) (e.log.length + 1 : Nat) else pg e.mem p:=hM
 have hR : DL (Be e tx) p = if Cw (CU e tx).kind = true ∧ (CU e tx).page = p then doR (DL e p) (CU e tx) (e.log.length + 1 : Nat) else DL e p:=hR
 have hcs:=hr.cases
 generalize CU e tx = r at hk hl' hpr hP hlen hlen1 hA hM hR hLl
 cases hk with
 | fin hU =>
  have hno : ¬ (Cw (5 : Int) = true ∧ (0 : Int) = p):=fun hc => by simp [Cw] at hc
  rw [if_neg hno] at hM hR
  have hUA : UA (e.log ++ [⟨5,tx,0,0,0,0,Ai e.log tx e.log.length,0⟩]) (e.log.length + 1) p = UA e.log e.log.length p:=by
   rw [Pp hP hlen (by rw [BF]),Fp hA p (Nat.le_refl _)]
  have hlo : BK (e.log ++ [⟨5,tx,0,0,0,0,Ai e.log tx e.log.length,0⟩]) p (e.log.length + 1) = BK e.log p e.log.length:=by
   rw [Gw (by rw [BF];simp [Cw]),EA _ hA]
  refine ⟨by rw [hM];exact hr.ok,by rw [hM,hR];exact hr.owner,?_,?_⟩
  ·rw [hM,hLl,hlen1];have:=hr.lsn;omega
  ·rw [hM,hR,hLl,hlen1,hdisk,hUA,hlo]
   cases hldt : ld e.log tx e.log.length p
   ·have hls : lds (e.log ++ [⟨5,tx,0,0,0,0,Ai e.log tx e.log.length,0⟩]) (e.log.length + 1) p = lds e.log e.log.length p:=by
     rw [Ux (by rw [BF];rfl) (by rw [BF,Ih hA _ _ (Nat.le_refl _)];exact hldt),Jc hA p (Nat.le_refl _)]
    rw [hls]
    rcases hcs with hc | ⟨a,b,c,d⟩
    ·exact .inl hc
    ·exact .inr ⟨a,b,c,d.imp id (fun hz => Eo hA.symm (fun m hm => by have:=Ec hm;omega) hz)⟩
   ·have hhas:=Ny hldt
    have hoth : ∀ s,s ≠ tx → has e.log s e.log.length p = false:=fun s hs => Ie h.log h.prop _ (Nat.le_refl _) _ _ _ (Ne.symm hs) hhas
    have hUe : UA e.log e.log.length p = []:=by
     rw [M8 h.log h.prop (Nat.le_refl _) ht hoth,F,hU];rfl
    refine .inl ⟨?_,?_⟩
    ·rw [Bool.eq_false_iff]
     intro hl
     obtain ⟨t,_,hlt⟩:=ME.1 hl
     by_cases e1 : tx = t
     ·subst e1
      rw [TF (by rw [BF]) (by rw [BF];rfl)] at hlt
      cases hlt
     ·rw [MF (by rw [BF];exact e1),Ih hA _ _ (Nat.le_refl _)] at hlt
      have:=hoth t (Ne.symm e1)
      rw [Ny hlt] at this
      cases this
    ·rcases hcs with hc | ⟨a,b,c,d⟩
     ·exact hc.2
     ·rcases d with d | d
      ·exact d
      ·rw [hUe] at d
       obtain ⟨m,hm,_⟩:=d
       cases hm
 | Jt m ms hU h0 hm hkk htx =>
  have hls : lds (e.log ++ [Bz (rc e.log (m - 1)) (Ai e.log tx e.log.length)]) (e.log.length + 1) p = lds e.log e.log.length p:=by
   rw [P6 hl' hlen (by rw [BF];rfl) (by rw [BF];simp [Bz]),Jc hA p (Nat.le_refl _)]
  obtain ⟨m',hm',hUA⟩:=Ra hl' hP hlen (by rw [BF];rfl)
  rw [BF] at hm' hUA
  have hU2:=hUA p
  rw [Fp hA p (Nat.le_refl _)] at hU2
  by_cases hpg : (Bz (rc e.log (m - 1)) (Ai e.log tx e.log.length)).page = p
  ·rw [if_pos hpg] at hU2
   rw [if_pos ⟨rfl,hpg⟩] at hM hR
   have hpath':=Dh hA.symm (fun m hm => by have:=Ec hm;omega) hpath
   rw [hU2] at hpath'
   have hw : ∀ P : Page,Bg P (Bz (rc e.log (m - 1)) (Ai e.log tx e.log.length)) = Bg P (Bz (rc (e.log ++ [Bz (rc e.log (m - 1)) (Ai e.log tx e.log.length)]) (m' - 1)) 0):=fun P => (congrArg (Bg P) hm').trans rfl
   have hok:=J7 hpath'.2
   rw [← hw] at hok
   refine ⟨?_,?_,?_,?_⟩
   ·rw [hM,EY]
    exact I9 hok (by omega) (by omega)
   ·rw [hM,hR,EY,EY]
    exact Iy _ hr.owner
   ·rw [hM,hLl,hlen1]
    exact Int.le_refl _
   ·rw [hLl,hlen1,hls,hdisk]
    rcases hcs with hc | ⟨a,b,c,d⟩
    ·exact .inl ⟨hc.1,by rw [hM,hR,hc.2]⟩
    ·refine .inr ⟨a,?_,?_,?_⟩
     ·rw [hM,M0 (by rw [BF];exact ⟨hpg, .inl rfl⟩)]
      rfl
     ·left
      rw [hM]
      show _ < ((e.log.length + 1 : Nat) : Int)
      omega
     ·rcases d with d | d
      ·exact .inl (by rw [hM,hR,d])
      ·have d':=Eo hA.symm (fun m hm => by have:=Ec hm;omega) d
       rw [hU2] at d'
       obtain ⟨x,hx,hx1,hx2⟩:=d'
       rcases List.mem_cons.1 hx with rfl | hx
       ·left
        have hz : ∀ P : Page,Bg P (Bz (rc (e.log ++ [Bz (rc e.log (m - 1)) (Ai e.log tx e.log.length)]) (x - 1)) 0) = ⟨P.lsn,0, [0,0,0]⟩:=fun P => Gc (r:=Bz (rc (e.log ++ [Bz (rc e.log (m - 1)) (Ai e.log tx e.log.length)]) (x - 1)) 0) hx1 hx2
        rw [hM,hR,EY,EY,hw,hw,hz,hz]
       ·exact .inr ⟨x,hx,hx1,hx2⟩
  ·rw [if_neg hpg] at hU2
   rw [if_neg (fun hc => hpg hc.2)] at hM hR
   have hlo : BK (e.log ++ [Bz (rc e.log (m - 1)) (Ai e.log tx e.log.length)]) p (e.log.length + 1) = BK e.log p e.log.length:=by
    rw [Gw (by rw [BF];exact fun hc => hpg hc.1),EA _ hA]
   refine ⟨by rw [hM];exact hr.ok,by rw [hM,hR];exact hr.owner,?_,?_⟩
   ·rw [hM,hLl,hlen1];have:=hr.lsn;omega
   ·rw [hM,hR,hLl,hlen1,hdisk,hls,hlo, ← hU2]
    rcases hcs with hc | ⟨a,b,c,d⟩
    ·exact .inl hc
    ·exact .inr ⟨a,b,c,d.imp id (fun hz => Eo hA.symm (fun m hm => by have:=Ec hm;omega) hz)⟩
def Apt (M : Page) (r : Rec) : Prop:=
 (r.kind = 1 ∧ M.owner ≠ 0 ∧ 0 ≤ r.slot ∧ r.slot ≤ 2 ∧ 0 ≤ r.new ∧ r.new ≤ 9 ∧ r.old = iv M.vals r.slot.toNat) ∨
 (r.kind = 2 ∧ r.slot = -1 ∧ 0 ≤ r.new ∧ r.new ≤ 3 ∧ (M.owner = 0 ↔ r.new ≠ 0) ∧ M.vals = [0,0,0] ∧ r.old = M.owner)
theorem Apt.kind {M : Page} {r : Rec} (h : Apt M r) : r.kind = 1 ∨ r.kind = 2:=by rcases h with h | h;exact .inl h.1;exact .inr h.1
theorem Apt.chg {M : Page} {r : Rec} (h : Apt M r) : Cw r.kind = true:=by rcases h.kind with h | h <;> (rw [h];rfl)
theorem WH {M : Page} (h : Bt M = true) {k : Nat} (hk : k < 3) : 0 ≤ iv M.vals k ∧ iv M.vals k ≤ 9:=by
 rw [Cj] at h
 have:=h.2.2.2.2.2 _ (Ya (l:=M.vals) (k:=k) (by omega))
 omega
theorem Apt.old {M : Page} {r : Rec} (h : Apt M r) (hM : Bt M = true) : 0 ≤ r.old ∧ r.old ≤ (if r.slot = -1 then 3 else 9):=by
 rcases h with h | h
 ·have:=WH hM (k:=r.slot.toNat) (by omega)
  rw [if_neg (by omega),h.2.2.2.2.2.2]
  exact this
 ·rw [if_pos h.2.1,h.2.2.2.2.2.2]
  rw [Cj] at hM
  exact ⟨hM.2.2.1,hM.2.2.2.1⟩
theorem XW {vs : List Int} {i : Nat} (h : i < vs.length) : vs.set i (iv vs i) = vs:=by
 apply List.ext_getElem?
 intro j
 rw [List.getElem?_set]
 split
 ·rename_i e
  subst e
  simp [iv,List.getD_eq_getElem?_getD,h]
 ·rfl
theorem Apt.page {M R : Page} {r : Rec} {n : Int} (ha : Apt M r) (hM : Bt M = true) (hR : Bt R = true) (ho : M.owner = R.owner) (h0 : 0 ≤ n) (h1 : n ≤ 150) :
  Bt (doR R r n) = true ∧ Bt (Bg (doR R r n) (Bz r 0)) = true ∧ (Bg (doR R r n) (Bz r 0)).owner = R.owner ∧ (M = R → (Bg (doR R r n) (Bz r 0)).vals = R.vals):=by
 have hold:=ha.old hM
 have hR':=Cj.1 hR
 rcases ha with ⟨_,a1,a2,a3,a4,a5,a6⟩ | ⟨_,a1,a2,a3,a4,a5,a6⟩
 ·rw [if_neg (by omega)] at hold
  have e1 : doR R r n = ⟨n,R.owner,R.vals.set r.slot.toNat r.new⟩:=by rw [doR,Bg,if_pos a2]
  have e2 : Bg (doR R r n) (Bz r 0) = ⟨n,R.owner,R.vals.set r.slot.toNat r.old⟩:=by
   rw [e1,Bg,if_pos (show 0 ≤ (Bz r 0).slot from a2)]
   show (⟨n,R.owner,(R.vals.set r.slot.toNat r.new).set r.slot.toNat r.old⟩ : Page) = _
   rw [List.set_set]
  have hR0 : R.owner ≠ 0:=by rw [← ho];exact a1
  have hset : ∀ v : Int,0 ≤ v → v ≤ 9 → Bt ⟨n,R.owner,R.vals.set r.slot.toNat v⟩ = true:=fun v v0 v9 => by
   rw [Cj]
   refine ⟨h0,h1,hR'.2.2.1,hR'.2.2.2.1,by simpa using hR'.2.2.2.2.1,fun x hx => ?_⟩
   rcases RQ hx with hx | rfl
   ·exact hR'.2.2.2.2.2 x hx
   ·exact ⟨v0,v9,fun e => absurd e hR0⟩
  refine ⟨by rw [e1];exact hset _ a4 a5,by rw [e2];exact hset _ hold.1 hold.2,by rw [e2],fun e => ?_⟩
  rw [e2]
  show R.vals.set _ _ = R.vals
  rw [a6,e]
  exact XW (by omega)
 ·have hs : r.slot < 0:=by omega
  by_cases hn : r.new = 0
  ·have hM0 : M.owner ≠ 0:=fun e => (a4.1 e) hn
   have e1 : doR R r n = ⟨n,0, [0,0,0]⟩:=by rw [doR,Gc hs hn]
   have e2 : Bg (doR R r n) (Bz r 0) = ⟨n,r.old, [0,0,0]⟩:=by
    rw [e1,Bg,if_neg (show ¬ 0 ≤ (Bz r 0).slot by simp only [Bz];omega),if_neg (show ¬ (Bz r 0).new = 0 by simp only [Bz];rw [a6];exact hM0)]
    rfl
   have hz : ∀ o : Int,0 ≤ o → o ≤ 3 → Bt ⟨n,o, [0,0,0]⟩ = true:=fun o o0 o3 => by
    rw [Cj]
    exact ⟨h0,h1,o0,o3,rfl,fun x hx => by simp at hx;rw [hx];simp⟩
   refine ⟨by rw [e1];exact hz 0 (by omega) (by omega),by rw [e2];exact hz _ hold.1 (by rw [if_pos a1] at hold;exact hold.2),by rw [e2,a6,ho],fun e => ?_⟩
   rw [e2, ← e,a5]
  ·have hM0 : M.owner = 0:=a4.2 hn
   have hRz : R.vals = [0,0,0]:=VQ hR'.2.2.2.2.1 (fun x hx => (hR'.2.2.2.2.2 x hx).2.2 (by rw [← ho];exact hM0))
   have e1 : doR R r n = ⟨n,r.new, [0,0,0]⟩:=by rw [doR,Bg,if_neg (by omega),if_neg hn,hRz]
   have e2 : Bg (doR R r n) (Bz r 0) = ⟨n,0, [0,0,0]⟩:=by
    rw [Gc (show (Bz r 0).slot < 0 from hs) (show (Bz r 0).new = 0 by simp only [Bz];rw [a6,hM0]),e1]
   have hz : ∀ o : Int,0 ≤ o → o ≤ 3 → Bt ⟨n,o, [0,0,0]⟩ = true:=fun o o0 o3 => by
    rw [Cj]
    exact ⟨h0,h1,o0,o3,rfl,fun x hx => by simp at hx;rw [hx];simp⟩
   refine ⟨by rw [e1];exact hz _ a2 a3,by rw [e2];exact hz 0 (by omega) (by omega),by rw [e2, ← ho,hM0],fun _ => ?_⟩
   rw [e2,hRz]
theorem Core.KU {e : Eng} {C : Nat → Page} {B : Nat} (h : Core e C B) : e.log.length ≤ B:=by
 have:=h.room e.log.length (Nat.le_refl _)
 omega
theorem Qe {l : List Rec} {r : Rec} {t : Int} (ht : t = 1 ∨ t = 2 ∨ t = 3) (hr : r.tx = t) (hU : (U (l ++ [r]) t (l.length + 1)).length ≤ (U l t l.length).length + 1) : Bu (l ++ [r]) (l.length + 1) ≤ Bu l l.length + 2:=by
 have hs:=Ky (l:=l ++ [r]) (n:=l.length) (t:=t) (by rw [BF,hr]) ht
 rw [LW,R4] at hs
 have e1 : cst (l ++ [r]) t (l.length + 1) ≤ (U l t l.length).length + 2:=by
  rw [cst]
  split <;> omega
 have e2 : (U l t l.length).length ≤ cst l t l.length:=by rw [cst];omega
 omega
theorem UpC.more {l : List Rec} {r : Rec} (h : UpC l) (hl : AB (l ++ [r]) = true) (hk : r.kind ≠ 6) : UpC (l ++ [r]):=by
 intro t m hm
 have hA:=Cf l [r]
 have hlen : l.length < (l ++ [r]).length:=by simp
 have hlen1 : (l ++ [r]).length = l.length + 1:=by simp
 have old : ∀ t, ∀ m ∈ Ch (l ++ [r]) t l.length,(rc (l ++ [r]) (m - 1)).kind ≠ 6:=fun t m hm => by
  rw [SX hA t (Nat.le_refl _)] at hm
  have h1:=E8 _ m hm
  have h2:=Bc l t l.length
  rw [Ns (by omega)]
  exact h t m hm
 rw [hlen1] at hm
 by_cases e1 : (rc (l ++ [r]) l.length).tx = t
 ·subst e1
  cases he : EO (rc (l ++ [r]) l.length).kind
  ·rw [Nf hl hlen he] at hm
   rcases List.mem_cons.1 hm with rfl | hm
   ·rw [Nat.add_sub_cancel,BF];exact hk
   ·exact old _ m hm
  ·rw [Yv rfl he] at hm;cases hm
 ·rw [Pv e1] at hm
  exact old t m hm
theorem Inv.chg {e : Eng} {C : Nat → Page} {B : Nat} (h : Inv e C B) (hup : e.down = false) {r : Rec} {p : Nat} (hp : p < 5) (hpg : r.page = p) (ht : r.tx = 1 ∨ r.tx = 2 ∨ r.tx = 3) (ha : Apt (pg e.mem p) r) (hnx : r.next = 0) (hfree : ∀ t,t ≠ r.tx → has e.log t e.log.length p = false) (hB : B + 3 ≤ 150) : Inv (e.app r) C (B + 3):=by
 have hc:=h.core
 have hm:=h.upm hup
 have hMp:=hm p hp
 have hle:=Bc e.log r.tx e.log.length
 have hn:=hc.KU
 have hold:=ha.old hMp.ok
 have hs1:=hc.s1
 obtain ⟨r',hr'⟩ : ∃ r' : Rec,{ r with prev:=(Ai e.log r.tx e.log.length : Int) } = r':=⟨_,rfl⟩
 have k1 : r'.kind = r.kind:=by rw [← hr']
 have k2 : r'.tx = r.tx:=by rw [← hr']
 have k3 : r'.page = r.page:=by rw [← hr']
 have k4 : r'.slot = r.slot:=by rw [← hr']
 have k5 : r'.old = r.old:=by rw [← hr']
 have k6 : r'.new = r.new:=by rw [← hr']
 have k7 : r'.prev = Ai e.log r.tx e.log.length:=by rw [← hr']
 have k8 : r'.next = r.next:=by rw [← hr']
 have hkind : r'.kind = 1 ∨ r'.kind = 2:=by rw [k1];exact ha.kind
 have hdo : ∀ P n,doR P r' n = doR P r n:=fun P n => by rw [← hr'];rfl
 have hbk : ∀ P,Bg P (Bz r' 0) = Bg P (Bz r 0):=fun P => by rw [← hr'];rfl
 have hok : CZ r' = true:=by
  rw [Dc,k1,k2,k3,k4,k5,k6,k7,k8]
  rcases ha with ⟨a0,a1,a2,a3,a4,a5,a6⟩ | ⟨a0,a1,a2,a3,a4,a5,a6⟩
  ·rw [if_neg (by omega)] at hold
   omega
  ·rw [if_pos a1] at hold
   omega
 have hl' : AB (e.log ++ [r']) = true:=JB hc.log hok (by rw [k7,k2]) (by rw [k8,hnx];omega) (.inl (by rw [k8,hnx];omega)) (by omega)
 have hA:=Cf e.log [r']
 have hlen : e.log.length < (e.log ++ [r']).length:=by simp
 have hlen1 : (e.log ++ [r']).length = e.log.length + 1:=by simp
 have hrl : rc (e.log ++ [r']) e.log.length = r':=BF _ _
 have hpr : He (e.log ++ [r']) e.log.length:=by
  refine ⟨?_,?_,?_,?_,?_⟩
  all_goals rw [hrl]
  ·rw [k1,k5,k6]
   intro h2 hnew
   rcases ha with ha | ha
   ·omega
   ·rw [ha.2.2.2.2.2.2];exact ha.2.2.2.2.1.2 hnew
  ·intro hk;omega
  ·intro hk;omega
  ·intro he;rw [Ew (by omega)] at he;cases he
  ·intro _ t htn
   rw [k2] at htn
   rw [Hw hA _ _ (Nat.le_refl _),k3,hpg]
   exact hfree t htn
 have hP:=FM hc.prop hpr
 have hUA:=fun q => U1 hl' hP hlen (by rw [hrl];exact hkind) q
 have hroom : e.log.length + 1 + Bu (e.log ++ [r']) (e.log.length + 1) ≤ B + 3:=by
  have h1:=hc.room e.log.length (Nat.le_refl _)
  have h2:=Qe (l:=e.log) (r:=r') ht k2 (by
   have:=UO hl' hlen (by rw [hrl];exact hkind)
   rw [hrl,k2] at this
   rw [this,List.length_cons,H9 hA _ (Nat.le_refl _)];exact Nat.le_refl _)
  omega
 have hch : Cw r'.kind = true:=by rw [k1];exact ha.chg
 have hRok:=fun q (hq : q < 5) => hc.rok (p:=q) hq hs1 (Nat.le_refl _)
 have hap:=ha.page (n:=(e.log.length + 1 : Nat)) hMp.ok (hRok p hp) hMp.owner (by omega) (by omega)
 have hapM:=ha.page (R:=pg e.mem p) (n:=(e.log.length + 1 : Nat)) hMp.ok hMp.ok rfl (by omega) (by omega)
 have hE : e.app r = { e with log:=e.log ++ [r'],mem:=e.mem.set r.page.toNat (doR (pg e.mem r.page.toNat) r (e.log.length + 1 : Nat)) }:=by
  rw [← hr',Eng.app,if_pos ha.chg]
 have hM:=fun q => H7 h.mlen (r:=r) (fun _ => by omega) q
 have hR:=fun q (hq : q < 5) => Po hc r hq
 have hpathR:=fun q (hq : q < 5) => Dh hA.symm (fun m hm => by have:=Ec hm;omega) (hc.good e.log.length hs1 (Nat.le_refl _) q hq)
 have hcore : Core { e with log:=e.log ++ [r'] } C (B + 3):=by
  refine Core.snoc hc (by omega) hB hl' hpr (by omega) hroom fun q hq => ?_
  have hrq:=hc.Xh (p:=q) hq hs1
  rw [hUA q,hrl,k3,I7,k3,Fp hA q (Nat.le_refl _)]
  by_cases e1 : r.page = q
  ·obtain rfl : q = p:=by omega
   rw [if_pos e1,if_pos ⟨hch,e1,by omega⟩,hdo]
   refine ⟨hap.1,?_⟩
   rw [Nat.add_sub_cancel,hrl,hbk]
   rcases hMp.alt with hal | hal
   ·have hv:=hap.2.2.2 hal
    have ho:=hap.2.2.1
    have hpx:=JA (k:=(e.log.length + 1 : Nat)) (by omega) (by omega) (hpathR q hq)
    rw [← ho, ← hv] at hpx
    have hls : (Bg (doR (Cb (pg e.disk q) e.log q e.log.length) r (e.log.length + 1 : Nat)) (Bz r 0)).lsn = (e.log.length + 1 : Nat):=by rw [KP];rfl
    rw [show Bg (doR (Cb (pg e.disk q) e.log q e.log.length) r (e.log.length + 1 : Nat)) (Bz r 0) = ⟨(e.log.length + 1 : Nat),_,_⟩ from RF hls rfl rfl]
    exact hpx
   ·exact Kv (fun m hm => by rw [Ns (by have:=Ec hm;omega)];exact UQ hc.log (Nat.le_refl _) m hm) (Eo hA.symm (fun m hm => by have:=Ec hm;omega) hal) hap.2.1 hap.2.2.1 (hpathR q hq)
  ·rw [if_neg e1,if_neg (fun hx => e1 hx.2.1)]
   exact hpathR q hq
 refine ⟨?_,by rw [MV];exact h.mlen,fun hd => ?_,fun _ => ?_,fun _ q hq => ?_⟩
 ·rw [hE]
  exact hcore.mem _ _
 ·rw [hE] at hd
  rw [show e.down = true from hd] at hup;cases hup
 ·rw [hE]
  exact (h.upc hup).more hl' (by omega)
 ·have hMq:=hm q hq
  have hls : lds (e.log ++ [r']) (e.log.length + 1) q = lds e.log e.log.length q:=by
   rw [P6 hl' hlen (by rw [hrl];exact Ew (by omega)) (by rw [hrl];omega),Jc hA q (Nat.le_refl _)]
  have hd:=hc.MR q hq
  have hLl : (e.app r).log = e.log ++ [r']:=by rw [hE]
  have hdk : (e.app r).disk = e.disk:=rfl
  have hMx:=hM q
  have hRx:=hR q hq
  have hUq:=hUA q
  rw [hrl,k3,Fp hA q (Nat.le_refl _)] at hUq
  by_cases e1 : r.page = q
  ·obtain rfl : q = p:=by omega
   rw [if_pos ⟨ha.chg,e1⟩] at hMx hRx
   rw [if_pos e1] at hUq
   refine ⟨by rw [hMx];exact hapM.1,?_,?_,?_⟩
   ·rw [hMx,hRx,EY,EY]
    exact Iy _ hMq.owner
   ·rw [hMx,hLl,hlen1];exact Int.le_refl _
   ·rw [hLl,hlen1,hls,hdk]
    rcases hMq.cases with hx | ⟨a,b,c,d⟩
    ·exact .inl ⟨hx.1,by rw [hMx,hRx,hx.2]⟩
    ·refine .inr ⟨a,?_, .inl ?_,?_⟩
     ·rw [hMx,M0 (by rw [hrl,k3];exact ⟨e1, .inl hch⟩)];rfl
     ·rw [hMx];show _ < ((e.log.length + 1 : Nat) : Int);omega
     ·rcases d with d | d
      ·exact .inl (by rw [hMx,hRx,d])
      ·right
       rw [hUq]
       obtain ⟨x,hx,h1,h2⟩:=Eo hA.symm (fun m hm => by have:=Ec hm;omega) d
       exact ⟨x,List.mem_cons_of_mem _ hx,h1,h2⟩
  ·rw [if_neg (fun hx => e1 hx.2)] at hMx hRx
   rw [if_neg e1] at hUq
   refine ⟨by rw [hMx];exact hMq.ok,by rw [hMx,hRx];exact hMq.owner,?_,?_⟩
   ·rw [hMx,hLl,hlen1];have:=hMq.lsn;omega
   ·rw [hMx,hRx,hLl,hlen1,hls,hdk,hUq,Gw (by rw [hrl,k3];exact fun hx => e1 hx.1),EA _ hA]
    rcases hMq.cases with hx | ⟨a,b,c,d⟩
    ·exact .inl hx
    ·exact .inr ⟨a,b,c,d.imp id (fun hz => Eo hA.symm (fun m hm => by have:=Ec hm;omega) hz)⟩
theorem Qs {l : List Rec} (hl : AB l = true) (n : Nat) : n ≤ l.length → (∀ m ∈ BD l n,(rc l (m - 1)).kind ≠ 6) → ∀ m ∈ BD l n,(rc l (m - 1)).kind = 1 ∨ (rc l (m - 1)).kind = 2 → m ∈ D8 l n:=by
 induction n using Nat.strongRecOn with
 | _ n ih =>
  intro hn h6 m hm hk
  match n with
  | 0 => rw [Cs] at hm;cases hm
  | n + 1 =>
   have FF:=Aq hl (k:=n) (by omega)
   have hp:=FF.prev_le
   rw [Eh hp] at hm h6
   have ih':=ih (BP l (n + 1)) (by omega) (by omega) (fun x hx => h6 x (List.mem_cons_of_mem _ hx)) m
   have hk6 : (rc l n).kind ≠ 6:=by have:=h6 (n + 1) (by simp);simpa using this
   by_cases hk1 : (rc l n).kind = 1 ∨ (rc l n).kind = 2
   ·rw [Mf hk1 hp]
    rcases List.mem_cons.1 hm with rfl | hm
    ·simp
    ·exact List.mem_cons_of_mem _ (ih' hm hk)
   ·rw [Nk (by omega) (by omega) hk6 hp]
    rcases List.mem_cons.1 hm with rfl | hm
    ·rw [Nat.add_sub_cancel] at hk;exact absurd hk hk1
    ·exact ih' hm hk
theorem O3 {l : List Rec} {p : Int} : ∀ {n k : Nat},k < n → BK l p n < k + 1 → ¬ ((rc l k).page = p ∧ (Cw (rc l k).kind = true ∨ (rc l k).kind = 3))
 | 0,k,hk,_ => by omega
 | n + 1,k,hk,h => by
  rw [BK] at h
  split at h
  ·omega
  ·rename_i hc
   rcases Nat.eq_or_lt_of_le (Nat.le_of_lt_succ hk) with rfl | hlt
   ·exact hc
   ·exact O3 hlt h
theorem Ri.calm {e : Eng} {p : Nat} (h : Ri e p) : ∀ k,k < e.log.length → (pg e.mem p).lsn < (k + 1 : Nat) → ¬ UK e.log p k:=by
 intro k hk hlt
 rcases h.cases with ⟨_,h2⟩ | ⟨_,h2,_⟩
 ·rw [h2] at hlt
  exact OP hk hlt
 ·intro hc
  exact O3 (p:=(p : Int)) hk (by omega) ⟨hc.2, .inl hc.1⟩
theorem Inv.load {e : Eng} {C : Nat → Page} {B : Nat} (h : Inv e C B) (hup : e.down = false) {tx : Int} {p : Nat} {vals : List Int} (hp : p < 5) (ht : tx = 1 ∨ tx = 2 ∨ tx = 3) (ho : (pg e.mem p).owner ≠ 0) (hv : vals.length = 3 ∧ ∀ x ∈ vals,0 ≤ x ∧ x ≤ 9) (hfree : ∀ t,t ≠ tx → has e.log t e.log.length p = false)
  (htook : ∃ m ∈ Ch e.log tx e.log.length,(rc e.log (m - 1)).kind = 2 ∧ (rc e.log (m - 1)).page = p ∧ (rc e.log (m - 1)).new ≠ 0) (hB : B + 3 ≤ 150) :
  Inv { e with log:=e.log ++ [⟨3,tx,p,0,0,0,Ai e.log tx e.log.length,0⟩],mem:=e.mem.set p ⟨(e.log.length + 1 : Nat),(pg e.mem p).owner,vals⟩ } C (B + 3):=by
 have hc:=h.core
 have hm:=h.upm hup
 have hle:=Bc e.log tx e.log.length
 have hn:=hc.KU
 have hs1:=hc.s1
 obtain ⟨r',hr'⟩ : ∃ r' : Rec,(⟨3,tx,p,0,0,0,Ai e.log tx e.log.length,0⟩ : Rec) = r':=⟨_,rfl⟩
 rw [hr']
 have k1 : r'.kind = 3:=by rw [← hr']
 have k2 : r'.tx = tx:=by rw [← hr']
 have k3 : r'.page = p:=by rw [← hr']
 have hok : CZ r' = true:=by
  rw [← hr',Dc]
  exact ⟨.inr (.inr (.inl ⟨rfl,(by show (0 : Int) ≤ (p : Int);omega),(by show (p : Int) ≤ 4;omega),rfl,rfl,rfl,rfl⟩)),(by show 1 ≤ tx;omega),(by show tx ≤ 3;omega),(by show (0 : Int) ≤ (Ai e.log tx e.log.length : Int);omega),(by show (Ai e.log tx e.log.length : Int) ≤ 150;omega)⟩
 have hl' : AB (e.log ++ [r']) = true:=JB hc.log hok (by rw [← hr']) (by rw [← hr'];simp) (.inl (by rw [← hr'];exact Int.le_refl _)) (by omega)
 have hA:=Cf e.log [r']
 have hlen : e.log.length < (e.log ++ [r']).length:=by simp
 have hlen1 : (e.log ++ [r']).length = e.log.length + 1:=by simp
 have hrl : rc (e.log ++ [r']) e.log.length = r':=BF _ _
 have hpr : He (e.log ++ [r']) e.log.length:=by
  refine ⟨?_,?_,?_,?_,?_⟩
  all_goals rw [hrl]
  ·intro hk;omega
  ·intro hk;omega
  ·intro hk;omega
  ·intro he;rw [Ew (by omega)] at he;cases he
  ·intro _ t htn
   rw [k2] at htn
   rw [Hw hA _ _ (Nat.le_refl _),k3]
   exact hfree t htn
 have hP:=FM hc.prop hpr
 have hUA:=fun q => UR hl' hlen (by rw [hrl];exact k1) q
 have hUA' : ∀ q,UA (e.log ++ [r']) (e.log.length + 1) q = UA e.log e.log.length q:=fun q => by rw [hUA q,Fp hA q (Nat.le_refl _)]
 have hroom : e.log.length + 1 + Bu (e.log ++ [r']) (e.log.length + 1) ≤ B + 3:=by
  have h1:=hc.room e.log.length (Nat.le_refl _)
  have h2:=Qe (l:=e.log) (r:=r') ht k2 (by
   have:=U0 hl' hlen (by rw [hrl];exact k1)
   rw [hrl,k2] at this
   rw [this,H9 hA _ (Nat.le_refl _)];omega)
  omega
 have hno : ∀ q : Nat, ¬ (Cw r'.kind = true ∧ r'.page = (q : Int) ∧ (Cb (pg e.disk q) e.log q e.log.length).lsn < (e.log.length + 1 : Nat)):=fun q hx => by rw [k1] at hx;simp [Cw] at hx
 have hrd : ∀ q : Nat,Cb (pg e.disk q) (e.log ++ [r']) q (e.log.length + 1) = Cb (pg e.disk q) e.log q e.log.length:=fun q => by rw [I7,if_neg (hno q)]
 have hcore : Core { e with log:=e.log ++ [r'] } C (B + 3):=by
  refine Core.snoc hc (by omega) hB hl' hpr (by omega) hroom fun q hq => ?_
  rw [hUA',hrd]
  exact Dh hA.symm (fun m hm => by have:=Ec hm;omega) (hc.good e.log.length hs1 (Nat.le_refl _) q hq)
 refine ⟨hcore.mem _ _,by simpa using h.mlen,fun hd => ?_,fun _ => (h.upc hup).more hl' (by omega),fun _ q hq => ?_⟩
 ·rw [show e.down = true from hd] at hup;cases hup
 ·have hMq:=hm q hq
  have hd:=hc.MR q hq
  have hRx : DL ({ e with log:=e.log ++ [r'],mem:=e.mem.set p ⟨(e.log.length + 1 : Nat),(pg e.mem p).owner,vals⟩ } : Eng) q = DL e q:=by
   show Cb (pg e.disk q) (e.log ++ [r']) q (e.log ++ [r']).length = _
   rw [hlen1,hrd];rfl
  have hMx : pg (e.mem.set p ⟨(e.log.length + 1 : Nat),(pg e.mem p).owner,vals⟩) q = if p = q then ⟨(e.log.length + 1 : Nat),(pg e.mem p).owner,vals⟩ else pg e.mem q:=FU (by rw [h.mlen];exact hp)
  by_cases e1 : p = q
  ·subst e1
   rw [if_pos rfl] at hMx
   have hMo:=Cj.1 hMq.ok
   have hls : lds (e.log ++ [r']) (e.log.length + 1) p = true:=by
    rw [ME]
    refine ⟨tx,ht,?_⟩
    have:=Uy hl' hlen (by rw [hrl];exact Ew (by omega)) p
    rw [hrl,k2] at this
    rw [this,k1,k3]
    simp
   refine ⟨?_,?_,?_, .inr ⟨?_,?_, .inl ?_, .inr ?_⟩⟩
   ·show Bt (pg (e.mem.set p _) p) = true
    rw [hMx,Cj]
    exact ⟨by show (0 : Int) ≤ ((e.log.length + 1 : Nat) : Int);omega,by show ((e.log.length + 1 : Nat) : Int) ≤ 150;omega,hMo.2.2.1,hMo.2.2.2.1,hv.1,fun x hx => ⟨(hv.2 x hx).1,(hv.2 x hx).2,fun e => absurd e ho⟩⟩
   ·rw [hRx]
    show (pg (e.mem.set p _) p).owner = _
    rw [hMx]
    exact hMq.owner
   ·show (pg (e.mem.set p _) p).lsn ≤ ((e.log ++ [r']).length : Int)
    rw [hMx,hlen1]
    exact Int.le_refl _
   ·show lds (e.log ++ [r']) (e.log ++ [r']).length p = true
    rw [hlen1];exact hls
   ·show (pg (e.mem.set p _) p).lsn = (BK (e.log ++ [r']) p (e.log ++ [r']).length : Int)
    rw [hMx,hlen1,M0 (by rw [hrl];exact ⟨k3, .inr k1⟩)]
   ·show (pg e.disk p).lsn < (pg (e.mem.set p _) p).lsn
    rw [hMx]
    show _ < ((e.log.length + 1 : Nat) : Int)
    omega
   ·show QY (e.log ++ [r']) (UA (e.log ++ [r']) (e.log ++ [r']).length p)
    rw [hlen1,hUA']
    refine Eo hA.symm (fun m hm => by have:=Ec hm;omega) ?_
    obtain ⟨m,h1,h2,h3,h4⟩:=htook
    have hmU : m ∈ U e.log tx e.log.length:=Qs hc.log _ hle (fun x hx => h.upc hup tx x hx) m h1 (.inr h2)
    have hmb:=Oc hmU
    have hrec:=(Aq hc.log (k:=m - 1) (by omega)).ok
    have hprop:=(hc.prop (m - 1) (by omega)).own h2 h4
    rw [Dc] at hrec
    refine ⟨m,?_,by omega,hprop⟩
    rw [M8 hc.log hc.prop (Nat.le_refl _) ht hfree,F,List.mem_filter]
    exact ⟨hmU,by simpa using h3⟩
  ·rw [if_neg e1] at hMx
   have hls : lds (e.log ++ [r']) (e.log.length + 1) q = lds e.log e.log.length q:=by
    rw [P6 hl' hlen (by rw [hrl];exact Ew (by omega)) (by rw [hrl,k3];omega),Jc hA q (Nat.le_refl _)]
   have hlo : BK (e.log ++ [r']) q (e.log.length + 1) = BK e.log q e.log.length:=by
    rw [Gw (by rw [hrl,k3];omega),EA _ hA]
   refine ⟨?_,?_,?_,?_⟩
   ·show Bt (pg (e.mem.set p _) q) = true
    rw [hMx];exact hMq.ok
   ·rw [hRx]
    show (pg (e.mem.set p _) q).owner = _
    rw [hMx];exact hMq.owner
   ·show (pg (e.mem.set p _) q).lsn ≤ ((e.log ++ [r']).length : Int)
    rw [hMx,hlen1];have:=hMq.lsn;omega
   ·rw [hRx]
    show (lds (e.log ++ [r']) (e.log ++ [r']).length q = false ∧ pg (e.mem.set p _) q = DL e q) ∨ (lds (e.log ++ [r']) (e.log ++ [r']).length q = true ∧ (pg (e.mem.set p _) q).lsn = (BK (e.log ++ [r']) q (e.log ++ [r']).length : Int) ∧ ((pg e.disk q).lsn < (pg (e.mem.set p _) q).lsn ∨ pg (e.mem.set p _) q = pg e.disk q) ∧ (pg (e.mem.set p _) q = DL e q ∨ QY (e.log ++ [r']) (UA (e.log ++ [r']) (e.log ++ [r']).length q)))
    rw [hMx,hlen1,hls,hlo,hUA']
    rcases hMq.cases with hx | ⟨a,b,c,d⟩
    ·exact .inl hx
    ·exact .inr ⟨a,b,c,d.imp id (fun hz => Eo hA.symm (fun m hm => by have:=Ec hm;omega) hz)⟩
def G9 (e : Eng) (tx : Int) : List Page:=(List.range 5).map fun p : Nat => if ld e.log tx e.log.length p = true then pg e.mem p else pg e.disk p
theorem Kq (e : Eng) (tx : Int) {p : Nat} (hp : p < 5) : pg (G9 e tx) p = if ld e.log tx e.log.length p = true then pg e.mem p else pg e.disk p:=by
 simp [pg,G9,List.getD_eq_getElem?_getD,hp]
def Dg (e : Eng) (tx : Int) : Eng:={ e with disk:=G9 e tx,log:=e.log ++ [⟨4,tx,0,0,0,0,Ai e.log tx e.log.length,0⟩],safe:=(e.log.length + 1 : Nat) }
def I4 (e : Eng) (tx : Int) (C : Nat → Page) (p : Nat) : Page:=if has e.log tx e.log.length p = true then ⟨0,(pg e.mem p).owner,(pg e.mem p).vals⟩ else C p
theorem Inv.SB {e : Eng} {C : Nat → Page} {B : Nat} (h : Inv e C B) (hup : e.down = false) {tx : Int} (ht : tx = 1 ∨ tx = 2 ∨ tx = 3) (hlast : lastT e tx ≠ 0) : Inv (Dg e tx) (I4 e tx C) B:=by
 have hc:=h.core
 have hm:=h.upm hup
 have hle:=Bc e.log tx e.log.length
 have h150:=hc.one ht hlast
 have hs0:=hc.s0
 have hs1:=hc.s1
 obtain ⟨r',hr'⟩ : ∃ r' : Rec,(⟨4,tx,0,0,0,0,Ai e.log tx e.log.length,0⟩ : Rec) = r':=⟨_,rfl⟩
 unfold Dg
 rw [hr']
 have k1 : r'.kind = 4:=by rw [← hr']
 have k2 : r'.tx = tx:=by rw [← hr']
 have hok : CZ r' = true:=by
  rw [← hr',Dc]
  exact ⟨.inr (.inr (.inr (.inl ⟨.inl rfl,rfl,rfl,rfl,rfl,rfl⟩))),(by show 1 ≤ tx;omega),(by show tx ≤ 3;omega),(by show (0 : Int) ≤ (Ai e.log tx e.log.length : Int);omega),(by show (Ai e.log tx e.log.length : Int) ≤ 150;omega)⟩
 have hl' : AB (e.log ++ [r']) = true:=JB hc.log hok (by rw [← hr']) (by rw [← hr'];simp) (.inl (by rw [← hr'];exact Int.le_refl _)) h150
 have hA:=Cf e.log [r']
 have hlen : e.log.length < (e.log ++ [r']).length:=by simp
 have hlen1 : (e.log ++ [r']).length = e.log.length + 1:=by simp
 have hrl : rc (e.log ++ [r']) e.log.length = r':=BF _ _
 have hend : EO (rc (e.log ++ [r']) e.log.length).kind = true:=by rw [hrl,k1];rfl
 have htx : (rc (e.log ++ [r']) e.log.length).tx = tx:=by rw [hrl,k2]
 have hpr : He (e.log ++ [r']) e.log.length:=by
  refine ⟨?_,?_,?_,?_,?_⟩
  all_goals rw [hrl]
  ·intro hk;omega
  ·intro hk;omega
  ·intro hk;omega
  ·intro _;rw [k2,D5 tx hA];exact Nat.pos_of_ne_zero hlast
  ·intro hk;omega
 have hP:=FM hc.prop hpr
 have hUA : ∀ q,UA (e.log ++ [r']) (e.log.length + 1) q = if has e.log tx e.log.length q = true then [] else UA e.log e.log.length q:=fun q => by
  rw [Xw hl' hP hlen (by rw [hrl];exact k1),htx,Hw hA _ _ (Nat.le_refl _),Fp hA q (Nat.le_refl _)]
 have hroom : e.log.length + 1 + Bu (e.log ++ [r']) (e.log.length + 1) ≤ B:=by
  have h1:=hc.room e.log.length (Nat.le_refl _)
  have hs:=Ky (l:=e.log ++ [r']) (n:=e.log.length) (t:=tx) htx ht
  rw [LW,R4] at hs
  have e1 : cst (e.log ++ [r']) tx (e.log.length + 1) = 0:=by rw [cst,Qp htx hend,Je htx hend];rfl
  have e2 : 1 ≤ cst e.log tx e.log.length:=by rw [cst,if_neg hlast];omega
  omega
 have hoth : ∀ q,has e.log tx e.log.length q = true → lds (e.log ++ [r']) (e.log.length + 1) q = false:=fun q hq => by
  rw [Bool.eq_false_iff]
  intro hl
  obtain ⟨t,_,hlt⟩:=ME.1 hl
  by_cases e1 : tx = t
  ·subst e1
   rw [TF htx hend] at hlt;cases hlt
  ·rw [MF (by rw [htx];exact e1),Ih hA _ _ (Nat.le_refl _)] at hlt
   have:=Ie hc.log hc.prop _ (Nat.le_refl _) _ _ _ e1 hq
   rw [Ny hlt] at this;cases this
 have hrd : ∀ (P : Page) (q : Nat),Cb P (e.log ++ [r']) q (e.log.length + 1) = Cb P e.log q e.log.length:=fun P q => by
  rw [I7,if_neg]
  intro hx
  rw [k1] at hx
  simp [Cw] at hx
 have hRed : ∀ q : Nat,q < 5 → has e.log tx e.log.length q = true → Cb (pg (G9 e tx) q) e.log q e.log.length = pg e.mem q:=fun q hq hhas => by
  rw [Kq e tx hq]
  split
  ·exact Jw (hm q hq).calm
  ·rename_i hld
   rcases (hm q hq).cases with hx | ⟨a,_⟩
   ·exact hx.2.symm
   ·obtain ⟨t,_,hlt⟩:=ME.1 a
    by_cases e1 : tx = t
    ·subst e1;exact absurd hlt hld
    ·have:=Ie hc.log hc.prop _ (Nat.le_refl _) _ _ _ e1 hhas
     rw [Ny hlt] at this;cases this
 have hRed' : ∀ q : Nat,q < 5 → has e.log tx e.log.length q = false → pg (G9 e tx) q = pg e.disk q:=fun q hq hhas => by
  rw [Kq e tx hq,if_neg]
  intro hld
  rw [Ny hld] at hhas;cases hhas
 have hcore : Core ({ e with disk:=G9 e tx,log:=e.log ++ [r'],safe:=(e.log.length + 1 : Nat) } : Eng) (I4 e tx C) B:=by
  refine ⟨by simp [G9],fun q hq => ?_,hl',hP,by show (0 : Int) ≤ ((e.log.length + 1 : Nat) : Int);omega,by show ((e.log.length + 1 : Nat) : Int) ≤ ((e.log ++ [r']).length : Int);rw [hlen1];exact Int.le_refl _,hc.b150,fun n hn => ?_,fun k hk _ => ?_,fun q hq => ?_,fun n hs hn q hq => ?_⟩
  ·show Bt (pg (G9 e tx) q) = true
   rw [Kq e tx hq]
   split
   ·exact (hm q hq).ok
   ·exact hc.dok q hq
  ·have hn : n ≤ (e.log ++ [r']).length:=hn
   show n + Bu (e.log ++ [r']) n ≤ B
   rw [hlen1] at hn
   rcases Nat.lt_or_ge e.log.length n with hlt | hge
   ·obtain rfl : n = e.log.length + 1:=by omega
    exact hroom
   ·rw [GX hA hge]
    exact hc.room n hge
  ·have hk : k < (e.log ++ [r']).length:=hk
   rw [hlen1] at hk
   show ((k + 1 : Nat) : Int) ≤ ((e.log.length + 1 : Nat) : Int)
   omega
  ·show (pg (G9 e tx) q).lsn ≤ ((e.log.length + 1 : Nat) : Int)
   have h1:=hc.MR q hq
   have h2:=(hm q hq).lsn
   rw [Kq e tx hq]
   split <;> omega
  ·have hs : ((e.log.length + 1 : Nat) : Int) ≤ n:=hs
   have hn : n ≤ (e.log ++ [r']).length:=hn
   rw [hlen1] at hn
   obtain rfl : n = e.log.length + 1:=by omega
   show EN (e.log ++ [r']) (I4 e tx C q) (UA (e.log ++ [r']) (e.log.length + 1) q) (Cb (pg (G9 e tx) q) (e.log ++ [r']) q (e.log.length + 1))
   rw [hUA,hrd]
   unfold I4
   cases hhas : has e.log tx e.log.length q
   ·rw [if_neg (by simp),if_neg (by simp),hRed' q hq hhas]
    exact Dh hA.symm (fun m hm => by have:=Ec hm;omega) (hc.good e.log.length hs1 (Nat.le_refl _) q hq)
   ·rw [if_pos rfl,if_pos rfl,hRed q hq hhas]
    exact ⟨(hm q hq).ok,rfl,rfl⟩
 refine ⟨hcore,h.mlen,fun hd => ?_,fun _ => (h.upc hup).more hl' (by omega),fun _ q hq => ?_⟩
 ·rw [show e.down = true from hd] at hup;cases hup
 ·have hMq:=hm q hq
  have hRx : DL ({ e with disk:=G9 e tx,log:=e.log ++ [r'],safe:=(e.log.length + 1 : Nat) } : Eng) q = Cb (pg (G9 e tx) q) e.log q e.log.length:=by
   show Cb (pg (G9 e tx) q) (e.log ++ [r']) q (e.log ++ [r']).length = _
   rw [hlen1,hrd]
  cases hhas : has e.log tx e.log.length q
  ·have hdq:=hRed' q hq hhas
   have hRe : Cb (pg (G9 e tx) q) e.log q e.log.length = DL e q:=by rw [hdq];rfl
   have hls : lds (e.log ++ [r']) (e.log.length + 1) q = lds e.log e.log.length q:=by
    rw [Ux hend (by rw [htx,Ih hA _ _ (Nat.le_refl _),Bool.eq_false_iff];intro hld;rw [Ny hld] at hhas;cases hhas),Jc hA q (Nat.le_refl _)]
   have hlo : BK (e.log ++ [r']) q (e.log.length + 1) = BK e.log q e.log.length:=by
    rw [Gw (by rw [hrl,k1];simp [Cw]),EA _ hA]
   have hUq:=hUA q
   rw [hhas,if_neg (by simp)] at hUq
   refine ⟨hMq.ok,by rw [hRx,hRe];exact hMq.owner,?_,?_⟩
   ·show (pg e.mem q).lsn ≤ ((e.log ++ [r']).length : Int)
    rw [hlen1];have:=hMq.lsn;omega
   ·rw [hRx,hRe]
    show (lds (e.log ++ [r']) (e.log ++ [r']).length q = false ∧ pg e.mem q = DL e q) ∨ (lds (e.log ++ [r']) (e.log ++ [r']).length q = true ∧ (pg e.mem q).lsn = (BK (e.log ++ [r']) q (e.log ++ [r']).length : Int) ∧ ((pg (G9 e tx) q).lsn < (pg e.mem q).lsn ∨ pg e.mem q = pg (G9 e tx) q) ∧ (pg e.mem q = DL e q ∨ QY (e.log ++ [r']) (UA (e.log ++ [r']) (e.log ++ [r']).length q)))
    rw [hlen1,hls,hlo,hUq,hdq]
    rcases hMq.cases with hx | ⟨a,b,c,d⟩
    ·exact .inl hx
    ·exact .inr ⟨a,b,c,d.imp id (fun hz => Eo hA.symm (fun m hm => by have:=Ec hm;omega) hz)⟩
  ·have hRe:=hRed q hq hhas
   refine ⟨hMq.ok,by rw [hRx,hRe],?_, .inl ⟨?_,by rw [hRx,hRe]⟩⟩
   ·show (pg e.mem q).lsn ≤ ((e.log ++ [r']).length : Int)
    rw [hlen1];have:=hMq.lsn;omega
   ·show lds (e.log ++ [r']) (e.log ++ [r']).length q = false
    rw [hlen1];exact hoth q hhas
def D7 (e : Eng) (p : Nat) : Eng:={ e with safe:=max e.safe (pg e.mem p).lsn,disk:=e.disk.set p (pg e.mem p) }
theorem Inv.write {e : Eng} {C : Nat → Page} {B : Nat} (h : Inv e C B) (hup : e.down = false) {p : Nat} (hp : p < 5) : Inv (D7 e p) C B:=by
 have hc:=h.core
 have hm:=h.upm hup
 have hs0:=hc.s0
 have hs1:=hc.s1
 have hpl:=(hm p hp).lsn
 have hD : ∀ q,pg (e.disk.set p (pg e.mem p)) q = if p = q then pg e.mem p else pg e.disk q:=fun q => FU (by rw [hc.dlen];exact hp)
 have hcalm:=(hm p hp).calm
 have hcore : Core (D7 e p) C B:=by
  refine ⟨by show (e.disk.set p _).length = 5;simpa using hc.dlen,fun q hq => ?_,hc.log,hc.prop,by show 0 ≤ max e.safe _;omega,by show max e.safe (pg e.mem p).lsn ≤ (e.log.length : Int);omega,hc.b150,hc.room,fun k hk h4 => ?_,fun q hq => ?_,fun n hs hn q hq => ?_⟩
  ·show Bt (pg (e.disk.set p _) q) = true
   rw [hD]
   split
   ·exact (hm p hp).ok
   ·exact hc.dok q hq
  ·have:=hc.done k hk h4
   show _ ≤ max e.safe _
   omega
  ·show (pg (e.disk.set p _) q).lsn ≤ max e.safe _
   have:=hc.MR q hq
   rw [hD]
   split <;> omega
  ·have hs : max e.safe (pg e.mem p).lsn ≤ n:=hs
   show EN e.log (C q) (UA e.log n q) (Cb (pg (e.disk.set p (pg e.mem p)) q) e.log q n)
   rw [hD]
   split
   ·rename_i e1
    subst e1
    rw [Jw (fun k hk hlt => hcalm k (by have : n ≤ e.log.length:=hn;omega) hlt)]
    have hU : UA e.log e.log.length p = UA e.log n p:=SI hc.log hc.prop hn (Nat.le_refl _) fun k h1 h2 => ⟨hcalm k h2 (by omega),fun h4 => by have:=hc.done k h2 h4;omega⟩
    rw [← hU]
    exact hc.QA hp (hm p hp).ok (hm p hp).owner (hm p hp).alt
   ·exact hc.good n (by omega) hn q hq
 refine ⟨hcore,h.mlen,fun hd => ?_,h.upc,fun _ q hq => ?_⟩
 ·rw [show e.down = true from hd] at hup;cases hup
 ·have hMq:=hm q hq
  by_cases e1 : p = q
  ·subst e1
   have hRx : DL (D7 e p) p = pg e.mem p:=by
    show Cb (pg (e.disk.set p (pg e.mem p)) p) e.log p e.log.length = _
    rw [hD,if_pos rfl]
    exact Jw hcalm
   refine ⟨hMq.ok,by rw [hRx];rfl,hMq.lsn,?_⟩
   rw [hRx]
   rcases hMq.cases with hx | ⟨a,b,c,d⟩
   ·exact .inl ⟨hx.1,rfl⟩
   ·exact .inr ⟨a,b, .inr (by show _ = pg (e.disk.set p _) p;rw [hD,if_pos rfl];rfl), .inl rfl⟩
  ·have hdq : pg (D7 e p).disk q = pg e.disk q:=by
    show pg (e.disk.set p _) q = _
    rw [hD,if_neg e1]
   have hRx : DL (D7 e p) q = DL e q:=by
    show Cb (pg (D7 e p).disk q) e.log q e.log.length = _
    rw [hdq];rfl
   refine ⟨hMq.ok,by rw [hRx];exact hMq.owner,hMq.lsn,?_⟩
   rw [hRx,hdq]
   exact hMq.cases
def GI (e : Eng) : Eng:={ e with safe:=e.log.length }
theorem Inv.force {e : Eng} {C : Nat → Page} {B : Nat} (h : Inv e C B) (hup : e.down = false) : Inv (GI e) C B:=by
 have hc:=h.core
 have hs0:=hc.s0
 have hs1:=hc.s1
 refine ⟨⟨hc.dlen,hc.dok,hc.log,hc.prop,by show (0 : Int) ≤ (e.log.length : Int);omega,Int.le_refl _,hc.b150,hc.room,fun k hk h4 => ?_,fun q hq => ?_,fun n hs hn q hq => ?_⟩,h.mlen,fun hd => ?_,h.upc,fun hd q hq => ?_⟩
 ·have:=hc.done k hk h4
  show _ ≤ (e.log.length : Int)
  omega
 ·have:=hc.MR q hq
  show (pg e.disk q).lsn ≤ (e.log.length : Int)
  omega
 ·have hs : (e.log.length : Int) ≤ n:=hs
  exact hc.good n (by omega) hn q hq
 ·rw [show e.down = true from hd] at hup;cases hup
 ·have hMq:=h.upm hup q hq
  exact ⟨hMq.ok,hMq.owner,hMq.lsn,hMq.cases⟩
def O1 (e : Eng) (left : Int) : Nat:=(max e.safe (min left e.log.length)).toNat
def Jk (e : Eng) (left : Int) : Eng:={ e with mem:=e.disk,log:=e.log.take (O1 e left),down:=true }
theorem Core.take {e : Eng} {C : Nat → Page} {B : Nat} (h : Core e C B) {n : Nat} (h1 : e.safe ≤ n) (h2 : n ≤ e.log.length) : Core { e with log:=e.log.take n } C B:=by
 have hA:=M7 e.log n
 have hl : (e.log.take n).length = n:=by rw [List.length_take];omega
 refine ⟨h.dlen,h.dok,LX h.log n,RA h.prop n,h.s0,by show e.safe ≤ ((e.log.take n).length : Int);rw [hl];exact h1,h.b150,fun k hk => ?_,fun k hk h4 => ?_,h.MR,fun k hs hk q hq => ?_⟩
 ·have hk : k ≤ (e.log.take n).length:=hk
  show k + Bu (e.log.take n) k ≤ B
  rw [GX hA (by omega)]
  exact h.room k (by omega)
 ·have hk : k < (e.log.take n).length:=hk
  have h4 : (rc (e.log.take n) k).kind = 4:=h4
  rw [hA k (by omega)] at h4
  exact h.done k (by omega) h4
 ·have hk : k ≤ (e.log.take n).length:=hk
  show EN (e.log.take n) (C q) (UA (e.log.take n) k q) (Cb (pg e.disk q) (e.log.take n) q k)
  rw [Fp hA q (by omega),IB _ q (hA.le (by omega))]
  exact Dh hA.symm (fun m hm => by have:=Ec hm;omega) (h.good k hs (by omega) q hq)
theorem P5 {e : Eng} {left : Int} (h0 : 0 ≤ e.safe) (h1 : e.safe ≤ e.log.length) : e.safe ≤ O1 e left ∧ O1 e left ≤ e.log.length:=by
 unfold O1
 omega
theorem Inv.fall {e : Eng} {C : Nat → Page} {B : Nat} (h : Inv e C B) (left : Int) : Inv (Jk e left) C B:=by
 have hl:=P5 (left:=left) h.core.s0 h.core.s1
 exact ⟨(h.core.take hl.1 hl.2).mem _ _,h.core.dlen,fun _ => rfl,fun hd => (by cases hd),fun hd => (by cases hd)⟩
def GK (tx : Int) : Nat → Eng → Eng
 | 0,e => e
 | k + 1,e => GK tx k (Be e tx)
def DF (e : Eng) (tx : Int) : Eng:=if lastT e tx = 0 then e else GK tx ((U e.log tx e.log.length).length + 1) e
structure Eb (e : Eng) (C : Nat → Page) (B : Nat) (tx : Int) : Prop where
 core : Core e C B
 mlen : e.mem.length = 5
 up : e.down = false
 oth : ∀ t,t ≠ tx → ∀ m ∈ Ch e.log t e.log.length,(rc e.log (m - 1)).kind ≠ 6
 upm : ∀ p,p < 5 → Ri e p
theorem Ho (e : Eng) (tx : Int) : (Be e tx).log.length = e.log.length + 1:=by rw [Gg];simp
theorem Core.NS {e : Eng} {C : Nat → Page} {B : Nat} (h : Core e C B) {tx : Int} (ht : tx = 1 ∨ tx = 2 ∨ tx = 3) (hlast : lastT e tx ≠ 0) :
  U (Be e tx).log tx (Be e tx).log.length = (U e.log tx e.log.length).tail ∧ (∀ t,t ≠ tx → U (Be e tx).log t (Be e tx).log.length = U e.log t e.log.length ∧ lastT (Be e tx) t = lastT e t) ∧ (lastT (Be e tx) tx = if U e.log tx e.log.length = [] then 0 else e.log.length + 1) ∧ Bu (Be e tx).log (Be e tx).log.length + 1 = Bu e.log e.log.length:=by
 have h1:=h.one ht hlast
 have hk:=Ez (e:=e) h.log tx
 have hn:=hk.next h.log (by omega) h1
 have hd:=hk.need h.log ht h1 hlast
 unfold lastT
 rw [Ho,Gg]
 exact ⟨hn.1,hn.2.1,hn.2.2,hd⟩
theorem Core.XU {e : Eng} {C : Nat → Page} {B : Nat} (h : Core e C B) {tx t : Int} (hne : t ≠ tx) : Ch (Be e tx).log t (Be e tx).log.length = Ch e.log t e.log.length:=by
 have hk:=Ez (e:=e) h.log tx
 rw [Ho,Gg,Pv (by rw [BF,hk.tx];exact Ne.symm hne),SX (Cf _ _) t (Nat.le_refl _)]
theorem Eb.step {e : Eng} {C : Nat → Page} {B : Nat} {tx : Int} (h : Eb e C B tx) (ht : tx = 1 ∨ tx = 2 ∨ tx = 3) (hlast : lastT e tx ≠ 0) : Eb (Be e tx) C B tx:=by
 refine ⟨h.core.step ht hlast,by unfold Be;rw [MV];exact h.mlen,h.up,fun t hne m hm => ?_,fun p hp => (h.upm p hp).step h.core h.mlen ht hlast hp⟩
 rw [h.core.XU hne] at hm
 have h1:=E8 _ m hm
 have h2:=Bc e.log t e.log.length
 rw [Gg,Ns (by omega)]
 exact h.oth t hne m hm
theorem Eb.all {C : Nat → Page} {B : Nat} {tx : Int} (ht : tx = 1 ∨ tx = 2 ∨ tx = 3) : ∀ (k : Nat) (e : Eng),Eb e C B tx → lastT e tx ≠ 0 → (U e.log tx e.log.length).length = k → Eb (GK tx (k + 1) e) C B tx ∧ lastT (GK tx (k + 1) e) tx = 0
 | 0,e,h,hlast,hk => by
  have hs:=h.core.NS ht hlast
  have h0:=List.eq_nil_of_length_eq_zero hk
  refine ⟨h.step ht hlast,?_⟩
  show lastT (Be e tx) tx = 0
  rw [hs.2.2.1,if_pos h0]
 | k + 1,e,h,hlast,hk => by
  have hs:=h.core.NS ht hlast
  have hne : U e.log tx e.log.length ≠ []:=fun h0 => by rw [h0] at hk;cases hk
  exact Eb.all ht k (Be e tx) (h.step ht hlast) (by rw [hs.2.2.1,if_neg hne];omega) (by rw [hs.1,List.length_tail,hk];omega)
theorem Oq {e : Eng} {t : Int} (h : lastT e t = 0) : Ch e.log t e.log.length = []:=by
 rw [Ch,show Ai e.log t e.log.length = 0 from h,Cs]
theorem Inv.und {e : Eng} {C : Nat → Page} {B : Nat} (h : Inv e C B) (hup : e.down = false) (tx : Int) : Eb e C B tx:=⟨h.core,h.mlen,hup,fun t _ => h.upc hup t,h.upm hup⟩
theorem Eb.inv {e : Eng} {C : Nat → Page} {B : Nat} {tx : Int} (h : Eb e C B tx) (h0 : lastT e tx = 0) : Inv e C B:=by
 refine ⟨h.core,h.mlen,fun hd => ?_,fun _ t m hm => ?_,fun _ => h.upm⟩
 ·rw [h.up] at hd;cases hd
 ·by_cases e1 : t = tx
  ·subst e1
   rw [Oq h0] at hm;cases hm
  ·exact h.oth t e1 m hm
theorem Inv.Jt {e : Eng} {C : Nat → Page} {B : Nat} (h : Inv e C B) (hup : e.down = false) {tx : Int} (ht : tx = 1 ∨ tx = 2 ∨ tx = 3) : Inv (DF e tx) C B ∧ lastT (DF e tx) tx = 0 ∧ (DF e tx).down = false:=by
 unfold DF
 split
 ·rename_i h0
  exact ⟨h,h0,hup⟩
 ·rename_i h0
  have:=Eb.all ht _ e (h.und hup tx) h0 rfl
  exact ⟨this.1.inv this.2,this.2,this.1.up⟩
def Ay (e : Eng) : Int:=if lastT e 1 ≠ 0 then 1 else if lastT e 2 ≠ 0 then 2 else if lastT e 3 ≠ 0 then 3 else 0
def Df : Nat → Eng → Eng
 | 0,e => e
 | k + 1,e => if Ay e = 0 then e else Df k (Be e (Ay e))
def Mk (e : Eng) (steps : Nat) : Eng:=
 let x:=Df steps { e with mem:=Cr e.disk e.log e.log.length }
 if Ay x = 0 then { x with down:=false } else { x with mem:=x.disk }
theorem IG {e : Eng} (h : Ay e ≠ 0) : (Ay e = 1 ∨ Ay e = 2 ∨ Ay e = 3) ∧ lastT e (Ay e) ≠ 0:=by
 unfold Ay at h ⊢
 split at h
 ·rename_i h1;rw [if_pos h1];exact ⟨.inl rfl,h1⟩
 ·rename_i h1
  rw [if_neg h1]
  split at h
  ·rename_i h2;rw [if_pos h2];exact ⟨.inr (.inl rfl),h2⟩
  ·rename_i h2
   rw [if_neg h2]
   split at h
   ·rename_i h3;rw [if_pos h3];exact ⟨.inr (.inr rfl),h3⟩
   ·exact absurd rfl h
theorem Gz {e : Eng} (h : Ay e = 0) : lastT e 1 = 0 ∧ lastT e 2 = 0 ∧ lastT e 3 = 0:=by
 unfold Ay at h
 split at h
 ·cases h
 ·rename_i h1
  split at h
  ·cases h
  ·rename_i h2
   split at h
   ·cases h
   ·rename_i h3
    exact ⟨Decidable.not_not.1 h1,Decidable.not_not.1 h2,Decidable.not_not.1 h3⟩
theorem Sy {e : Eng} (h : Bu e.log e.log.length = 0) : Ay e = 0:=by
 by_cases h0 : Ay e = 0
 ·exact h0
 ·obtain ⟨h1,h2⟩:=IG h0
  have h3 : 1 ≤ cst e.log (Ay e) e.log.length:=by rw [cst,if_neg h2];omega
  rw [Bu] at h
  rcases h1 with h1 | h1 | h1 <;> rw [h1] at h3 <;> omega
structure Fx (e : Eng) (C : Nat → Page) (B : Nat) : Prop where
 core : Core e C B
 mlen : e.mem.length = 5
 same : ∀ p,p < 5 → pg e.mem p = DL e p
theorem Fx.step {e : Eng} {C : Nat → Page} {B : Nat} (h : Fx e C B) {tx : Int} (ht : tx = 1 ∨ tx = 2 ∨ tx = 3) (hlast : lastT e tx ≠ 0) : Fx (Be e tx) C B:=
 ⟨h.core.step ht hlast,by unfold Be;rw [MV];exact h.mlen,Ve h.core h.mlen tx h.same⟩
theorem Fx.all {C : Nat → Page} {B : Nat} : ∀ (k : Nat) (e : Eng),Fx e C B → Fx (Df k e) C B ∧ (Df k e).disk = e.disk ∧ (Df k e).safe = e.safe ∧ (Df k e).down = e.down ∧ (Bu e.log e.log.length ≤ k → Ay (Df k e) = 0)
 | 0,e,h => ⟨h,rfl,rfl,rfl,fun hn => Sy (e:=e) (by omega)⟩
 | k + 1,e,h => by
  rw [Df]
  split
  ·rename_i h0
   exact ⟨h,rfl,rfl,rfl,fun _ => h0⟩
  ·rename_i h0
   obtain ⟨h1,h2⟩:=IG h0
   obtain ⟨a,b,c,d,f⟩:=Fx.all k (Be e (Ay e)) (h.step h1 h2)
   have hs:=h.core.NS h1 h2
   exact ⟨a,b,c,d,fun hn => f (by omega)⟩
theorem Core.start {e : Eng} {C : Nat → Page} {B : Nat} (h : Core e C B) : Fx { e with mem:=Cr e.disk e.log e.log.length } C B:=by
 refine ⟨h.mem _ e.down,by show (Cr e.disk e.log e.log.length).length = 5;rw [J3];exact h.dlen,fun p hp => ?_⟩
 exact Mt h.dlen (fun k hk => (Aq h.log hk).ok) p _ (Nat.le_refl _)
theorem Core.YD {e : Eng} {C : Nat → Page} {B : Nat} (h : Core e C B) (h0 : Ay e = 0) (t : Int) : Ch e.log t e.log.length = []:=by
 have hz:=Gz h0
 by_cases h1 : Ch e.log t e.log.length = []
 ·exact h1
 ·obtain ⟨m,hm⟩:=List.exists_mem_of_ne_nil _ h1
  have hb:=E8 _ m hm
  have hle:=Bc e.log t e.log.length
  have hrec:=Aq h.log (k:=m - 1) (by omega)
  have ht : t = 1 ∨ t = 2 ∨ t = 3:=by
   have hlt:=Ii e.log t e.log.length
   have hF:=Aq h.log (k:=Ai e.log t e.log.length - 1) (by omega)
   rcases hlt with hlt | hlt
   ·omega
   ·have h2:=hF.tx1
    have h3:=hF.tx3
    rw [hlt] at h2 h3
    omega
  rcases ht with rfl | rfl | rfl
  ·exact Oq hz.1
  ·exact Oq hz.2.1
  ·exact Oq hz.2.2
theorem Core.noU {e : Eng} {C : Nat → Page} {B : Nat} (_h : Core e C B) (h0 : Ay e = 0) (p : Int) : UA e.log e.log.length p = []:=by
 have hz:=Gz h0
 have hF : ∀ t,lastT e t = 0 → F e.log e.log.length p t = []:=fun t ht => by
  rw [F,U,show Ai e.log t e.log.length = 0 from ht,Db];rfl
 rw [UA,hF 1 hz.1,hF 2 hz.2.1,hF 3 hz.2.2];rfl
theorem Core.noL {e : Eng} {C : Nat → Page} {B : Nat} (h : Core e C B) (h0 : Ay e = 0) (p : Int) : lds e.log e.log.length p = false:=by
 rw [Bool.eq_false_iff]
 intro hl
 obtain ⟨t,_,hlt⟩:=ME.1 hl
 obtain ⟨m,hm,_⟩:=WB.1 hlt
 rw [h.YD h0 t] at hm
 cases hm
theorem Fx.up {e : Eng} {C : Nat → Page} {B : Nat} (h : Fx e C B) (h0 : Ay e = 0) : Inv { e with down:=false } C B:=by
 refine ⟨h.core.mem e.mem false,h.mlen,fun hd => (by cases hd),fun _ t m hm => ?_,fun _ p hp => ?_⟩
 ·have hm : m ∈ Ch e.log t e.log.length:=hm
  rw [h.core.YD h0 t] at hm;cases hm
 ·have hsm:=h.same p hp
  have hs1:=h.core.s1
  refine ⟨?_,?_,?_, .inl ⟨h.core.noL h0 p,hsm⟩⟩
  ·show Bt (pg e.mem p) = true
   rw [hsm];exact h.core.rok hp hs1 (Nat.le_refl _)
  ·show (pg e.mem p).owner = (DL e p).owner
   rw [hsm]
  ·show (pg e.mem p).lsn ≤ (e.log.length : Int)
   rw [hsm];exact h.core.Xh hp hs1
theorem Inv.rise {e : Eng} {C : Nat → Page} {B : Nat} (h : Inv e C B) (hd : e.down = true) (k : Nat) : Inv (Mk e k) C B:=by
 obtain ⟨a,b,c,d,_⟩:=Fx.all k _ h.core.start
 unfold Mk
 simp only
 split
 ·rename_i h0
  exact a.up h0
 ·refine ⟨a.core.mem _ _,by show (Df k _).disk.length = 5;rw [b];exact h.core.dlen,fun _ => rfl,fun hx => ?_,fun hx => ?_⟩
  ·have hx : (Df k { e with mem:=Cr e.disk e.log e.log.length }).down = false:=hx
   rw [d] at hx
   rw [show e.down = false from hx] at hd;cases hd
  ·have hx : (Df k { e with mem:=Cr e.disk e.log e.log.length }).down = false:=hx
   rw [d] at hx
   rw [show e.down = false from hx] at hd;cases hd
theorem Inv.rises {e : Eng} {C : Nat → Page} {B : Nat} (h : Inv e C B) {k : Nat} (hk : Bu e.log e.log.length ≤ k) : (Mk e k).down = false ∧ Ay (Mk e k) = 0:=by
 obtain ⟨a,b,c,d,f⟩:=Fx.all k _ h.core.start
 have h0:=f hk
 unfold Mk
 simp only
 rw [if_pos h0]
 exact ⟨rfl,h0⟩
theorem Inv.truth {e : Eng} {C : Nat → Page} {B : Nat} (h : Inv e C B) (hup : e.down = false) (h0 : Ay e = 0) {p : Nat} (hp : p < 5) : (pg e.mem p).owner = (C p).owner ∧ (pg e.mem p).vals = (C p).vals:=by
 have hc:=h.core
 have hg:=hc.QA hp (h.upm hup p hp).ok (h.upm hup p hp).owner (h.upm hup p hp).alt
 rw [hc.noU h0] at hg
 exact hg.2
theorem Inv.KU {e : Eng} {C : Nat → Page} {B : Nat} (h : Inv e C B) : Bu e.log e.log.length ≤ 150:=by
 have h1:=h.core.room e.log.length (Nat.le_refl _)
 have h2:=h.core.b150
 omega
theorem LP {p q : Page} : Gh p q = true ↔ p = q:=by
 simp only [Gh,Bool.and_eq_true,beq_iff_eq]
 constructor
 ·rintro ⟨⟨h1,h2⟩,h3⟩
  exact RF h1 h2 h3
 ·rintro rfl
  exact ⟨⟨rfl,rfl⟩,rfl⟩
def Y9 (e : Eng) (p : Nat) : Bool:=
 if Jb e.log p 3 = true then (pg e.mem p).owner == (pg (Cr e.disk e.log e.log.length) p).owner && (pg e.mem p).lsn == BK e.log p e.log.length && (decide ((pg e.disk p).lsn < (pg e.mem p).lsn) || Gh (pg e.mem p) (pg e.disk p))
 else Gh (pg e.mem p) (pg (Cr e.disk e.log e.log.length) p)
def Kt (e : Eng) (p : Nat) : Bool:=
 (FO e.log p (BX e.log 3) 0 true).2 && decide ((pg e.disk p).lsn ≤ e.safe) && (if e.down = true then Gh (pg e.mem p) (pg e.disk p) else Y9 e p)
def Lm (e : Eng) (n : Nat) : Bool:=Iw (Cr e.disk (e.log.take n) (e.log.take n).length) && Js (e.log.take n) (Cr e.disk (e.log.take n) (e.log.take n).length)
def IV (e : Eng) : Nat → Nat → Bool
 | 0,_ => true
 | k + 1,n => Lm e n && IV e k (n + 1)
def eOk (e : Eng) : Bool:=
 Iw e.disk && (Iw e.mem && (AB e.log && (inB e.safe 0 e.log.length && (Jj e.log && (IV e (e.log.length + 1 - e.safe.toNat) e.safe.toNat && (List.range 5).all fun p => Kt e p)))))
theorem LV {e : Eng} : ∀ {k n : Nat},IV e k n = true ↔ ∀ m,n ≤ m → m < n + k → Lm e m = true
 | 0,n => ⟨fun _ m h1 h2 => by omega,fun _ => rfl⟩
 | k + 1,n => by
  rw [IV,Bool.and_eq_true,LV]
  constructor
  ·rintro ⟨h1,h2⟩ m h3 h4
   rcases Nat.eq_or_lt_of_le h3 with rfl | h3
   ·exact h1
   ·exact h2 m h3 (by omega)
  ·intro h
   exact ⟨h n (Nat.le_refl _) (by omega),fun m h1 h2 => h m (by omega) (by omega)⟩
theorem Lh {l : List Rec} {C : Nat → Page} : ∀ {ms : List Nat} {ps : List Page},ps.length = 5 → (∀ m ∈ ms,0 ≤ (rc l (m - 1)).page ∧ (rc l (m - 1)).page < 5) → (∀ p,p < 5 → EN l (C p) (ms.filter fun m => (rc l (m - 1)).page == (p : Int)) (pg ps p)) → FI l ps ms = true
 | [],_,_,_,_ => rfl
 | m :: ms,ps,hl,hm,hp => by
  have h5:=hm m (by simp)
  obtain ⟨q,hq⟩ : ∃ q : Nat,(rc l (m - 1)).page = (q : Int):=⟨(rc l (m - 1)).page.toNat,by omega⟩
  have hq5 : q < 5:=by omega
  have hpq:=hp q hq5
  rw [List.filter_cons,if_pos (by rw [hq];simp)] at hpq
  have e1 : (rc l (m - 1)).page.toNat = q:=by omega
  rw [FI,e1,J7 hpq.2,Bool.true_and]
  refine Lh (C:=C) (by simpa using hl) (fun x hx => hm x (by simp [hx])) fun p hp5 => ?_
  rw [FU (by omega)]
  by_cases e2 : q = p
  ·subst e2
   rw [if_pos rfl]
   exact hpq.2
  ·rw [if_neg e2]
   have hpp:=hp p hp5
   rw [List.filter_cons,if_neg (by rw [hq,beq_iff_eq];omega)] at hpp
   exact hpp
theorem Xb (l : List Rec) (p : Int) : (IQ l 3).filter (fun m => (rc l (m - 1)).page == p) = UA l l.length p:=by
 have e1 : (3 - ((2 : Nat) : Int)) = 1:=rfl
 have e2 : (3 - ((1 : Nat) : Int)) = 2:=rfl
 have e3 : (3 - ((0 : Nat) : Int)) = 3:=rfl
 rw [IQ,IQ,IQ,IQ,e1,e2,e3,List.append_nil,List.filter_append,List.filter_append]
 rfl
theorem VW {l : List Rec} (hl : AB l = true) : ∀ m ∈ IQ l 3,0 ≤ (rc l (m - 1)).page ∧ (rc l (m - 1)).page < 5:=by
 have hU : ∀ t, ∀ m ∈ D8 l (Ai l t l.length),0 ≤ (rc l (m - 1)).page ∧ (rc l (m - 1)).page < 5:=fun t m hm => by
  have h1:=Oc (l:=l) (tx:=t) (n:=l.length) hm
  have h2:=Iz hl h1.1 h1.2 (R9 hl (Nat.le_refl _) hm)
  exact ⟨h2.2.1,h2.2.2.1⟩
 intro m hm
 rw [IQ,IQ,IQ,IQ,List.append_nil,List.mem_append,List.mem_append] at hm
 rcases hm with hm | hm | hm <;> exact hU _ m hm
theorem Nw {l : List Rec} {p : Int} : ∀ {txs : List Int} {b : Int} {ok : Bool},ok = true → (∀ t ∈ txs,t ≠ 0) → (∀ t ∈ txs, ∀ t' ∈ txs,t ≠ t' → GH l (Ai l t l.length) p = true → GH l (Ai l t' l.length) p = false) → txs.Nodup → (b = 0 ∨ ∀ t ∈ txs,GH l (Ai l t l.length) p = false) →
  (FO l p txs b ok).2 = true ∧ ((FO l p txs b ok).1 = b ∧ (∀ t ∈ txs,GH l (Ai l t l.length) p = false) ∨ ((FO l p txs b ok).1 ∈ txs ∧ GH l (Ai l (FO l p txs b ok).1 l.length) p = true))
 | [],b,ok,hok,_,_,_,_ => ⟨hok, .inl ⟨rfl,fun t ht => by cases ht⟩⟩
 | t :: txs,b,ok,hok,hz,hone,hnd,hb => by
  rw [List.nodup_cons] at hnd
  cases hh : GH l (Ai l t l.length) p
  ·rw [FO,if_neg (by rw [hh];simp)]
   have ih:=Nw (b:=b) (ok:=ok) hok (fun x hx => hz x (by simp [hx])) (fun x hx y hy => hone x (by simp [hx]) y (by simp [hy])) hnd.2 (hb.imp id fun h x hx => h x (by simp [hx]))
   refine ⟨ih.1,ih.2.imp (fun h => ⟨h.1,fun x hx => ?_⟩) (fun h => ⟨List.mem_cons_of_mem _ h.1,h.2⟩)⟩
   rcases List.mem_cons.1 hx with rfl | hx
   ·exact hh
   ·exact h.2 x hx
  ·have hb0 : b = 0:=by
    rcases hb with hb | hb
    ·exact hb
    ·have:=hb t (by simp)
     rw [hh] at this;cases this
   have hrest : ∀ x ∈ txs,GH l (Ai l x l.length) p = false:=fun x hx => hone t (by simp) x (by simp [hx]) (fun e => hnd.1 (e ▸ hx)) hh
   rw [FO,if_pos hh]
   have ih:=Nw (b:=t) (ok:=b == 0) (by rw [hb0];rfl) (fun x hx => hz x (by simp [hx])) (fun x hx y hy => hone x (by simp [hx]) y (by simp [hy])) hnd.2 (.inr hrest)
   refine ⟨ih.1, .inr ?_⟩
   rcases ih.2 with h | h
   ·rw [h.1];exact ⟨by simp,hh⟩
   ·have:=hrest _ h.1
    rw [h.2] at this;cases this
theorem Gv (l : List Rec) : BX l 3 = (if Ai l 1 l.length = 0 then [] else [1]) ++ ((if Ai l 2 l.length = 0 then [] else [2]) ++ (if Ai l 3 l.length = 0 then [] else [3])):=by
 have e1 : (3 - ((2 : Nat) : Int)) = 1:=rfl
 have e2 : (3 - ((1 : Nat) : Int)) = 2:=rfl
 have e3 : (3 - ((0 : Nat) : Int)) = 3:=rfl
 rw [BX,BX,BX,BX,e1,e2,e3,List.append_nil]
theorem RJ (l : List Rec) : (BX l 3).Nodup:=by
 rw [Gv]
 split <;> split <;> split <;> decide
theorem KT {l : List Rec} {t : Int} : t ∈ BX l 3 ↔ (t = 1 ∨ t = 2 ∨ t = 3) ∧ Ai l t l.length ≠ 0:=by
 rw [Gv,List.mem_append,List.mem_append]
 constructor
 ·rintro (h | h | h)
  ·split at h
   ·cases h
   ·rename_i h1;rw [List.mem_singleton.1 h];exact ⟨.inl rfl,h1⟩
  ·split at h
   ·cases h
   ·rename_i h1;rw [List.mem_singleton.1 h];exact ⟨.inr (.inl rfl),h1⟩
  ·split at h
   ·cases h
   ·rename_i h1;rw [List.mem_singleton.1 h];exact ⟨.inr (.inr rfl),h1⟩
 ·rintro ⟨rfl | rfl | rfl,h⟩
  ·left;rw [if_neg h];simp
  ·right;left;rw [if_neg h];simp
  ·right;right;rw [if_neg h];simp
def lk (l : List Rec) (p : Int) : Int:=(FO l p (BX l 3) 0 true).1
theorem OZ {l : List Rec} {p : Int} (hone : ∀ t t',t ≠ t' → has l t l.length p = true → has l t' l.length p = false) : (FO l p (BX l 3) 0 true).2 = true ∧ ((lk l p = 0 ∧ ∀ t,(t = 1 ∨ t = 2 ∨ t = 3) → has l t l.length p = false) ∨ ((lk l p = 1 ∨ lk l p = 2 ∨ lk l p = 3) ∧ has l (lk l p) l.length p = true)):=by
 have h:=Nw (l:=l) (p:=p) (txs:=BX l 3) (b:=0) (ok:=true) rfl (fun t ht => by have:=(KT.1 ht).1;omega) (fun t _ t' _ hne hh => hone t t' hne hh) (RJ l) (.inl rfl)
 refine ⟨h.1,h.2.imp (fun hx => ⟨hx.1,fun t ht => ?_⟩) (fun hx => ⟨(KT.1 hx.1).1,hx.2⟩)⟩
 by_cases h0 : Ai l t l.length = 0
 ·rw [has,h0,Gn]
 ·exact hx.2 t (KT.2 ⟨ht,h0⟩)
theorem Core.one_holds {e : Eng} {C : Nat → Page} {B : Nat} (h : Core e C B) (p : Int) : ∀ t t',t ≠ t' → has e.log t e.log.length p = true → has e.log t' e.log.length p = false:=fun t t' hne hh => Ie h.log h.prop _ (Nat.le_refl _) t t' p hne hh
theorem Cv {ps : List Page} : Iw ps = true ↔ ps.length = 5 ∧ ∀ p,p < 5 → Bt (pg ps p) = true:=by
 simp only [Iw,Bool.and_eq_true,beq_iff_eq,Bool.not_eq_true',List.any_eq_false]
 constructor
 ·rintro ⟨h1,h2⟩
  refine ⟨h1,fun p hp => ?_⟩
  have:=h2 (pg ps p) (by simp [pg,List.getD_eq_getElem?_getD,h1,hp])
  simpa using this
 ·rintro ⟨h1,h2⟩
  refine ⟨h1,fun x hx => ?_⟩
  obtain ⟨k,hk,rfl⟩:=List.getElem_of_mem hx
  have:=h2 k (by omega)
  simp [pg,List.getD_eq_getElem?_getD,hk] at this
  simp [this]
theorem Core.pref {e : Eng} {C : Nat → Page} {B : Nat} (h : Core e C B) {n : Nat} (h1 : e.safe ≤ n) (h2 : n ≤ e.log.length) : Lm e n = true:=by
 have ht:=h.take h1 h2
 have hl : (e.log.take n).length = n:=by rw [List.length_take];omega
 have hrd:=fun p => Mt h.dlen (fun k hk => (Aq ht.log hk).ok) p n (by show n ≤ (e.log.take n).length;omega)
 have hg:=ht.good n h1 (by show n ≤ (e.log.take n).length;omega)
 rw [Lm,hl,Bool.and_eq_true]
 refine ⟨Cv.2 ⟨by rw [J3];exact h.dlen,fun p hp => ?_⟩,?_⟩
 ·rw [hrd];exact J7 (hg p hp)
 ·rw [Js,Kh]
  refine Lh (C:=C) (by rw [J3];exact h.dlen) (VW ht.log) fun p hp => ?_
  rw [Xb,hl,hrd]
  exact hg p hp
theorem Inv.FT {e : Eng} {C : Nat → Page} {B : Nat} (h : Inv e C B) : Iw e.mem = true:=by
 rw [Cv]
 refine ⟨h.mlen,fun p hp => ?_⟩
 cases hd : e.down
 ·exact (h.upm hd p hp).ok
 ·rw [h.dn hd];exact h.core.dok p hp
theorem Vx (l : List Rec) (p : Int) : Jb l p 3 = lds l l.length p:=Wz l p
theorem Inv.ok {e : Eng} {C : Nat → Page} {B : Nat} (h : Inv e C B) : eOk e = true:=by
 have hc:=h.core
 have hs0:=hc.s0
 have hs1:=hc.s1
 have hroom:=hc.room e.log.length (Nat.le_refl _)
 have hb:=hc.b150
 simp only [eOk,Bool.and_eq_true]
 refine ⟨Cv.2 ⟨hc.dlen,hc.dok⟩,h.FT,hc.log,DK.2 ⟨hs0,hs1⟩,?_,?_,?_⟩
 ·rw [Jj,Oi,decide_eq_true_eq];omega
 ·rw [LV]
  intro m h1 h2
  exact hc.pref (by omega) (by omega)
 ·rw [List.all_eq_true]
  intro p hp
  have hp : p < 5:=by simpa using hp
  have hrd:=Mt hc.dlen (fun k hk => (Aq hc.log hk).ok) p e.log.length (Nat.le_refl _)
  simp only [Kt,Bool.and_eq_true,decide_eq_true_eq]
  refine ⟨⟨(OZ (hc.one_holds p)).1,hc.MR p hp⟩,?_⟩
  split
  ·rename_i hd
   rw [h.dn hd]
   exact LP.2 rfl
  ·rename_i hd
   have hM:=h.upm (by simpa using hd) p hp
   rw [Y9,hrd,Vx]
   rcases hM.cases with hx | ⟨a,b,c,d⟩
   ·rw [if_neg (by rw [hx.1];simp)]
    exact LP.2 hx.2
   ·rw [if_pos a]
    simp only [Bool.and_eq_true,beq_iff_eq,Bool.or_eq_true,decide_eq_true_eq]
    exact ⟨⟨hM.owner,b⟩,c.imp id LP.2⟩
def DR (e : Eng) (tx page : Int) : Bool := !e.down && (inB tx 1 3 && (inB page 0 4 && (lk e.log page == 0 || lk e.log page == tx)))
def Bp (e : Eng) (ok : Bool) (x : Eng) : Eng × Bool:=if ok = true ∧ Jj x.log = true then (x,true) else (e,false)
def Mq (e : Eng) (tx page slot val : Int) : Rec:=⟨1,tx,page,slot,iv (pg e.mem page.toNat).vals slot.toNat,val,0,0⟩
def OT (e : Eng) (tx page slot val : Int) : Bool:=DR e tx page && ((pg e.mem page.toNat).owner != 0 && (inB slot 0 2 && inB val 0 9))
def Ko (e : Eng) (tx page slot val : Int) : Eng × Bool:=Bp e (OT e tx page slot val) (e.app (Mq e tx page slot val))
def Le (e : Eng) (tx page table : Int) : Rec:=⟨2,tx,page, -1,(pg e.mem page.toNat).owner,table,0,0⟩
def ownB (e : Eng) (tx page table : Int) : Bool:=DR e tx page && (inB table 0 3 && (((pg e.mem page.toNat).owner == 0) != (table == 0) && F5 (pg e.mem page.toNat).vals))
def Ku (e : Eng) (tx page table : Int) : Eng × Bool:=Bp e (ownB e tx page table) (e.app (Le e tx page table))
def NQ (l : List Rec) (tx page : Int) : Bool:=(Ch l tx l.length).any fun m => (rc l (m - 1)).kind == 2 && ((rc l (m - 1)).page == page && (rc l (m - 1)).new != 0)
def Lr (e : Eng) (tx page : Int) (vals : List Int) : Bool:=DR e tx page && ((pg e.mem page.toNat).owner != 0 && (F5 (pg e.mem page.toNat).vals && (G8 vals && NQ e.log tx page)))
def KE (e : Eng) (tx page : Int) (vals : List Int) : Eng:={ e with log:=e.log ++ [⟨3,tx,page,0,0,0,Ai e.log tx e.log.length,0⟩],mem:=e.mem.set page.toNat ⟨(e.log.length + 1 : Nat),(pg e.mem page.toNat).owner,vals⟩ }
def Ig (e : Eng) (tx page : Int) (vals : List Int) : Eng × Bool:=Bp e (Lr e tx page vals) (KE e tx page vals)
def Ia (e : Eng) (tx : Int) : Bool := !e.down && (inB tx 1 3 && lastT e tx != 0)
def Az (e : Eng) (v : Evt) : Eng:=
 if v.kind = 1 then (Ko e v.tx v.page v.slot v.n).1
 else if v.kind = 2 then (Ku e v.tx v.page v.n).1
 else if v.kind = 3 then (Ig e v.tx v.page v.vals).1
 else if v.kind = 4 then (if Ia e v.tx = true then Dg e v.tx else e)
 else if v.kind = 5 then (if Ia e v.tx = true then DF e v.tx else e)
 else if v.kind = 6 then (if e.down = false ∧ inB v.page 0 4 = true then D7 e v.page.toNat else e)
 else if v.kind = 7 then (if e.down = false then GI e else e)
 else if v.kind = 8 then (if 0 ≤ v.n then Jk e v.n else e)
 else if v.kind = 9 then (if e.down = true ∧ 0 ≤ v.n then Mk e v.n.toNat else e)
 else e
def trueE (e : Eng) (v : Evt) (C : Nat → Page) : Nat → Page:=if v.kind = 4 ∧ Ia e v.tx = true then I4 e v.tx C else C
theorem Dz {e : Eng} {tx : Int} : Ia e tx = true ↔ e.down = false ∧ (tx = 1 ∨ tx = 2 ∨ tx = 3) ∧ lastT e tx ≠ 0:=by
 simp only [Ia,Bool.and_eq_true,Bool.not_eq_true',DK,bne_iff_ne]
 constructor
 ·rintro ⟨h1,h2,h3⟩;exact ⟨h1,by omega,h3⟩
 ·rintro ⟨h1,h2,h3⟩;exact ⟨h1,by omega,h3⟩
theorem KO {vs : List Int} : F5 vs = true ↔ ∀ x ∈ vs,x = 0:=by
 simp [F5]
theorem DI {e : Eng} {tx page : Int} : DR e tx page = true ↔ e.down = false ∧ (1 ≤ tx ∧ tx ≤ 3) ∧ (0 ≤ page ∧ page ≤ 4) ∧ (lk e.log page = 0 ∨ lk e.log page = tx):=by
 simp only [DR,Bool.and_eq_true,Bool.not_eq_true',DK,Bool.or_eq_true,beq_iff_eq]
theorem Core.free {e : Eng} {C : Nat → Page} {B : Nat} (h : Core e C B) {tx page : Int} (hl : lk e.log page = 0 ∨ lk e.log page = tx) : ∀ t,t ≠ tx → has e.log t e.log.length page = false:=by
 intro t ht
 have hall:=(OZ (h.one_holds page)).2
 rcases hall with hx | hx
 ·by_cases h0 : Ai e.log t e.log.length = 0
  ·rw [has,h0,Gn]
  ·refine hx.2 t ?_
   have hlt:=Ii e.log t e.log.length
   have hle:=Bc e.log t e.log.length
   have hF:=Aq h.log (k:=Ai e.log t e.log.length - 1) (by omega)
   rcases hlt with hlt | hlt
   ·exact absurd hlt h0
   ·have h2:=hF.tx1
    have h3:=hF.tx3
    rw [hlt] at h2 h3
    omega
 ·rcases hl with hl | hl
  ·rw [hl] at hx;omega
  ·exact h.one_holds page (lk e.log page) t (by rw [hl];exact Ne.symm ht) hx.2
theorem Inv.mono {e : Eng} {C : Nat → Page} {B B' : Nat} (h : Inv e C B) (hB : B ≤ B') (h150 : B' ≤ 150) : Inv e C B':=
 ⟨⟨h.core.dlen,h.core.dok,h.core.log,h.core.prop,h.core.s0,h.core.s1,h150,fun n hn => by have:=h.core.room n hn;omega,h.core.done,h.core.MR,h.core.good⟩,h.mlen,h.dn,h.upc,h.upm⟩
theorem R3 {e : Eng} {C : Nat → Page} {B : Nat} (h : Core e C B) : Jj e.log = true:=by
 have h1:=h.room e.log.length (Nat.le_refl _)
 have h2:=h.b150
 rw [Jj,Oi,decide_eq_true_eq];omega
theorem Inv.Vi {e : Eng} {C : Nat → Page} {B : Nat} (h : Inv e C B) (hB : B + 3 ≤ 150) {tx page slot val : Int} (hp : OT e tx page slot val = true) : Inv (e.app (Mq e tx page slot val)) C (B + 3):=by
 simp only [OT,Bool.and_eq_true,DI,bne_iff_ne,DK] at hp
 obtain ⟨⟨h1,h2,h3,h4⟩,h5,h6,h7⟩:=hp
 exact h.chg h1 (p:=page.toNat) (by omega) (by show page = _;omega) (by show tx = 1 ∨ tx = 2 ∨ tx = 3;omega) (.inl ⟨rfl,h5,h6.1,h6.2,h7.1,h7.2,rfl⟩) rfl (by
  have:=h.core.free h4
  rwa [show ((page.toNat : Nat) : Int) = page by omega]) hB
theorem Inv.Vr {e : Eng} {C : Nat → Page} {B : Nat} (h : Inv e C B) (hB : B + 3 ≤ 150) {tx page table : Int} (hp : ownB e tx page table = true) : Inv (e.app (Le e tx page table)) C (B + 3):=by
 simp only [ownB,Bool.and_eq_true,DI,bne_iff_ne,DK,KO] at hp
 obtain ⟨⟨h1,h2,h3,h4⟩,h5,h6,h7⟩:=hp
 have hok:=(Cj.1 (Cv.1 h.FT |>.2 page.toNat (by omega))).2.2.2.2.1
 refine h.chg h1 (p:=page.toNat) (by omega) (by show page = _;omega) (by show tx = 1 ∨ tx = 2 ∨ tx = 3;omega) (.inr ⟨rfl,rfl,h5.1,h5.2,?_,VQ hok h7,rfl⟩) rfl (by
  have:=h.core.free h4
  rwa [show ((page.toNat : Nat) : Int) = page by omega]) hB
 show (pg e.mem page.toNat).owner = 0 ↔ table ≠ 0
 constructor
 ·intro e1 e2
  rw [e1,e2] at h6
  exact h6 rfl
 ·intro e2
  by_cases e1 : (pg e.mem page.toNat).owner = 0
  ·exact e1
  ·exfalso
   apply h6
   rw [beq_eq_false_iff_ne.2 e1,beq_eq_false_iff_ne.2 e2]
theorem Inv.Sc {e : Eng} {C : Nat → Page} {B : Nat} (h : Inv e C B) (hB : B + 3 ≤ 150) {tx page : Int} {vals : List Int} (hp : Lr e tx page vals = true) : Inv (KE e tx page vals) C (B + 3):=by
 simp only [Lr,Bool.and_eq_true,DI,bne_iff_ne,KO] at hp
 obtain ⟨⟨h1,h2,h3,h4⟩,h5,h6,h7,h8⟩:=hp
 have e1 : ((page.toNat : Nat) : Int) = page:=by omega
 have hL:=h.load (tx:=tx) (p:=page.toNat) (vals:=vals) h1 (by omega) (by omega) h5 ?_ (by rw [e1];exact h.core.free h4) ?_ hB
 ·rw [e1] at hL
  exact hL
 ·simp only [G8,Bool.and_eq_true,beq_iff_eq,Bool.not_eq_true',List.any_eq_false] at h7
  refine ⟨h7.1,fun x hx => ?_⟩
  have:=h7.2 x hx
  simp [inB] at this
  exact this
 ·rw [e1]
  simp only [NQ,List.any_eq_true,Bool.and_eq_true,beq_iff_eq,bne_iff_ne] at h8
  obtain ⟨m,h8,h9⟩:=h8
  exact ⟨m,h8,h9⟩
theorem Inv.change {e x : Eng} {C : Nat → Page} {B : Nat} (h : Inv e C B) (hB : B + 3 ≤ 150) {ok : Bool} (hx : ok = true → Inv x C (B + 3)) : Inv (Bp e ok x).1 C (B + 3):=by
 unfold Bp
 split
 ·rename_i hc;exact hx hc.1
 ·exact h.mono (by omega) hB
theorem Inv.play {e : Eng} {C : Nat → Page} {B : Nat} (h : Inv e C B) (hB : B + 3 ≤ 150) (v : Evt) : Inv (Az e v) (trueE e v C) (B + 3):=by
 have hid:=h.mono (show B ≤ B + 3 by omega) hB
 have hle : B ≤ B + 3:=by omega
 unfold Az trueE
 by_cases k4 : v.kind = 4
 ·rw [if_neg (by omega),if_neg (by omega),if_neg (by omega),if_pos k4]
  cases ho : Ia e v.tx
  ·rw [if_neg (by simp),if_neg (by simp)];exact hid
  ·rw [if_pos rfl,if_pos ⟨k4,rfl⟩]
   obtain ⟨h1,h2,h3⟩:=Dz.1 ho
   exact (h.SB h1 h2 h3).mono hle hB
 have h4 : ¬ (v.kind = 4 ∧ Ia e v.tx = true):=fun hx => k4 hx.1
 rw [if_neg h4]
 by_cases k1 : v.kind = 1
 ·rw [if_pos k1];exact h.change hB (h.Vi hB)
 rw [if_neg k1]
 by_cases k2 : v.kind = 2
 ·rw [if_pos k2];exact h.change hB (h.Vr hB)
 rw [if_neg k2]
 by_cases k3 : v.kind = 3
 ·rw [if_pos k3];exact h.change hB (h.Sc hB)
 rw [if_neg k3,if_neg k4]
 by_cases k5 : v.kind = 5
 ·rw [if_pos k5]
  split
  ·rename_i ho
   obtain ⟨h1,h2,h3⟩:=Dz.1 ho
   exact (h.Jt h1 h2).1.mono hle hB
  ·exact hid
 rw [if_neg k5]
 by_cases k6 : v.kind = 6
 ·rw [if_pos k6]
  split
  ·rename_i hw
   have:=DK.1 hw.2
   exact (h.write hw.1 (by omega)).mono hle hB
  ·exact hid
 rw [if_neg k6]
 by_cases k7 : v.kind = 7
 ·rw [if_pos k7]
  split
  ·rename_i hd;exact (h.force hd).mono hle hB
  ·exact hid
 rw [if_neg k7]
 by_cases k8 : v.kind = 8
 ·rw [if_pos k8]
  split
  ·exact (h.fall _).mono hle hB
  ·exact hid
 rw [if_neg k8]
 by_cases k9 : v.kind = 9
 ·rw [if_pos k9]
  split
  ·rename_i hr;exact (h.rise hr.1 _).mono hle hB
  ·exact hid
 rw [if_neg k9]
 exact hid
def newP : Page:=⟨0,0, [0,0,0]⟩
def newE : Eng:=⟨List.replicate 5 newP,List.replicate 5 newP, [],0,false⟩
theorem OV {p : Nat} (h : p < 5) : pg (List.replicate 5 newP) p = newP:=by
 match p,h with
 | 0,_ => rfl
 | 1,_ => rfl
 | 2,_ => rfl
 | 3,_ => rfl
 | 4,_ => rfl
theorem UF : Inv newE (fun _ => newP) 0:=by
 have hU : ∀ p : Int,UA [] 0 p = []:=fun p => by simp [UA,F,U,Ai,Db]
 have hok : Bt newP = true:=by decide
 refine ⟨⟨rfl,fun p hp => ?_,rfl,fun k hk => ?_,Int.le_refl _,Int.le_refl _,by omega,fun n hn => ?_,fun k hk => ?_,fun p hp => ?_,fun n _ hn p hp => ?_⟩,rfl,fun hd => rfl,fun _ t m hm => ?_,fun _ p hp => ⟨?_,?_,?_, .inl ⟨?_,?_⟩⟩⟩
 ·show Bt (pg (List.replicate 5 newP) p) = true
  rw [OV hp];exact hok
 ·cases hk
 ·obtain rfl : n = 0:=Nat.le_zero.1 hn
  show 0 + Bu [] 0 ≤ 0
  simp [Bu,cst,U,Ai,Db]
 ·cases hk
 ·show (pg (List.replicate 5 newP) p).lsn ≤ 0
  rw [OV hp];exact Int.le_refl _
 ·obtain rfl : n = 0:=Nat.le_zero.1 hn
  show EN [] newP (UA [] 0 p) (Cb (pg (List.replicate 5 newP) p) [] p 0)
  rw [hU,OV hp]
  exact ⟨hok,rfl,rfl⟩
 ·simp [Ch,newE,Ai,Cs] at hm
 ·show Bt (pg (List.replicate 5 newP) p) = true
  rw [OV hp];exact hok
 ·rfl
 ·show (pg (List.replicate 5 newP) p).lsn ≤ 0
  rw [OV hp];exact Int.le_refl _
 ·simp [newE,lds,ld,Ai,LY]
 ·rfl
def runE (e : Eng) : List Evt → Eng
 | [] => e
 | v :: vs => runE (Az e v) vs
def FJ (e : Eng) (C : Nat → Page) : List Evt → Nat → Page
 | [] => C
 | v :: vs => FJ (Az e v) (trueE e v C) vs
theorem Inv.run : ∀ {vs : List Evt} {e : Eng} {C : Nat → Page} {B : Nat},Inv e C B → B + 3 * vs.length ≤ 150 → Inv (runE e vs) (FJ e C vs) (B + 3 * vs.length)
 | [],e,C,B,h,_ => h
 | v :: vs,e,C,B,h,hB => by
  rw [List.length_cons] at hB
  have:=Inv.run (h.play (by omega) v) (vs:=vs) (by omega)
  rw [List.length_cons,show B + 3 * (vs.length + 1) = B + 3 + 3 * vs.length by omega]
  exact this
def FR (P : Page) (r : Rec) (n : Int) : Bool:=Bt P && (CZ r && (Cw r.kind && (decide (P.lsn < n) && (decide (n ≤ 150) && Bt (doR P r n)))))
structure JN (e : Eng) (tx : Int) : Prop where
 log : AB e.log = true
 geo : geo e.mem
 t1 : 1 ≤ tx
 t3 : tx ≤ 3
 Xr : e.log.length + 1 ≤ 150
 may : Cw (CU e tx).kind = true → FR (pg e.mem (CU e tx).page.toNat) (CU e tx) (e.log.length + 1 : Nat) = true
 log' : AB (e.log ++ [CU e tx]) = true
 room : e.log.length + 1 + Bu (e.log ++ [CU e tx]) (e.log.length + 1) ≤ 150
structure Sim (ps qs : List Page) : Prop where
 l : ps.length = 5
 l' : qs.length = 5
 lsn : ∀ p,p < 5 → 0 ≤ (pg qs p).lsn ∧ (pg qs p).lsn ≤ 150
 owner : ∀ p,p < 5 → (pg qs p).owner = (pg ps p).owner
 vals : ∀ p,p < 5 → (pg qs p).vals = (pg ps p).vals
theorem V7 {P Q : Page} (r : Rec) (ho : Q.owner = P.owner) (hv : Q.vals = P.vals) : (Bg Q r).owner = (Bg P r).owner ∧ (Bg Q r).vals = (Bg P r).vals:=by
 unfold Bg
 split
 ·exact ⟨ho,by simp only;rw [hv]⟩
 ·split
  ·exact ⟨rfl,rfl⟩
  ·exact ⟨rfl,hv⟩
theorem Nh {l : List Rec} : ∀ {ms : List Nat} {ps qs : List Page},(∀ m ∈ ms,0 ≤ (rc l (m - 1)).page ∧ (rc l (m - 1)).page < 5) → Sim ps qs → FI l ps ms = true → FI l qs ms = true
 | [],_,_,_,_,_ => rfl
 | m :: ms,ps,qs,hm,hs,h => by
  have h5:=hm m (by simp)
  rw [FI,Bool.and_eq_true] at h ⊢
  have hp : (rc l (m - 1)).page.toNat < 5:=by omega
  have hw:=V7 (Bz (rc l (m - 1)) 0) (hs.owner _ hp) (hs.vals _ hp)
  have hl:=hs.lsn _ hp
  refine ⟨?_,Nh (fun x hx => hm x (by simp [hx])) ⟨by simpa using hs.l,by simpa using hs.l',fun p hp5 => ?_,fun p hp5 => ?_,fun p hp5 => ?_⟩ h.2⟩
  ·have h1:=I9 (k:=(pg qs (rc l (m - 1)).page.toNat).lsn) h.1 hl.1 hl.2
   rw [← hw.1, ← hw.2] at h1
   rw [← KP (pg qs (rc l (m - 1)).page.toNat) (Bz (rc l (m - 1)) 0)] at h1
   exact h1
  ·rw [FU (by rw [hs.l'];exact hp)]
   split
   ·rw [KP];exact hl
   ·exact hs.lsn p hp5
  ·rw [FU (by rw [hs.l'];exact hp),FU (by rw [hs.l];exact hp)]
   split
   ·exact hw.1
   ·exact hs.owner p hp5
  ·rw [FU (by rw [hs.l'];exact hp),FU (by rw [hs.l];exact hp)]
   split
   ·exact hw.2
   ·exact hs.vals p hp5
theorem Kg {l l' : List Rec} {n : Nat} (h : Agree l l' n) : ∀ {ms : List Nat} {ps : List Page},(∀ m ∈ ms,0 < m ∧ m ≤ n) → FI l ps ms = FI l' ps ms
 | [],_,_ => rfl
 | m :: ms,ps,hm => by
  have:=hm m (by simp)
  rw [FI,FI,h (m - 1) (by omega),Kg h (fun x hx => hm x (by simp [hx]))]
structure R8 (e : Eng) (ms : List Nat) : Prop where
 log : AB e.log = true
 mem : Iw e.mem = true
 lsn : ∀ p,p < 5 → (pg e.mem p).lsn ≤ e.log.length
 und : FI e.log e.mem ms = true
 room : e.log.length + Bu e.log e.log.length ≤ 150
theorem R8.one {e : Eng} {ms : List Nat} (h : R8 e ms) {tx : Int} (ht : tx = 1 ∨ tx = 2 ∨ tx = 3) (hlast : lastT e tx ≠ 0) : e.log.length + 1 ≤ 150:=by
 have h1:=h.room
 have h3 : cst e.log tx e.log.length ≥ 1:=by rw [cst,if_neg hlast];omega
 have h4 : cst e.log tx e.log.length ≤ Bu e.log e.log.length:=by
  rw [Bu]
  rcases ht with rfl | rfl | rfl <;> omega
 omega
theorem R8.Fy {e : Eng} {tx : Int} {rest : List Nat} (h : R8 e (U e.log tx e.log.length ++ rest)) (ht : tx = 1 ∨ tx = 2 ∨ tx = 3) (hlast : lastT e tx ≠ 0) : JN e tx:=by
 have h1:=h.one ht hlast
 have hk:=Ez (e:=e) h.log tx
 have hl':=hk.log h.log (by omega) h1
 have hn:=hk.need h.log ht h1 hlast
 have hr:=h.room
 refine ⟨h.log,Ak h.mem,by omega,by omega,h1,fun hc => ?_,hl',by omega⟩
 have hok:=hk.ok h.log (by omega)
 have hund:=h.und
 have hmem:=Cv.1 h.mem
 have hls:=h.lsn
 generalize CU e tx = r at hk hok hc ⊢
 cases hk with
 | fin hU => simp [Cw] at hc
 | Jt m ms hU h0 hm hkk htx =>
  have hrec:=Iz h.log h0 hm hkk
  rw [hU,List.cons_append,FI,Bool.and_eq_true] at hund
  have hp : (rc e.log (m - 1)).page.toNat < 5:=by omega
  have hl5:=hls _ hp
  simp only [FR,Bool.and_eq_true,decide_eq_true_eq]
  refine ⟨hmem.2 _ hp,hok,hc,?_,by omega,?_⟩
  ·show (pg e.mem (rc e.log (m - 1)).page.toNat).lsn < ((e.log.length + 1 : Nat) : Int)
   omega
  ·rw [EY]
   exact I9 hund.1 (by omega) (by omega)
theorem R8.step {e : Eng} {tx : Int} {rest : List Nat} (h : R8 e (U e.log tx e.log.length ++ rest)) (ht : tx = 1 ∨ tx = 2 ∨ tx = 3) (hlast : lastT e tx ≠ 0) (hrest : ∀ m ∈ rest,0 < m ∧ m ≤ e.log.length ∧ 0 ≤ (rc e.log (m - 1)).page ∧ (rc e.log (m - 1)).page < 5) : R8 (Be e tx) ((U e.log tx e.log.length).tail ++ rest):=by
 have h1:=h.one ht hlast
 have hk:=Ez (e:=e) h.log tx
 have hl':=hk.log h.log (by omega) h1
 have hn:=hk.need h.log ht h1 hlast
 have hr:=h.room
 have hmem:=Cv.1 h.mem
 have hso:=h.Fy ht hlast
 have hM:=fun p => H7 hmem.1 (Hg h.log tx) p
 have hA:=Cf e.log [CU e tx]
 have hLl : (Be e tx).log = e.log ++ [CU e tx]:=rfl
 have hM : ∀ p : Nat,pg (Be e tx).mem p = if Cw (CU e tx).kind = true ∧ (CU e tx).page = (p : Int) then doR (pg e.mem p) (CU e tx) (e.log.length + 1 : Nat) else pg e.mem p:=hM
 have hml : (Be e tx).mem.length = 5:=by unfold Be;rw [MV];exact hmem.1
 have hUr : ∀ m ∈ U e.log tx e.log.length,0 < m ∧ m ≤ e.log.length ∧ 0 ≤ (rc e.log (m - 1)).page ∧ (rc e.log (m - 1)).page < 5:=fun m hm => by
  have h2:=Oc hm
  have h3:=Iz h.log h2.1 h2.2 (R9 h.log (Nat.le_refl _) hm)
  exact ⟨h2.1,h2.2,h3.2.1,h3.2.2.1⟩
 have hpage : ∀ p : Nat,p < 5 → Bt (pg (Be e tx).mem p) = true:=fun p hp => by
  rw [hM p]
  split
  ·rename_i hc
   have:=hso.may hc.1
   simp only [FR,Bool.and_eq_true,decide_eq_true_eq] at this
   rw [show (CU e tx).page.toNat = p by omega] at this
   exact this.2.2.2.2.2
  ·exact hmem.2 p hp
 refine ⟨by rw [hLl];exact hl',Cv.2 ⟨hml,hpage⟩,fun p hp => ?_,?_,by rw [hLl];simp only [List.length_append,List.length_singleton];omega⟩
 ·rw [hM p,hLl]
  simp only [List.length_append,List.length_singleton]
  split
  ·exact Int.le_refl _
  ·have:=h.lsn p hp;omega
 ·have hund:=h.und
  rw [hLl]
  generalize CU e tx = r at hk hl' hn hA hM
  cases hk with
  | fin hU =>
   rw [hU,List.nil_append] at hund
   rw [hU,List.tail_nil,List.nil_append,Kg hA (fun m hm => by have:=hrest m hm;omega)]
   refine Nh (fun m hm => (hrest m hm).2.2) ⟨hmem.1,hml,fun p hp => ?_,fun p hp => ?_,fun p hp => ?_⟩ hund
   ·have:=Cj.1 (hpage p hp);exact ⟨this.1,this.2.1⟩
   ·rw [hM p,if_neg (fun hc => by simp [Cw] at hc)]
   ·rw [hM p,if_neg (fun hc => by simp [Cw] at hc)]
  | Jt m ms hU h0 hm hkk htx =>
   rw [hU,List.cons_append,FI,Bool.and_eq_true] at hund
   rw [hU] at hUr
   have hmr:=hUr m (by simp)
   have hmp : (rc e.log (m - 1)).page.toNat < 5:=by omega
   rw [hU,List.tail_cons,Kg hA (fun x hx => by
    rcases List.mem_append.1 hx with hx | hx
    ·have:=hUr x (by simp [hx]);omega
    ·have:=hrest x hx;omega)]
   refine Nh (fun x hx => ?_) ⟨by simpa using hmem.1,hml,fun p hp => ?_,fun p hp => ?_,fun p hp => ?_⟩ hund.2
   ·rcases List.mem_append.1 hx with hx | hx
    ·exact (hUr x (by simp [hx])).2.2
    ·exact (hrest x hx).2.2
   ·have:=Cj.1 (hpage p hp);exact ⟨this.1,this.2.1⟩
   ·rw [hM p,FU (by rw [hmem.1];exact hmp)]
    by_cases e1 : (rc e.log (m - 1)).page.toNat = p
    ·rw [if_pos ⟨rfl,by show (rc e.log (m - 1)).page = _;omega⟩,if_pos e1, ← e1];rfl
    ·rw [if_neg (fun hc => e1 (by have h2 : (rc e.log (m - 1)).page = (p : Int):=hc.2;omega)),if_neg e1]
   ·rw [hM p,FU (by rw [hmem.1];exact hmp)]
    by_cases e1 : (rc e.log (m - 1)).page.toNat = p
    ·rw [if_pos ⟨rfl,by show (rc e.log (m - 1)).page = _;omega⟩,if_pos e1, ← e1];rfl
    ·rw [if_neg (fun hc => e1 (by have h2 : (rc e.log (m - 1)).page = (p : Int):=hc.2;omega)),if_neg e1]
theorem Ju (l : List Rec) : IQ l 3 = U l 1 l.length ++ (U l 2 l.length ++ U l 3 l.length):=by
 have e1 : (3 - ((2 : Nat) : Int)) = 1:=rfl
 have e2 : (3 - ((1 : Nat) : Int)) = 2:=rfl
 have e3 : (3 - ((0 : Nat) : Int)) = 3:=rfl
 rw [IQ,IQ,IQ,IQ,e1,e2,e3,List.append_nil]
 rfl
def FH (e : Eng) : Prop:=R8 e (IQ e.log 3)
theorem KW {e : Eng} {t : Int} (h : lastT e t = 0) : U e.log t e.log.length = []:=by rw [U,show Ai e.log t e.log.length = 0 from h,Db]
theorem FH.step {e : Eng} (h : FH e) (h0 : Ay e ≠ 0) : JN e (Ay e) ∧ FH (Be e (Ay e)) ∧ Bu (Be e (Ay e)).log (Be e (Ay e)).log.length + 1 = Bu e.log e.log.length:=by
 obtain ⟨ht,hlast⟩:=IG h0
 have hlt:=h
 unfold FH at h ⊢
 obtain ⟨rest,hrest,hr2,hr3⟩ : ∃ rest,IQ e.log 3 = U e.log (Ay e) e.log.length ++ rest ∧ (∀ m ∈ rest, ∃ t,m ∈ U e.log t e.log.length) ∧ ∀ l' : List Rec,(∀ t,t ≠ Ay e → U l' t l'.length = U e.log t e.log.length) → IQ l' 3 = U l' (Ay e) l'.length ++ rest:=by
  rw [Ju]
  by_cases h1 : lastT e 1 = 0
  ·by_cases h2 : lastT e 2 = 0
   ·by_cases h3 : lastT e 3 = 0
    ·exact absurd (show Ay e = 0 by unfold Ay;rw [if_neg (by simpa using h1),if_neg (by simpa using h2),if_neg (by simpa using h3)]) h0
    ·have hf : Ay e = 3:=by unfold Ay;rw [if_neg (by simpa using h1),if_neg (by simpa using h2),if_pos h3]
     rw [hf,KW h1,KW h2]
     refine ⟨[],by simp,fun m hm => (by cases hm),fun l' hl => ?_⟩
     rw [Ju,hl 1 (by decide),hl 2 (by decide),KW h1,KW h2];simp
   ·have hf : Ay e = 2:=by unfold Ay;rw [if_neg (by simpa using h1),if_pos h2]
    rw [hf,KW h1]
    refine ⟨U e.log 3 e.log.length,by simp,fun m hm => ⟨3,hm⟩,fun l' hl => ?_⟩
    rw [Ju,hl 1 (by decide),hl 3 (by decide),KW h1];simp
  ·have hf : Ay e = 1:=by unfold Ay;rw [if_pos h1]
   rw [hf]
   refine ⟨U e.log 2 e.log.length ++ U e.log 3 e.log.length,rfl,fun m hm => ?_,fun l' hl => ?_⟩
   ·rcases List.mem_append.1 hm with hm | hm
    ·exact ⟨2,hm⟩
    ·exact ⟨3,hm⟩
   ·rw [Ju,hl 2 (by decide),hl 3 (by decide)]
 rw [hrest] at h
 have h1:=h.one ht hlast
 have hk:=Ez (e:=e) h.log (Ay e)
 have hn:=hk.next h.log (by omega) h1
 have hd:=hk.need h.log ht h1 hlast
 have hlen : (Be e (Ay e)).log.length = e.log.length + 1:=Ho _ _
 have hLl : (Be e (Ay e)).log = e.log ++ [CU e (Ay e)]:=rfl
 refine ⟨h.Fy ht hlast,?_,by rw [hlen,hLl];exact hd⟩
 rw [hr3 (Be e (Ay e)).log (fun t hne => by rw [hlen,hLl];exact (hn.2.1 t hne).1)]
 rw [show U (Be e (Ay e)).log (Ay e) (Be e (Ay e)).log.length = (U e.log (Ay e) e.log.length).tail by rw [hlen,hLl];exact hn.1]
 refine h.step ht hlast fun m hm => ?_
 obtain ⟨t,hmt⟩:=hr2 m hm
 have h2:=Oc hmt
 have h3:=Iz h.log h2.1 h2.2 (R9 h.log (Nat.le_refl _) hmt)
 exact ⟨h2.1,h2.2,h3.2.1,h3.2.2.1⟩
structure OkF (e : Eng) : Prop where
 disk : Iw e.disk = true
 mem : Iw e.mem = true
 log : AB e.log = true
 s0 : 0 ≤ e.safe
 s1 : e.safe ≤ e.log.length
 fits : Jj e.log = true
 pref : ∀ n : Nat,e.safe ≤ n → n ≤ e.log.length → Lm e n = true
 page : ∀ p,p < 5 → Kt e p = true
theorem Fv {e : Eng} : eOk e = true ↔ OkF e:=by
 simp only [eOk,Bool.and_eq_true,DK,LV,List.all_eq_true,List.mem_range]
 constructor
 ·rintro ⟨h1,h2,h3,⟨h4,h5⟩,h6,h7,h8⟩
  exact ⟨h1,h2,h3,h4,h5,h6,fun n ha hb => h7 n (by omega) (by omega),h8⟩
 ·rintro ⟨h1,h2,h3,h4,h5,h6,h7,h8⟩
  exact ⟨h1,h2,h3,⟨h4,h5⟩,h6,fun n ha hb => h7 n (by omega) (by omega),h8⟩
theorem OkF.MR {e : Eng} (h : OkF e) {p : Nat} (hp : p < 5) : (pg e.disk p).lsn ≤ e.safe:=by
 have:=h.page p hp
 simp only [Kt,Bool.and_eq_true,decide_eq_true_eq] at this
 exact this.1.2
theorem OkF.rise {e : Eng} (h : OkF e) : FH { e with mem:=Cr e.disk e.log e.log.length }:=by
 have hp:=h.pref e.log.length h.s1 (Nat.le_refl _)
 have hd:=Cv.1 h.disk
 rw [Lm,List.take_length,Bool.and_eq_true,Js,Kh] at hp
 have hf:=h.fits
 rw [Jj,Oi,decide_eq_true_eq] at hf
 refine ⟨h.log,hp.1,fun p hp5 => ?_,hp.2,hf⟩
 show (pg (Cr e.disk e.log e.log.length) p).lsn ≤ (e.log.length : Int)
 rw [Mt hd.1 (fun k hk => (Aq h.log hk).ok) p _ (Nat.le_refl _)]
 have h1:=Nr (P:=pg e.disk p) (l:=e.log) (p:=p) e.log.length
 have h2:=h.MR hp5
 have h3:=h.s1
 omega
def Ob (tx : Int) : Nat → Eng → Prop
 | 0,e => lastT e tx = 0 ∧ AB e.log = true
 | k + 1,e => lastT e tx ≠ 0 ∧ JN e tx ∧ Ob tx k (Be e tx)
theorem Eb.Fy {e : Eng} {C : Nat → Page} {B : Nat} {tx : Int} (h : Eb e C B tx) (ht : tx = 1 ∨ tx = 2 ∨ tx = 3) (hlast : lastT e tx ≠ 0) : JN e tx:=by
 have h1:=h.core.one ht hlast
 have hk:=Ez (e:=e) h.core.log tx
 have hl':=hk.log h.core.log (by omega) h1
 have hn:=hk.need h.core.log ht h1 hlast
 have hr:=h.core.room e.log.length (Nat.le_refl _)
 have hb:=h.core.b150
 have hs:=fun p hp => (h.step ht hlast).upm p hp
 have hps : Iw e.mem = true:=Cv.2 ⟨h.mlen,fun p hp => (h.upm p hp).ok⟩
 refine ⟨h.core.log,Ak hps,by omega,by omega,h1,fun hc => ?_,hl',by omega⟩
 have hok:=hk.ok h.core.log (by omega)
 have hpg:=Hg h.core.log tx hc
 have hpn : (Dn e tx).page.toNat < 5:=by omega
 have hmem:=H7 h.mlen (Hg h.core.log tx) (Dn e tx).page.toNat
 rw [if_pos ⟨hc,by omega⟩] at hmem
 have hs1:=(hs _ hpn).ok
 rw [show pg (Be e tx).mem (Dn e tx).page.toNat = _ from hmem] at hs1
 have hl:=(h.upm _ hpn).lsn
 simp only [FR,Bool.and_eq_true,decide_eq_true_eq]
 refine ⟨(h.upm _ hpn).ok,hok,hc,?_,by omega,hs1⟩
 show (pg e.mem (Dn e tx).page.toNat).lsn < ((e.log.length + 1 : Nat) : Int)
 omega
theorem Eb.VX {C : Nat → Page} {B : Nat} {tx : Int} (ht : tx = 1 ∨ tx = 2 ∨ tx = 3) : ∀ (k : Nat) (e : Eng),Eb e C B tx → lastT e tx ≠ 0 → (U e.log tx e.log.length).length = k → Ob tx (k + 1) e
 | 0,e,h,hlast,hk => by
  have hs:=h.core.NS ht hlast
  have h0:=List.eq_nil_of_length_eq_zero hk
  refine ⟨hlast,h.Fy ht hlast,?_,(h.step ht hlast).core.log⟩
  show lastT (Be e tx) tx = 0
  rw [hs.2.2.1,if_pos h0]
 | k + 1,e,h,hlast,hk => by
  have hs:=h.core.NS ht hlast
  have hne : U e.log tx e.log.length ≠ []:=fun h0 => by rw [h0] at hk;cases hk
  exact ⟨hlast,h.Fy ht hlast,Eb.VX ht k (Be e tx) (h.step ht hlast) (by rw [hs.2.2.1,if_neg hne];omega) (by rw [hs.1,List.length_tail,hk];omega)⟩
theorem MW (e : Eng) (r : Rec) : (e.app r).log = e.log ++ [{ r with prev:=Ai e.log r.tx e.log.length }]:=rfl
theorem H8 (e : Eng) (r : Rec) : (e.app r).log.length = e.log.length + 1:=by rw [MW];simp
theorem Inv.XH {e : Eng} {C C' : Nat → Page} {B B' : Nat} {r : Rec} (h : Inv e C B) (hup : e.down = false) (hx : Inv (e.app r) C' B') (hc : Cw r.kind = true) (hp : 0 ≤ r.page ∧ r.page < 5) : FR (pg e.mem r.page.toNat) { r with prev:=Ai e.log r.tx e.log.length } (e.log.length + 1 : Nat) = true:=by
 have hlen:=H8 e r
 have hr:=hx.core.room (e.log.length + 1) (by omega)
 have hb:=hx.core.b150
 have hF:=(Aq hx.core.log (k:=e.log.length) (by omega)).ok
 rw [MW,BF] at hF
 have hpn : r.page.toNat < 5:=by omega
 have hM:=h.upm hup _ hpn
 have hm:=H7 (r:=r) h.mlen (fun _ => by omega) r.page.toNat
 rw [if_pos ⟨hc,by omega⟩] at hm
 have hok:=(Cv.1 hx.FT).2 _ hpn
 rw [hm] at hok
 have hl:=hM.lsn
 simp only [FR,Bool.and_eq_true,decide_eq_true_eq]
 refine ⟨hM.ok,hF,hc,?_,by omega,hok⟩
 show (pg e.mem r.page.toNat).lsn < ((e.log.length + 1 : Nat) : Int)
 omega
theorem Inv.Oe {x : Eng} {C : Nat → Page} {B n : Nat} (hx : Inv x C B) (hl : x.log.length = n + 1) : n + 1 ≤ 150:=by
 have hr:=hx.core.room (n + 1) (by omega)
 have hb:=hx.core.b150
 omega
theorem Inv.Uo {x : Eng} {C : Nat → Page} {B n : Nat} {l : List Rec} (hx : Inv x C B) (hl : x.log = l) (hn : l.length = n + 1) : n + 1 + Bu l (n + 1) ≤ 150:=by
 subst hl
 have hr:=hx.core.room (n + 1) (by omega)
 have hb:=hx.core.b150
 omega
theorem Inv.R5 {e x : Eng} {C : Nat → Page} {B : Nat} {ok : Bool} (hx : ok = true → Inv x C B) : Bp e ok x = if ok = true then (x,true) else (e,false):=by
 unfold Bp
 cases ok
 ·rw [if_neg (by simp),if_neg (by simp)]
 ·rw [if_pos ⟨rfl,R3 (hx rfl).core⟩,if_pos rfl]
theorem Rz {e : Eng} {tx page slot val : Int} : OT e tx page slot val = (DR e tx page && ((pg e.mem page.toNat).owner != 0 && (inB slot 0 2 && inB val 0 9))):=rfl
def CQ (e : Eng) : List Int → Eng
 | [] => e
 | p :: ps => CQ (D7 e p.toNat) ps
theorem F9 : ∀ (ps : List Int) (e : Eng),(CQ e ps).mem = e.mem ∧ (CQ e ps).log = e.log ∧ (CQ e ps).down = e.down ∧ (CQ e ps).disk.length = e.disk.length
 | [],e => ⟨rfl,rfl,rfl,rfl⟩
 | p :: ps,e => by
  obtain ⟨h1,h2,h3,h4⟩:=F9 ps (D7 e p.toNat)
  exact ⟨h1,h2,h3,h4.trans (by simp [D7])⟩
theorem Md : ∀ (ps : List Int) (e : Eng) (q : Nat),e.disk.length = 5 → q < 5 → (∀ p ∈ ps,0 ≤ p ∧ p < 5) → pg (CQ e ps).disk q = if (q : Int) ∈ ps then pg e.mem q else pg e.disk q
 | [],e,q,_,_,_ => by rw [if_neg (by simp)];rfl
 | p :: ps,e,q,h5,hq,hp => by
  have h1:=hp p (List.mem_cons_self ..)
  have ih:=Md ps (D7 e p.toNat) q (by simp [D7,h5]) hq (fun x hx => hp x (List.mem_cons_of_mem _ hx))
  show pg (CQ (D7 e p.toNat) ps).disk q = _
  rw [ih]
  by_cases h : (q : Int) ∈ ps
  ·rw [if_pos h,if_pos (List.mem_cons_of_mem _ h)];rfl
  ·rw [if_neg h]
   show pg (e.disk.set p.toNat (pg e.mem p.toNat)) q = _
   rw [FU (by omega)]
   by_cases e1 : p.toNat = q
   ·rw [if_pos e1,if_pos (by rw [show (q : Int) = p by omega];exact List.mem_cons_self ..),e1]
   ·rw [if_neg e1,if_neg (fun hx => by
     rcases List.mem_cons.1 hx with hx | hx
     ·omega
     ·exact h hx)]
theorem O6 {e : Eng} {tx : Int} {ps : List Int} (h5 : e.disk.length = 5) (hm : ∀ p : Nat,p < 5 → ((p : Int) ∈ ps ↔ ld e.log tx e.log.length p = true)) (hp : ∀ p ∈ ps,0 ≤ p ∧ p < 5) : { (CQ e ps).app ⟨4,tx,0,0,0,0,0,0⟩ with safe:=(e.log.length + 1 : Nat) } = Dg e tx:=by
 obtain ⟨h1,h2,h3,h4⟩:=F9 ps e
 have hd : (CQ e ps).disk = G9 e tx:=by
  refine List.ext_getElem (by rw [h4,h5];simp [G9]) (fun i h1' h2' => ?_)
  have hi : i < 5:=by rw [h4,h5] at h1';exact h1'
  have hx:=Md ps e i h5 hi hp
  have hy:=Kq e tx hi
  simp only [pg,List.getD_eq_getElem?_getD,List.getElem?_eq_getElem h1',Option.getD_some] at hx
  simp only [pg,List.getD_eq_getElem?_getD,List.getElem?_eq_getElem h2',Option.getD_some] at hy
  rw [hx,hy]
  by_cases hl : ld e.log tx e.log.length i = true
  ·rw [if_pos ((hm i hi).2 hl),if_pos hl]
  ·rw [if_neg (fun h => hl ((hm i hi).1 h)),if_neg hl]
 unfold Eng.app Dg
 rw [if_neg (by simp [Cw])]
 rw [hd,h1,h2,h3]
theorem Mc : ∀ (ps : List Int) (e : Eng) (p : Int),CQ e (ps ++ [p]) = D7 (CQ e ps) p.toNat
 | [],_,_ => rfl
 | q :: ps,e,p => Mc ps (D7 e q.toNat) p
theorem NI : ∀ (ps : List Int) (e : Eng),geo e.disk → geo e.mem → (∀ p ∈ ps,0 ≤ p ∧ p < 5) → geo (CQ e ps).disk
 | [],_,hd,_,_ => hd
 | q :: ps,e,hd,hm,hp => by
  have h1:=hp q (List.mem_cons_self ..)
  exact NI ps (D7 e q.toNat) (MK hd (FZ hm (by omega))) hm (fun x hx => hp x (List.mem_cons_of_mem _ hx))
theorem FP {l : List Rec} (hl : AB l = true) {tx : Int} (h : Ai l tx l.length ≠ 0) : tx = 1 ∨ tx = 2 ∨ tx = 3:=by
 have hle:=Bc l tx l.length
 have hF:=Aq hl (k:=Ai l tx l.length - 1) (by omega)
 rcases Ii l tx l.length with h1 | h1
 ·exact absurd h1 h
 ·have h2:=hF.tx1
  have h3:=hF.tx3
  rw [h1] at h2 h3
  omega
def Cz (e : Eng) (tx : Int) (X : Eng) : Eng × Bool:=if e.down = false ∧ Ai e.log tx e.log.length ≠ 0 then (X,true) else (e,false)
theorem RN {p : Page} (h : Bt p = true) (ho : p.owner = 0) : F5 p.vals = true:=by
 simp [Bt,ho] at h
 exact h.2
theorem Inv.Qo {e : Eng} {C : Nat → Page} {B : Nat} (h : Inv e C B) (n : Int) : Inv (Az e ⟨8,0,0,0,n, []⟩) C B ∧ (0 ≤ n → (Az e ⟨8,0,0,0,n, []⟩).down = true):=by
 have hp : Az e ⟨8,0,0,0,n, []⟩ = if 0 ≤ n then Jk e n else e:=by simp [Az]
 rw [hp]
 split
 ·exact ⟨h.fall n,fun _ => rfl⟩
 ·rename_i hn
  exact ⟨h,fun hx => absurd hx hn⟩
theorem Inv.Wh {e : Eng} {C : Nat → Page} {B : Nat} (h : Inv e C B) (n : Int) : Inv (Az e ⟨9,0,0,0,n, []⟩) C B:=by
 have hp : Az e ⟨9,0,0,0,n, []⟩ = if e.down = true ∧ 0 ≤ n then Mk e n.toNat else e:=by simp [Az]
 rw [hp]
 split
 ·rename_i hx
  exact h.rise hx.1 _
 ·exact h
theorem Inv.Wi {e : Eng} {C : Nat → Page} {B : Nat} (h : Inv e C B) (hd : e.down = true) : (Az e ⟨9,0,0,0,150, []⟩).down = false ∧ Ay (Az e ⟨9,0,0,0,150, []⟩) = 0:=by
 have hp : Az e ⟨9,0,0,0,150, []⟩ = Mk e 150:=by simp [Az,hd]
 rw [hp]
 exact h.rises h.KU
def KC (e : Eng) (n : Int) : Eng:=Az (Az e ⟨8,0,0,0,n, []⟩) ⟨9,0,0,0,150, []⟩
def N8 (ps : List Page) (C : Nat → Page) : Prop:=ps.length = 5 ∧ ∀ p,p < 5 → (pg ps p).owner = (C p).owner ∧ (pg ps p).vals = (C p).vals
theorem Inv.has {e : Eng} {C : Nat → Page} {B : Nat} (h : Inv e C B) (hup : e.down = false) (h0 : Ay e = 0) : N8 e.mem C:=⟨h.mlen,fun _ hp => h.truth hup h0 hp⟩
theorem Inv.RX {e : Eng} {C : Nat → Page} {B : Nat} (h : Inv e C B) {n : Int} (hn : 0 ≤ n) : Inv (KC e n) C B ∧ (KC e n).down = false ∧ Ay (KC e n) = 0:=by
 obtain ⟨h1,h2⟩:=h.Qo n
 exact ⟨h1.Wh 150,h1.Wi (h2 hn)⟩
theorem Inv.Oj {e : Eng} {C : Nat → Page} {B : Nat} (h : Inv e C B) {n : Int} (hn : 0 ≤ n) : N8 (KC e n).mem C:=(h.RX hn).1.has (h.RX hn).2.1 (h.RX hn).2.2
theorem N8.same {a b : List Page} {C : Nat → Page} (h : N8 a C) (g : N8 b C) : a.length = b.length ∧ ∀ k,k < a.length → (pg a k).owner = (pg b k).owner ∧ (pg a k).vals = (pg b k).vals:=
 ⟨h.1.trans g.1.symm,fun k hk => by rw [h.1] at hk;exact ⟨(h.2 k hk).1.trans (g.2 k hk).1.symm,(h.2 k hk).2.trans (g.2 k hk).2.symm⟩⟩
def Pq (C : Nat → Page) (B : Nat) (e : Eng) : Prop:=Inv e C B ∧ (e.down = true ∨ e.log = [])
theorem Pq.start {e : Eng} {C : Nat → Page} {B : Nat} (h : Inv e C B) {n : Int} (hn : 0 ≤ n) : Pq C B (Az e ⟨8,0,0,0,n, []⟩):=⟨(h.Qo n).1, .inl ((h.Qo n).2 hn)⟩
theorem Pq.round {e : Eng} {C : Nat → Page} {B : Nat} (h : Pq C B e) (n : Int) {m : Int} (hm : m ≤ 1) : Pq C B (Az (Az e ⟨9,0,0,0,n, []⟩) ⟨8,0,0,0,(Az e ⟨9,0,0,0,n, []⟩).log.length - m, []⟩):=by
 have h1:=h.1.Wh n
 obtain ⟨X,hX⟩ : ∃ X,Az e ⟨9,0,0,0,n, []⟩ = X:=⟨_,rfl⟩
 rw [hX] at h1 ⊢
 refine ⟨(h1.Qo _).1,?_⟩
 by_cases h0 : 0 ≤ (X.log.length : Int) - m
 ·exact .inl ((h1.Qo _).2 h0)
 ·have hl : X.log = []:=List.eq_nil_of_length_eq_zero (by omega)
  have hp : Az X ⟨8,0,0,0,(X.log.length : Int) - m, []⟩ = X:=by
   have : Az X ⟨8,0,0,0,(X.log.length : Int) - m, []⟩ = if 0 ≤ (X.log.length : Int) - m then Jk X ((X.log.length : Int) - m) else X:=by simp [Az]
   rw [this,if_neg h0]
  rw [hp]
  exact .inr hl
theorem Pq.last {e : Eng} {C : Nat → Page} {B : Nat} (h : Pq C B e) : Inv (Az e ⟨9,0,0,0,150, []⟩) C B ∧ (Az e ⟨9,0,0,0,150, []⟩).down = false ∧ N8 (Az e ⟨9,0,0,0,150, []⟩).mem C:=by
 have h1:=h.1.Wh 150
 have h2 : (Az e ⟨9,0,0,0,150, []⟩).down = false ∧ Ay (Az e ⟨9,0,0,0,150, []⟩) = 0:=by
  cases hd : e.down
  ·have hl : e.log = []:=h.2.resolve_left (by simp [hd])
   have hp : Az e ⟨9,0,0,0,150, []⟩ = e:=by simp [Az,hd]
   rw [hp]
   have hz : ∀ t,lastT e t = 0:=fun t => by show Ai e.log t e.log.length = 0;rw [hl];rfl
   exact ⟨hd,by simp [Ay,hz]⟩
  ·exact h.1.Wi hd
 exact ⟨h1,h2.1,h1.has h2.1 h2.2⟩
theorem OY {e : Eng} {C : Nat → Page} {B : Nat} (h : Core e C B) (tx : Int) (hc : Cw (Dn e tx).kind = true) : has e.log tx e.log.length (Dn e tx).page = true:=by
 obtain ⟨m,hm⟩ : ∃ m,Br e.log (lastT e tx) = m:=⟨_,rfl⟩
 unfold Dn at hc ⊢
 rw [hm] at hc ⊢
 by_cases h0 : m = 0
 ·rw [if_pos h0] at hc
  simp [Cw] at hc
 ·rw [if_neg h0]
  have hU : m ∈ U e.log tx e.log.length:=by
   unfold Br at hm
   rw [U]
   cases hu : D8 e.log (Ai e.log tx e.log.length) with
   | nil => rw [lastT,hu] at hm;exact absurd hm.symm h0
   | cons a bs => rw [lastT,hu] at hm;rw [← hm];simp
  exact MI h.log h.prop (Nat.le_refl _) hU
theorem Vf {e : Eng} {C : Nat → Page} {B : Nat} (h : Core e C B) {tx : Int} (ht : tx = 1 ∨ tx = 2 ∨ tx = 3) (hlast : lastT e tx ≠ 0) {p : Int} (hp : has e.log tx e.log.length p = false) : has (Be e tx).log tx (Be e tx).log.length p = false:=by
 have hs:=h.step ht hlast
 have hl:=hs.log
 have hk:=Ez (e:=e) h.log tx
 have hlen:=Ho e tx
 have hrc : (rc (Be e tx).log e.log.length).tx = tx:=by rw [Gg,BF];exact hk.tx
 have hold : has (Be e tx).log tx e.log.length p = false:=by
  rw [Hw (Cf e.log [CU e tx]).symm tx p (Nat.le_refl _)] at *
  rw [Gg]
  exact hp
 rw [hlen]
 cases he : EO (rc (Be e tx).log e.log.length).kind
 ·have:=MJ hl (k:=e.log.length) (by rw [hlen];omega) he p
  rw [hrc] at this
  rw [this,hold,Bool.or_false,beq_eq_false_iff_ne]
  intro hpg
  have hx : (rc (Be e tx).log e.log.length) = CU e tx:=by rw [Gg,BF]
  rw [hx] at hpg he
  have hc : Cw (Dn e tx).kind = true:=by
   rw [(La (e:=e) (tx:=tx)).1] at he
   unfold Dn at he ⊢
   split
   ·rename_i h0;rw [if_pos h0] at he;simp [EO] at he
   ·rfl
  have:=OY h tx hc
  rw [← (La (e:=e) (tx:=tx)).2,hpg,hp] at this
  cases this
 ·exact QU hrc he p
theorem Qd {e : Eng} {C : Nat → Page} {B : Nat} (h : Core e C B) (hm : e.mem.length = 5) {tx : Int} {p : Nat} (hp : has e.log tx e.log.length p = false) : pg (Be e tx).mem p = pg e.mem p:=by
 rw [Be,H7 hm (Hg h.log tx),if_neg]
 rintro ⟨h1,h2⟩
 have:=OY h tx h1
 rw [h2,hp] at this
 cases this
theorem NN {C : Nat → Page} {B : Nat} {tx : Int} (ht : tx = 1 ∨ tx = 2 ∨ tx = 3) : ∀ (k : Nat) (e : Eng),Eb e C B tx → lastT e tx ≠ 0 → (U e.log tx e.log.length).length = k →
  (GK tx (k + 1) e).disk = e.disk ∧ (GK tx (k + 1) e).safe = e.safe ∧ ∀ p : Nat,has e.log tx e.log.length p = false → pg (GK tx (k + 1) e).mem p = pg e.mem p
 | 0,e,h,_,_ => ⟨rfl,rfl,fun _ hp => Qd h.core h.mlen hp⟩
 | k + 1,e,h,hlast,hk => by
  have hs:=h.core.NS ht hlast
  have hne : U e.log tx e.log.length ≠ []:=fun h0 => by rw [h0] at hk;cases hk
  obtain ⟨a,b,c⟩:=NN ht k (Be e tx) (h.step ht hlast) (by rw [hs.2.2.1,if_neg hne];omega) (by rw [hs.1,List.length_tail,hk];omega)
  exact ⟨a,b,fun p hp => (c p (Vf h.core ht hlast hp)).trans (Qd h.core h.mlen hp)⟩
theorem WV {e : Eng} {C : Nat → Page} {B : Nat} (h : Inv e C B) (tx : Int) :
  (Az e ⟨5,tx,0,0,0, []⟩).disk = e.disk ∧ (Az e ⟨5,tx,0,0,0, []⟩).safe = e.safe ∧ ∀ p : Nat,has e.log tx e.log.length p = false → pg (Az e ⟨5,tx,0,0,0, []⟩).mem p = pg e.mem p:=by
 have hp : Az e ⟨5,tx,0,0,0, []⟩ = if Ia e tx = true then DF e tx else e:=by simp [Az]
 rw [hp]
 split
 ·rename_i ho
  obtain ⟨h1,h2,h3⟩:=Dz.1 ho
  rw [DF,if_neg h3]
  exact NN h2 _ e (h.und h1 tx) h3 rfl
 ·exact ⟨rfl,rfl,fun _ _ => rfl⟩
theorem Inv.Yx {e : Eng} {C : Nat → Page} {B : Nat} (h : Inv e C B) (tx : Int) : Inv (Az e ⟨5,tx,0,0,0, []⟩) C B:=by
 have hp : Az e ⟨5,tx,0,0,0, []⟩ = if Ia e tx = true then DF e tx else e:=by simp [Az]
 rw [hp]
 split
 ·rename_i ho
  obtain ⟨h1,h2,h3⟩:=Dz.1 ho
  exact (h.Jt h1 h2).1
 ·exact h
theorem Vu {l : List Rec} {tx : Int} (h : tx ∈ BX l 3) : (tx = 1 ∨ tx = 2 ∨ tx = 3) ∧ Ai l tx l.length ≠ 0:=KT.1 h
theorem Inv.YI {e : Eng} {C : Nat → Page} {B : Nat} (h : Inv e C B) (hup : e.down = false) {tx : Int} (ht : tx ∈ BX e.log 3) : Az e ⟨4,tx,0,0,0, []⟩ = Dg e tx ∧ Inv (Dg e tx) (I4 e tx C) B:=by
 obtain ⟨h1,h2⟩:=Vu ht
 have hp : Az e ⟨4,tx,0,0,0, []⟩ = if Ia e tx = true then Dg e tx else e:=by simp [Az]
 rw [hp,if_pos (Dz.2 ⟨hup,h1,h2⟩)]
 exact ⟨rfl,h.SB hup h1 h2⟩
theorem Uv {e : Eng} (h0 : Ay e = 0) : BX e.log 3 = []:=by
 obtain ⟨h1,h2,h3⟩:=Gz h0
 rw [Gv,if_pos h1,if_pos h2,if_pos h3]
 rfl
theorem N8.done {e : Eng} {C : Nat → Page} {tx : Int} {ps : List Page} (h : N8 ps (I4 e tx C)) {p : Nat} (hp : p < 5) (hh : has e.log tx e.log.length p = true) : (pg ps p).owner = (pg e.mem p).owner ∧ (pg ps p).vals = (pg e.mem p).vals:=by
 have:=h.2 p hp
 rw [I4,if_pos hh] at this
 exact this
theorem Tn {r : Rec} (h : CZ r = true) : 0 ≤ r.page ∧ r.page ≤ 4:=by
 have:=Dc.1 h
 omega
theorem VA {l : List Rec} (hl : AB l = true) {tx p : Int} {n : Nat} (hn : n ≤ l.length) (h : has l tx n p = true) : 0 ≤ p ∧ p < 5:=by
 obtain ⟨m,hm,rfl⟩:=QT.1 h
 have h1:=E8 _ m hm
 have h2:=Bc l tx n
 have F:=Aq hl (k:=m - 1) (by omega)
 have h4:=Tn F.ok
 omega
end Go.Proofs.YtofgeajaajfiaaaGreat
