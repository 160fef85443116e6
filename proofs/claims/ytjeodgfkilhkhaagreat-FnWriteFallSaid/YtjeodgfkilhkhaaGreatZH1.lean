/- A part of the proof: what the last text of the claim says leans on this one. -/
import Derived.Test.YtjeodgfkilhkhaaGreatZF1
set_option linter.unusedVariables false
set_option linter.unusedSimpArgs false
namespace Go.Proofs.YtjeodgfkilhkhaaGreat
structure Begins (l : List Rec) (n : Nat) : Prop where
 one : ∀ t t' p,t ≠ t' → has l t n p = true → has l t' n p = false
 room : n + AR l n ≤ 150
theorem Vz.begins {L : List Rec} (h : Vz L) {n : Nat} (hn : n ≤ L.length) : Begins L n:=⟨fun t t' p hne hh => FP h.log h.prop n hn t t' p hne hh,h.room n hn⟩
theorem Begins.congr {l l' : List Rec} {n : Nat} (hA : Agree l l' n) (h : Begins l n) : Begins l' n:=
 ⟨fun t t' p hne hh => by rw [← FJ hA t' p (Nat.le_refl _)];exact h.one t t' p hne (by rw [FJ hA t p (Nat.le_refl _)];exact hh),by rw [← ER hA (Nat.le_refl _)];exact h.room⟩
theorem Lb (L : List Rec) (j : Nat) : rc (L.drop 1) j = rc L (j + 1):=by
 simp [rc,List.getD_eq_getElem?_getD,Nat.add_comm]
theorem KJ (L : List Rec) (t : Int) : ∀ j,Ae (L.drop 1) t j = Ae L t (j + 1) - 1
 | 0 => by
  rw [Ae,Ae,Ae]
  split
  ·split <;> rfl
  ·rfl
 | j + 1 => by
  rw [Ae,Ae,Lb,KJ L t j]
  split
  ·split <;> rfl
  ·rfl
theorem KR {L : List Rec} (h : Au L = true) (hM : Au (L.drop 1) = true) {j : Nat} (hj : j < (L.drop 1).length) : Ae L (rc L (j + 1)).tx (j + 1) = 0 ∧ (rc L (j + 1)).prev = 0:=by
 have hlen : (L.drop 1).length = L.length - 1:=by simp
 have F:=Ag h (k:=j + 1) (by omega)
 have G:=Ag hM hj
 have h1:=F.prev
 have h2:=G.prev
 have h3:=F.last
 have h4:=G.last
 rw [Lb] at h2 h4
 rw [KJ] at h4
 rw [h3] at h1
 rw [h4] at h2
 omega
theorem QV {L : List Rec} (h : Vz L) (hM : Au (L.drop 1) = true) {n : Nat} (hn : n ≤ (L.drop 1).length) : Begins (L.drop 1) n:=by
 have hlen : (L.drop 1).length = L.length - 1:=by simp
 have hno : ∀ j,j < (L.drop 1).length → EK (rc L (j + 1)).kind = false ∧ (rc L (j + 1)).kind ≠ 6:=fun j hj => by
  obtain ⟨h1,h2⟩:=KR h.log hM hj
  have hp:=h.prop (j + 1) (by omega)
  refine ⟨?_,fun h6 => ?_⟩
  ·cases he : EK (rc L (j + 1)).kind
   ·rfl
   ·have:=hp.fin he;omega
  ·obtain ⟨m,ms,hu,_⟩:=hp.JC h6
   rw [U,h1,Cn] at hu
   cases hu
 have hP : ∀ t P,Ae (L.drop 1) t n = P → P ≠ 0 → Ae L t (n + 1) = P + 1 ∧ P ≤ n:=fun t P hP h0 => by
  have:=KJ L t n
  have:=Bc (L.drop 1) t n
  omega
 have hprev : ∀ P,P < (L.drop 1).length → Bu (L.drop 1) (P + 1) = 0:=fun P hp => by
  have h2:=(KR h.log hM hp).2
  show (rc (L.drop 1) (P + 1 - 1)).prev.toNat = 0
  rw [Nat.add_sub_cancel,Lb,h2]
  rfl
 have hhas : ∀ t p,has (L.drop 1) t n p = true → has L t (n + 1) p = true:=fun t p hh => by
  obtain ⟨m,hm,hpg⟩:=MO.1 hh
  rw [Ch] at hm
  cases hx : Ae (L.drop 1) t n with
  | zero => rw [hx,C9] at hm;cases hm
  | succ P =>
   obtain ⟨h1,h2⟩:=hP t (P + 1) hx (by omega)
   have hz:=hprev P (by omega)
   rw [hx,Dk (by omega),hz,C9] at hm
   obtain rfl : m = P + 1:=by simpa using hm
   refine MO.2 ⟨P + 2,?_,?_⟩
   ·rw [Ch,h1,Dk (by
     have F:=Ag h.log (k:=P + 1) (by omega)
     exact F.prev_le)]
    simp
   ·rw [Nat.add_sub_cancel,Lb] at hpg
    exact hpg
 refine ⟨fun t t' p hne hh => ?_,?_⟩
 ·have hL0 : n + 1 ≤ L.length:=by
   by_cases h0 : L.length = 0
   ·obtain rfl : n = 0:=by omega
    simp [has,Ae,Gi] at hh
   ·omega
  cases hx : has (L.drop 1) t' n p
  ·rfl
  ·have:=FP h.log h.prop (n + 1) hL0 t t' p hne (hhas t p hh)
   rw [hhas t' p hx] at this
   cases this
 ·have hc : ∀ t,cst (L.drop 1) t n ≤ 2:=fun t => by
   rw [cst,U]
   cases hx : Ae (L.drop 1) t n with
   | zero => simp [Cn]
   | succ P =>
    obtain ⟨h1,h2⟩:=hP t (P + 1) hx (by omega)
    have hz:=hprev P (by omega)
    have hk:=hno P (by omega)
    rw [← Lb] at hk
    by_cases hp : (rc (L.drop 1) P).kind = 1 ∨ (rc (L.drop 1) P).kind = 2
    ·rw [JF hp (by omega),hz,Cn];simp
    ·rw [K6 (fun x => hp (.inl x)) (fun x => hp (.inr x)) hk.2 (by omega),hz,Cn];simp
  have h1:=hc 1
  have h2:=hc 2
  have h3:=hc 3
  have hl : (L.drop 1).length ≤ 3:=by
   by_cases h4 : (L.drop 1).length ≤ 3
   ·exact h4
   ·exfalso
    have hd : ∀ i j,i < j → j < (L.drop 1).length → (rc L (i + 1)).tx ≠ (rc L (j + 1)).tx:=fun i j hij hj e => by
     have hz:=(KR h.log hM hj).1
     have hk : ∀ d,i + 1 + d ≤ j → Ae L (rc L (j + 1)).tx (i + 2 + d) ≠ 0:=fun d => by
      induction d with
      | zero =>
       intro _
       rw [show i + 2 + 0 = i + 1 + 1 by omega,En e (hno i (by omega)).1]
       omega
      | succ d ih =>
       intro hd
       rw [show i + 2 + (d + 1) = (i + 2 + d) + 1 by omega]
       by_cases e2 : (rc L (i + 2 + d)).tx = (rc L (j + 1)).tx
       ·rw [En e2 (by have:=(hno (i + 1 + d) (by omega)).1;rwa [show i + 1 + d + 1 = i + 2 + d by omega] at this)]
        omega
       ·rw [Fw e2]
        exact ih (by omega)
     have:=hk (j - i - 1) (by omega)
     rw [show i + 2 + (j - i - 1) = j + 1 by omega] at this
     exact this hz
    have F:=fun j (hj : j < 4) => Ag h.log (k:=j + 1) (by omega)
    have f0:=F 0 (by decide)
    have f1:=F 1 (by decide)
    have f2:=F 2 (by decide)
    have f3:=F 3 (by decide)
    have d01:=hd 0 1 (by decide) (by omega)
    have d02:=hd 0 2 (by decide) (by omega)
    have d03:=hd 0 3 (by decide) (by omega)
    have d12:=hd 1 2 (by decide) (by omega)
    have d13:=hd 1 3 (by decide) (by omega)
    have d23:=hd 2 3 (by decide) (by omega)
    have:=f0.tx1;have:=f0.tx3;have:=f1.tx1;have:=f1.tx3;have:=f2.tx1;have:=f2.tx3;have:=f3.tx1;have:=f3.tx3
    omega
  rw [AR]
  omega
theorem Rh.begins {l : List Rec} (h : Rh l) (hl : Au l = true) {n : Nat} (hn : n < l.length) : Begins l n:=by
 obtain ⟨L,hL,h1 | ⟨r,h1⟩ | h1 | ⟨i,q,hi,h1⟩⟩:=h
 ·subst h1
  exact hL.begins (by omega)
 ·subst h1
  rw [List.length_append] at hn
  simp at hn
  exact (hL.begins (by omega)).congr ((Cq L [r]).symm.le (by omega))
 ·subst h1
  exact QV hL hl (by omega)
 ·have hA : Agree L l i:=fun k hk => by
   rw [h1,rc,rc,List.getD_eq_getElem?_getD,List.getD_eq_getElem?_getD,List.getElem?_set_ne (by omega)]
  have hll : l.length = L.length:=by rw [h1];simp
  have F:=Ag hL.log hi
  have G:=Ag hl (k:=i) (by omega)
  have hrc : rc l i = { rc L i with prev:=q }:=by rw [h1,rc,List.getD_eq_getElem?_getD,List.getElem?_set_self hi];rfl
  have hq : q = (rc L i).prev:=by
   have h2:=F.prev
   have h3:=G.prev
   have h4:=F.last
   have h5:=G.last
   rw [hrc] at h3 h5
   have h6 : q = (Bu l (i + 1) : Int):=h3
   have h7 : Bu l (i + 1) = Ae l (rc L i).tx i:=h5
   have h8:=CF (rc L i).tx hA
   omega
  have he : l = L:=by
   rw [h1,hq]
   have : ({ rc L i with prev:=(rc L i).prev } : Rec) = L[i]:=by rw [show rc L i = L[i] by simp [rc,List.getD_eq_getElem?_getD,hi]]
   rw [this,List.set_getElem_self]
  subst he
  exact hL.begins (by omega)
theorem Wq {e : Eng} (hok : eOk e = true) (hD : Rh e.log) (left : Int) : eOk (BL e left) = true:=by
 have h:=Ct.1 hok
 obtain ⟨h1,h2⟩:=Gw (e:=e) (left:=left) h.s0 h.s1
 obtain ⟨n,hn⟩ : ∃ n,Dj e left = n:=⟨_,rfl⟩
 rw [hn] at h1 h2
 have hE : BL e left = { e with mem:=e.disk,log:=e.log.take n,down:=true }:=by rw [BL,hn]
 rw [hE]
 have hlen : (e.log.take n).length = n:=by rw [List.length_take];omega
 have hA:=FB e.log n
 have hB : n < e.log.length → Begins e.log n:=fun hlt => hD.begins h.log hlt
 have hwhole : ¬ n < e.log.length → e.log.take n = e.log:=fun hx => List.take_of_length_le (by omega)
 refine Ct.2 ⟨h.disk,h.disk,Fv h.log n,h.s0,by show e.safe ≤ ((e.log.take n).length : Int);rw [hlen];exact h1,?_,fun m h3 h4 => ?_,fun p hp => ?_⟩
 ·show G6 (e.log.take n) = true
  by_cases hlt : n < e.log.length
  ·have hb:=(hB hlt).room
   rw [G6,Iw,decide_eq_true_eq,hlen,ER hA (Nat.le_refl _)]
   exact hb
  ·rw [hwhole hlt];exact h.fits
 ·have h4 : m ≤ (e.log.take n).length:=h4
  have ht : (e.log.take n).take m = e.log.take m:=by rw [List.take_take,Nat.min_eq_left (by omega)]
  have hp:=h.pref m h3 (by omega)
  show Ez { e with mem:=e.disk,log:=e.log.take n,down:=true } m = true
  rw [Ez]
  show (Et (BI e.disk ((e.log.take n).take m) ((e.log.take n).take m).length) && DR ((e.log.take n).take m) (BI e.disk ((e.log.take n).take m) ((e.log.take n).take m).length)) = true
  rw [ht]
  exact hp
 ·have hb:=h.page p hp
  simp only [E5,Bool.and_eq_true,decide_eq_true_eq] at hb ⊢
  refine ⟨⟨?_,hb.1.2⟩,?_⟩
  ·show (F7 (e.log.take n) p (BX (e.log.take n) 3) 0 true).2 = true
   by_cases hlt : n < e.log.length
   ·have hone:=(hB hlt).one
    refine (Pb (fun t t' hne hh => ?_)).1
    rw [hlen,FJ hA t (p : Int) (Nat.le_refl _)] at hh
    rw [hlen,FJ hA t' (p : Int) (Nat.le_refl _)]
    exact hone t t' p hne hh
   ·rw [hwhole hlt];exact hb.1.1
  ·rw [if_pos trivial]
   exact DF.2 rfl
theorem XM {e : Eng} (hok : eOk e = true) {left : Int} (hl : 0 ≤ left) : Fa e left = (BL e left,true):=by rw [Fa,if_pos ⟨hok,hl⟩]
theorem YQ {e : Eng} (hok : eOk e = true) (left : Int) : ((BL e left).log.length : Int) = max e.safe (min left e.log.length) ∧ (BL e left).log = e.log.take (BL e left).log.length:=by
 have h:=Ct.1 hok
 obtain ⟨h1,h2⟩:=Gw (e:=e) (left:=left) h.s0 h.s1
 have hlen : (BL e left).log.length = Dj e left:=by show (e.log.take (Dj e left)).length = _;rw [List.length_take];omega
 refine ⟨?_,by rw [hlen];rfl⟩
 rw [hlen,Dj]
 have:=h.s0
 omega
theorem Yx {e : Eng} (hok : eOk e = true) (left : Int) : BL (BL e left) (BL e left).log.length = BL e left:=by
 have h:=Ct.1 hok
 obtain ⟨h1,h2⟩:=Gw (e:=e) (left:=left) h.s0 h.s1
 have hlen : (BL e left).log.length = Dj e left:=by show (e.log.take (Dj e left)).length = _;rw [List.length_take];omega
 have hk : Dj (BL e left) (BL e left).log.length = Dj e left:=by
  show (max e.safe (min ((BL e left).log.length : Int) ((BL e left).log.length : Int))).toNat = _
  rw [hlen]
  omega
 show ({ BL e left with mem:=(BL e left).disk,log:=(BL e left).log.take (Dj (BL e left) (BL e left).log.length),down:=true } : Eng) = BL e left
 rw [hk, ← hlen,List.take_length]
 rfl
theorem YP {e : Eng} (hok : eOk e = true) {left less : Int} : BL (BL e left) less = BL e (min less left):=by
 have h:=Ct.1 hok
 have hs0:=h.s0
 have hs1:=h.s1
 obtain ⟨h1,h2⟩:=Gw (e:=e) (left:=left) h.s0 h.s1
 have hlen : (BL e left).log.length = Dj e left:=by show (e.log.take (Dj e left)).length = _;rw [List.length_take];omega
 have hk : Dj (BL e left) less = Dj e (min less left):=by
  show (max e.safe (min less ((BL e left).log.length : Int))).toNat = (max e.safe (min (min less left) (e.log.length : Int))).toNat
  rw [hlen]
  have : (Dj e left : Int) = max e.safe (min left e.log.length):=by rw [Dj];omega
  rw [this]
  omega
 have hle : Dj (BL e left) less ≤ Dj e left:=by
  show (max e.safe (min less ((BL e left).log.length : Int))).toNat ≤ _
  rw [hlen]
  omega
 show ({ e with mem:=e.disk,log:=(e.log.take (Dj e left)).take (Dj (BL e left) less),down:=true } : Eng) = { e with mem:=e.disk,log:=e.log.take (Dj e (min less left)),down:=true }
 rw [List.take_take,Nat.min_eq_left hle,hk]
structure Oe (P Q : Page) : Prop where
 owner : Q.owner = P.owner
 lsn : 0 ≤ Q.lsn ∧ Q.lsn ≤ 150
 len : Q.vals.length = 3
 rng : ∀ x ∈ Q.vals,0 ≤ x ∧ x ≤ 9
 zero : P.owner = 0 → Q.vals = P.vals
theorem Oe.same {P : Page} (h : AL P = true) : Oe P P:=by
 obtain ⟨h1,h2,_,_,h5,h6⟩:=Be.1 h
 exact ⟨rfl,⟨h1,h2⟩,h5,fun x hx => ⟨(h6 x hx).1,(h6 x hx).2.1⟩,fun _ => rfl⟩
theorem Oe.step {P Q : Page} (h : Oe P Q) (r : Rec) (hok : AL (AV P r) = true) : AL (AV Q r) = true ∧ Oe (AV P r) (AV Q r):=by
 obtain ⟨h1,h2,h3,h4,h5,h6⟩:=Be.1 hok
 unfold AV at h1 h2 h3 h4 h5 h6 ⊢
 by_cases hs : 0 ≤ r.slot
 ·rw [if_pos hs] at h1 h2 h3 h4 h5 h6 ⊢
  rw [if_pos hs]
  simp only at h1 h2 h3 h4 h5 h6 ⊢
  have hr : ∀ x ∈ Q.vals.set r.slot.toNat r.new,0 ≤ x ∧ x ≤ 9:=fun x hx => by
   rcases List.mem_or_eq_of_mem_set hx with hx | rfl
   ·exact h.rng x hx
   ·by_cases hlt : r.slot.toNat < P.vals.length
    ·have:=h6 r.new (List.mem_set hlt r.new)
     exact ⟨this.1,this.2.1⟩
    ·have hq : Q.vals.set r.slot.toNat r.new = Q.vals:=List.set_eq_of_length_le (by rw [h.len];rw [List.length_set] at h5;omega)
     rw [hq] at hx
     exact h.rng _ hx
  have hz : P.owner = 0 → Q.vals.set r.slot.toNat r.new = P.vals.set r.slot.toNat r.new:=fun h0 => by rw [h.zero h0]
  refine ⟨Be.2 ⟨h.lsn.1,h.lsn.2,by show 0 ≤ Q.owner;rw [h.owner];exact h3,by show Q.owner ≤ 3;rw [h.owner];exact h4,by show (Q.vals.set r.slot.toNat r.new).length = 3;rw [List.length_set];exact h.len,fun x hx => ⟨(hr x hx).1,(hr x hx).2,fun h0 => ?_⟩⟩,⟨h.owner,h.lsn,by show (Q.vals.set r.slot.toNat r.new).length = 3;rw [List.length_set];exact h.len,hr,hz⟩⟩
  have h0 : P.owner = 0:=by rw [← h.owner];exact h0
  have hx : x ∈ P.vals.set r.slot.toNat r.new:=by rw [← hz h0];exact hx
  exact (h6 x hx).2.2 h0
 ·rw [if_neg hs] at h1 h2 h3 h4 h5 h6 ⊢
  rw [if_neg hs]
  by_cases hn : r.new = 0
  ·rw [if_pos hn,if_pos hn]
   refine ⟨Be.2 ⟨h.lsn.1,h.lsn.2,(by show (0 : Int) ≤ 0;decide),(by show (0 : Int) ≤ 3;decide),rfl,fun x hx => ?_⟩,⟨rfl,h.lsn,rfl,fun x hx => ?_,fun _ => rfl⟩⟩
   ·have : x = 0:=by simpa using hx
    subst this
    exact ⟨by decide,by decide,fun _ => rfl⟩
   ·have : x = 0:=by simpa using hx
    subst this
    exact ⟨by decide,by decide⟩
  ·rw [if_neg hn] at h1 h2 h3 h4 h5 h6
   rw [if_neg hn,if_neg hn]
   simp only at h1 h2 h3 h4 h5 h6 ⊢
   exact ⟨Be.2 ⟨h.lsn.1,h.lsn.2,h3,h4,h.len,fun x hx => ⟨(h.rng x hx).1,(h.rng x hx).2,fun h0 => absurd h0 hn⟩⟩,⟨rfl,h.lsn,h.len,h.rng,fun h0 => absurd h0 hn⟩⟩
theorem N7 {l : List Rec} : ∀ {ms : List Nat} {ps qs : List Page},(∀ m ∈ ms,0 ≤ (rc l (m - 1)).page ∧ (rc l (m - 1)).page < 5) → ps.length = 5 → qs.length = 5 → (∀ p,p < 5 → Oe (pg ps p) (pg qs p)) → DL l ps ms = true → DL l qs ms = true
 | [],_,_,_,_,_,_,_ => rfl
 | m :: ms,ps,qs,hm,h1,h2,hn,h => by
  have h5:=hm m (by simp)
  rw [DL,Bool.and_eq_true] at h ⊢
  have hp : (rc l (m - 1)).page.toNat < 5:=by omega
  obtain ⟨a,b⟩:=(hn _ hp).step (Br (rc l (m - 1)) 0) h.1
  refine ⟨a,N7 (fun x hx => hm x (by simp [hx])) (by simpa using h1) (by simpa using h2) (fun p hp5 => ?_) h.2⟩
  rw [Eu (ps:=ps) (by omega),Eu (ps:=qs) (by omega)]
  split
  ·exact b
  ·exact hn p hp5
def Calm (M : Page) (l : List Rec) (p : Nat) : Prop := ∀ k,k < l.length → M.lsn < (k + 1 : Nat) → ¬ (Cu (rc l k).kind = true ∧ (rc l k).page = p)
theorem LV {M : Page} {l : List Rec} {p : Nat} (h : Calm M l p) : ∀ n,n ≤ l.length → Bh M l p n = M
 | 0,_ => rfl
 | n + 1,hn => by
  rw [Bh,LV h n (by omega),if_neg]
  rintro ⟨h1,h2,h3⟩
  exact h n (by omega) h3 ⟨h1,h2⟩
theorem Ni {P : Page} {l : List Rec} {p n : Nat} : ∀ m,n ≤ m → (Bh P l p n).lsn ≤ (Bh P l p m).lsn
 | 0,h => by
  obtain rfl : n = 0:=by omega
  exact Int.le_refl _
 | m + 1,h => by
  by_cases e : n = m + 1
  ·rw [e];exact Int.le_refl _
  ·have ih:=Ni (P:=P) (l:=l) (p:=p) m (by omega : n ≤ m)
   rw [Bh]
   split
   ·rename_i hc
    have : (doR (Bh P l p m) (rc l m) (m + 1 : Nat)).lsn = ((m + 1 : Nat) : Int):=rfl
    omega
   ·exact ih
theorem OV {P : Page} {l : List Rec} {p : Nat} : Calm (Bh P l p l.length) l p:=fun k hk hl hc => by
 have h1:=Ni (P:=P) (l:=l) (p:=p) (n:=k + 1) l.length (by omega)
 have h2:=Ni (P:=P) (l:=l) (p:=p) (n:=k) l.length (by omega)
 rw [Bh,if_pos ⟨hc.1,hc.2,by omega⟩] at h1
 have : (doR (Bh P l p k) (rc l k) (k + 1 : Nat)).lsn = ((k + 1 : Nat) : Int):=rfl
 omega
theorem Nj {P : Page} {l : List Rec} {p n : Nat} (h : ∀ k,n ≤ k → k < l.length → ¬ (Cu (rc l k).kind = true ∧ (rc l k).page = p)) : ∀ m,n ≤ m → m ≤ l.length → Bh P l p m = Bh P l p n
 | 0,hm,_ => by
  obtain rfl : n = 0:=by omega
  rfl
 | m + 1,hm,hl => by
  by_cases e : n = m + 1
  ·rw [e]
  ·rw [Bh,if_neg (fun x => h m (by omega) (by omega) ⟨x.1,x.2.1⟩)]
   exact Nj h m (by omega) (by omega)
structure Wr (e : Eng) (p : Nat) : Prop where
 calm : Calm (pg e.mem p) e.log p
 le : (pg e.mem p).lsn ≤ e.log.length
 near : ∀ n : Nat,e.safe ≤ n → (pg e.mem p).lsn ≤ n → n ≤ e.log.length → Oe (Bh (pg e.disk p) e.log p n) (pg e.mem p)
theorem Yy {e : Eng} (h : OkF e) (hup : e.down = false) {p : Nat} (hp : p < 5) : Wr e p:=by
 have hd5:=(Bb.1 h.disk).1
 have hM:=(Bb.1 h.mem).2 p hp
 have hrd:=E9 hd5 (fun k hk => (Ag h.log hk).ok) p e.log.length (Nat.le_refl _)
 have hb:=h.page p hp
 simp only [E5,Bool.and_eq_true,decide_eq_true_eq] at hb
 have hm:=hb.2
 rw [if_neg (by simp [hup]),Kn,hrd] at hm
 have hR : ∀ n : Nat,e.safe ≤ n → n ≤ e.log.length → AL (Bh (pg e.disk p) e.log p n) = true:=fun n h1 h2 => by
  have hq:=h.pref n h1 h2
  rw [Ez,Bool.and_eq_true] at hq
  have hlen : (e.log.take n).length = n:=by rw [List.length_take];omega
  have:=(Bb.1 hq.1).2 p hp
  rw [E9 hd5 (fun k hk => (Ag (Fv h.log n) hk).ok) p _ (Nat.le_refl _),hlen,EF _ p (FB e.log n)] at this
  exact this
 have hfin : ∀ hc : Calm (pg e.mem p) e.log p, ∀ n : Nat,(pg e.mem p).lsn ≤ n → n ≤ e.log.length → Bh (pg e.disk p) e.log p e.log.length = Bh (pg e.disk p) e.log p n:=fun hc n h1 h2 =>
  Nj (fun k h3 h4 => hc k h4 (by omega)) _ h2 (Nat.le_refl _)
 split at hm
 ·simp only [Bool.and_eq_true,beq_iff_eq] at hm
  obtain ⟨⟨h1,h2⟩,_⟩:=hm
  have hc : Calm (pg e.mem p) e.log p:=fun k hk hl hx => by
   rw [h2] at hl
   exact JN hk (by omega) ⟨hx.2, .inl hx.1⟩
  refine ⟨hc,by rw [h2];have:=RO e.log p e.log.length;omega,fun n h3 h4 h5 => ?_⟩
  obtain ⟨a1,a2,_,_,a5,a6⟩:=Be.1 hM
  obtain ⟨_,_,_,_,b5,b6⟩:=Be.1 (hR n h3 h5)
  have ho : (pg e.mem p).owner = (Bh (pg e.disk p) e.log p n).owner:=by rw [h1,hfin hc n h4 h5]
  refine ⟨ho,⟨a1,a2⟩,a5,fun x hx => ⟨(a6 x hx).1,(a6 x hx).2.1⟩,fun h0 => ?_⟩
  rw [OM a5 (fun x hx => (a6 x hx).2.2 (by rw [ho];exact h0)),OM b5 (fun x hx => (b6 x hx).2.2 h0)]
 ·have hs:=DF.1 hm
  have hc : Calm (pg e.mem p) e.log p:=by rw [hs];exact OV
  refine ⟨hc,?_,fun n h3 h4 h5 => ?_⟩
  ·have h1:=He (P:=pg e.disk p) (l:=e.log) (p:=p) e.log.length
   have h2:=h.JU hp
   have h3:=h.s1
   rw [← hs] at h1
   omega
  ·rw [← hfin hc n h4 h5, ← hs]
   exact Oe.same hM
theorem Uu {e : Eng} (hok : eOk e = true) (hup : e.down = false) {p : Nat} (hp : p < 5) : eOk (Cj e p) = true:=by
 have h:=Ct.1 hok
 have hw:=Yy h hup hp
 have hd:=Bb.1 h.disk
 have hM:=(Bb.1 h.mem).2 p hp
 have hs0:=h.s0
 have hs1:=h.s1
 have hle:=hw.le
 have hpg : ∀ q,pg (e.disk.set p (pg e.mem p)) q = if p = q then pg e.mem p else pg e.disk q:=fun q => Eu (by omega)
 have h5 : (e.disk.set p (pg e.mem p)).length = 5:=by simp [hd.1]
 refine Ct.2 ⟨Bb.2 ⟨h5,fun q hq => by show AL (pg (e.disk.set p (pg e.mem p)) q) = true;rw [hpg];split <;> first | exact hM | exact hd.2 q hq⟩,h.mem,h.log,by show 0 ≤ max e.safe (pg e.mem p).lsn;omega,by show max e.safe (pg e.mem p).lsn ≤ (e.log.length : Int);omega,h.fits,fun n h1 h2 => ?_,fun q hq => ?_⟩
 ·have h1 : max e.safe (pg e.mem p).lsn ≤ n:=h1
  have h2 : n ≤ e.log.length:=h2
  have hlen : (e.log.take n).length = n:=by rw [List.length_take];omega
  have hlt:=Fv h.log n
  have ho:=h.pref n (by omega) h2
  rw [Ez,Bool.and_eq_true,DR,EC] at ho
  have hold : ∀ q,pg (BI e.disk (e.log.take n) (e.log.take n).length) q = Bh (pg e.disk q) e.log q n:=fun q => by
   rw [E9 hd.1 (fun k hk => (Ag hlt hk).ok) q _ (Nat.le_refl _),hlen,EF _ q (FB e.log n)]
  have hnew : ∀ q,pg (BI (e.disk.set p (pg e.mem p)) (e.log.take n) (e.log.take n).length) q = if p = q then pg e.mem p else Bh (pg e.disk q) e.log q n:=fun q => by
   rw [E9 h5 (fun k hk => (Ag hlt hk).ok) q _ (Nat.le_refl _),hlen,EF _ q (FB e.log n),hpg]
   split
   ·rename_i e1
    subst e1
    exact LV hw.calm n h2
   ·rfl
  have hnear : ∀ q,q < 5 → Oe (pg (BI e.disk (e.log.take n) (e.log.take n).length) q) (pg (BI (e.disk.set p (pg e.mem p)) (e.log.take n) (e.log.take n).length) q):=fun q hq => by
   have hq1:=(Bb.1 ho.1).2 q hq
   rw [hnew]
   split
   ·rename_i e1
    subst e1
    rw [hold]
    exact hw.near n (by omega) (by omega) h2
   ·rw [hold] at hq1 ⊢
    exact Oe.same hq1
  show Ez (Cj e p) n = true
  rw [Ez,Bool.and_eq_true,DR,EC]
  show Et (BI (e.disk.set p (pg e.mem p)) (e.log.take n) (e.log.take n).length) = true ∧ DL (e.log.take n) (BI (e.disk.set p (pg e.mem p)) (e.log.take n) (e.log.take n).length) (GI (e.log.take n) 3) = true
  refine ⟨Bb.2 ⟨by rw [Ej];exact h5,fun q hq => ?_⟩,N7 (PY hlt) (by rw [Ej];exact hd.1) (by rw [Ej];exact h5) hnear ho.2⟩
  rw [hnew]
  split
  ·exact hM
  ·rw [← hold]
   exact (Bb.1 ho.1).2 q hq
 ·have hb:=h.page q hq
  have hrd:=E9 hd.1 (fun k hk => (Ag h.log hk).ok) q e.log.length (Nat.le_refl _)
  have hrn : pg (BI (e.disk.set p (pg e.mem p)) e.log e.log.length) q = if p = q then pg e.mem p else Bh (pg e.disk q) e.log q e.log.length:=by
   rw [E9 h5 (fun k hk => (Ag h.log hk).ok) q _ (Nat.le_refl _),hpg]
   split
   ·rename_i e1
    subst e1
    exact LV hw.calm _ (Nat.le_refl _)
   ·rfl
  simp only [E5,Bool.and_eq_true,decide_eq_true_eq] at hb ⊢
  have hm:=hb.2
  rw [if_neg (by simp [hup]),Kn,hrd] at hm
  refine ⟨⟨hb.1.1,?_⟩,?_⟩
  ·show (pg (e.disk.set p (pg e.mem p)) q).lsn ≤ max e.safe (pg e.mem p).lsn
   rw [hpg]
   have:=hb.1.2
   split <;> omega
  ·rw [if_neg (show ¬ (Cj e p).down = true by show ¬ e.down = true;simp [hup])]
   show Kn (Cj e p) q = true
   rw [Kn]
   show (if FR e.log q 3 = true then (pg e.mem q).owner == (pg (BI (e.disk.set p (pg e.mem p)) e.log e.log.length) q).owner && (pg e.mem q).lsn == AO e.log q e.log.length && (decide ((pg (e.disk.set p (pg e.mem p)) q).lsn < (pg e.mem q).lsn) || D8 (pg e.mem q) (pg (e.disk.set p (pg e.mem p)) q)) else D8 (pg e.mem q) (pg (BI (e.disk.set p (pg e.mem p)) e.log e.log.length) q)) = true
   rw [hrn,hpg]
   by_cases e1 : p = q
   ·subst e1
    rw [if_pos rfl,if_pos rfl]
    split at hm
    ·rename_i hl
     rw [if_pos hl]
     simp only [Bool.and_eq_true,beq_iff_eq] at hm ⊢
     exact ⟨⟨trivial,hm.1.2⟩,by rw [DF.2 rfl,Bool.or_true]⟩
    ·rename_i hl
     rw [if_neg hl]
     exact DF.2 rfl
   ·rw [if_neg e1,if_neg e1]
    exact hm
theorem Ng : ∀ (k : Nat) (e : Eng),DY e → AR e.log e.log.length ≤ k → Ai (BJ k e) = 0
 | 0,e,_,hn => Mx (show AR e.log e.log.length = 0 by omega)
 | k + 1,e,h,hn => by
  rw [BJ]
  split
  ·rename_i h0;exact h0
  ·rename_i h0
   obtain ⟨_,h2,h3⟩:=h.step h0
   exact Ng k _ h2 (by omega)
theorem Ov {e : Eng} (hok : eOk e = true) (hd : e.down = true) : (upR e 150).2 = true:=by
 have he:=Ct.1 hok
 have hf:=he.fits
 rw [G6,Iw,decide_eq_true_eq] at hf
 rw [upR,if_pos ⟨hok,by decide⟩,if_pos hd]
 have h0 : Ai (BJ 150 (Cc e)) = 0:=Ng 150 _ he.rise (by show AR e.log e.log.length ≤ 150;omega)
 show decide (Ai (BJ (150 : Int).toNat (Cc e)) = 0) = true
 rw [decide_eq_true_eq]
 exact h0
theorem UE {e : Eng} (hok : eOk e = true) (hd : e.down = true) {p : Nat} (hp : p < 5) : (pg e.disk p).lsn ≤ (pg (upR e 150).1.mem p).lsn:=by
 have he:=Ct.1 hok
 have h2:=Ov hok hd
 rw [upR,if_pos ⟨hok,by decide⟩,if_pos hd] at h2 ⊢
 have h0 : Ai (BJ (150 : Int).toNat (Cc e)) = 0:=by simpa using h2
 have hR:=RInv.all he.disk (150 : Int).toNat _ (RInv.start he)
 show _ ≤ (pg (upE (BJ (150 : Int).toNat (Cc e))).mem p).lsn
 rw [upE,if_pos h0]
 show _ ≤ (pg (BJ (150 : Int).toNat (Cc e)).mem p).lsn
 rw [hR.mem p hp,hR.disk]
 exact (He _).1
theorem Xj {e : Eng} (hok : eOk e = true) (hD : Rh e.log) (hup : e.down = false) {p : Nat} (hp : p < 5) {n : Int} (hn : 0 ≤ n) :
  Fa (Cj e p) n = (BL (Cj e p) n,true) ∧ pg (BL (Cj e p) n).mem p = pg e.mem p ∧ (upR (BL (Cj e p) n) 150).2 = true ∧ (pg e.mem p).lsn ≤ (pg (upR (BL (Cj e p) n) 150).1.mem p).lsn:=by
 have hw:=Uu hok hup hp
 have hf:=Wq hw (show Rh (Cj e p).log from hD) n
 have hd5:=(Bb.1 (Ct.1 hok).disk).1
 have hpg : pg (e.disk.set p (pg e.mem p)) p = pg e.mem p:=by rw [Eu (by omega),if_pos rfl]
 refine ⟨XM hw hn,hpg,Ov hf rfl,?_⟩
 have h:=UE hf rfl hp
 rw [show pg (BL (Cj e p) n).disk p = pg e.mem p from hpg] at h
 exact h
end Go.Proofs.YtjeodgfkilhkhaaGreat
