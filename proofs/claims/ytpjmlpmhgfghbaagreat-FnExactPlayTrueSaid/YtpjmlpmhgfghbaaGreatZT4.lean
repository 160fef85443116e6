/- A part of the proof: what the last text of the claim says leans on this one. -/
import Derived.Test.YtpjmlpmhgfghbaaGreatZT3
set_option linter.unusedVariables false
set_option linter.unusedSimpArgs false
/- The statements' marks written, and held: engines. -/
namespace Go.Proofs.YtpjmlpmhgfghbaaGreat
open Go.RowKit Go.Proofs.YtpjmlpmhgfghbaaGreatW.PrintWords Go.Proofs.YtpjmlpmhgfghbaaGreatW.PrintLast Go.Proofs.YtpjmlpmhgfghbaaGreatW.PrintMore
/-- An engine of the call's own, and which blocks are its. -/
structure FC (w : World) (b : Nat) (ok : Nat → Prop) (vd vm vl : Value) (e : Eng) : Prop where
  ex : ∃ okd okm : Nat → Prop,(∀ k,okd k → okm k → False) ∧ (∀ k,okd k → ok k) ∧ (∀ k,okm k → ok k) ∧ OwnPk w b okd vd e.disk ∧ OwnPk w b okm vm e.mem
  l : OwnRs w b vl e.log
  lk : ∀ k,vl.ownBlock = some k → ok k
section
variable {w w1 : World} {b : Nat} {ok : Nat → Prop} {vd vm vl : Value} {e : Eng}
theorem FC.E (h : FC w b ok vd vm vl e) : AU w b vd vm vl e:=by
  obtain ⟨okd,okm,h1, -, -,h4,h5⟩:=h.ex
  exact ⟨⟨okd,okm,h1,h4,h5⟩,h.l⟩
theorem AU.toK (h : AU w b vd vm vl e) : FC w b (fun k => b ≤ k ∧ k < w.heap.size) vd vm vl e:=by
  obtain ⟨⟨okd,okm,h1,h2,h3⟩,h4⟩:=h
  exact ⟨⟨fun k => okd k ∧ (b ≤ k ∧ k < w.heap.size),fun k => okm k ∧ (b ≤ k ∧ k < w.heap.size),fun k ha hb => h1 k ha.1 hb.1,fun k hk => hk.2,fun k hk => hk.2,Kd.DN (Kd.Fv h2) (fun k hk => ⟨hk.1,hk.2.1,hk.2.2.1⟩),Kd.DN (Kd.Fv h3) (fun k hk => ⟨hk.1,hk.2.1,hk.2.2.1⟩)⟩,h4,fun k hk => ⟨Kd.SG h4 k hk,Kd.UL h4 k hk⟩⟩
theorem FC.kept {S : Nat → Prop} (h : FC w b ok vd vm vl e) (hk : Kept w w1 S) (hne : ∀ k,ok k → ¬ S k) : FC w1 b ok vd vm vl e:=by
  obtain ⟨⟨okd,okm,h1,h2,h3,h4,h5⟩,hl,hlk⟩:=h
  exact ⟨⟨okd,okm,h1,h2,h3,Kd.Q6 h4 hk (fun k hx => hne k (h2 k hx)),Kd.Q6 h5 hk (fun k hx => hne k (h3 k hx))⟩,Kd.Eh (Kd.SF (Kd.Q8 rfl hl) hk (fun k hx => hne k (hlk k hx.symm))) (fun _ _ => trivial),hlk⟩
theorem FC.below (h : FC w b ok vd vm vl e) (hb : Below w.heap.size w w1) : FC w1 b ok vd vm vl e:=h.kept (S:=fun _ => False) (Kept.of_below hb _) (fun _ _ h => h)
theorem FC.lower {b' : Nat} (h : FC w b ok vd vm vl e) (hb : b' ≤ b) : FC w b' ok vd vm vl e:=by
  obtain ⟨⟨okd,okm,h1,h2,h3,h4,h5⟩,hl,hlk⟩:=h
  exact ⟨⟨okd,okm,h1,h2,h3,Kd.EQ h4 hb,Kd.EQ h5 hb⟩,Kd.Gu hl hb,hlk⟩
theorem FC.mono {ok' : Nat → Prop} (h : FC w b ok vd vm vl e) (hok : ∀ k,ok k → ok' k) : FC w b ok' vd vm vl e:=by
  obtain ⟨⟨okd,okm,h1,h2,h3,h4,h5⟩,hl,hlk⟩:=h
  exact ⟨⟨okd,okm,h1,fun k hk => hok k (h2 k hk),fun k hk => hok k (h3 k hk),h4,h5⟩,hl,fun k hk => hok k (hlk k hk)⟩
/-- Its reading facts. -/
theorem FC.C {A B C : Option Addr} {n m l a b' c : Nat} (h : FC w b ok (.slice A n a) (.slice B m b') (.slice C l c) e) : DY w e A B C:=by
  obtain ⟨A',a',B',b2,C',c',h1,h2,h3, -,hc⟩:=h.E.reads
  injection h1 with h1
  injection h2 with h2
  injection h3 with h3
  subst h1 h2 h3
  exact hc
/-- Its reading facts, at a world in which its blocks are as they were. -/
theorem DY.kept {Ad Am Al : Option Addr} {cd cm cl : Nat} {S : Nat → Prop} (h : FC w b ok (.slice Ad e.disk.length cd) (.slice Am e.mem.length cm) (.slice Al e.log.length cl) e) (hk : Kept w w1 S) (hne : ∀ k,ok k → ¬ S k) : DY w1 e Ad Am Al:=by
  obtain ⟨A,a,B,b',C,c,h1,h2,h3, -,hc⟩:=(h.kept hk hne).E.reads
  injection h1 with h1
  injection h2 with h2
  injection h3 with h3
  subst h1 h2 h3
  exact hc
end
end Go.Proofs.YtpjmlpmhgfghbaaGreat
/- When a step of an undoing can be made: of any engine that is ok, and rises; of one that plays made; in plain Lean. -/
namespace Go.Proofs.YtpjmlpmhgfghbaaGreat
/-- May a record be applied to a page? -/
def Fa (P : Page) (r : Rec) (n : Int) : Bool:=Bt P && (CS r && (Cx r.kind && (decide (P.lsn < n) && (decide (n ≤ 150) && Bt (doR P r n)))))
structure IY (e : Eng) (tx : Int) : Prop where
  log : AP e.log = true
  geo : geo e.mem
  t1 : 1 ≤ tx
  t3 : tx ≤ 3
  WB : e.log.length + 1 ≤ 150
  may : Cx (CO e tx).kind = true → Fa (pg e.mem (CO e tx).page.toNat) (CO e tx) (e.log.length + 1 : Nat) = true
  log' : AP (e.log ++ [CO e tx]) = true
  room : e.log.length + 1 + Bp (e.log ++ [CO e tx]) (e.log.length + 1) ≤ 150
/-- Pages that part in their records' numbers alone. -/
structure Sim (ps qs : List Page) : Prop where
  l : ps.length = 5
  l' : qs.length = 5
  lsn : ∀ p,p < 5 → 0 ≤ (pg qs p).lsn ∧ (pg qs p).lsn ≤ 150
  owner : ∀ p,p < 5 → (pg qs p).owner = (pg ps p).owner
  vals : ∀ p,p < 5 → (pg qs p).vals = (pg ps p).vals
theorem U9 {P Q : Page} (r : Rec) (ho : Q.owner = P.owner) (hv : Q.vals = P.vals) : (AZ Q r).owner = (AZ P r).owner ∧ (AZ Q r).vals = (AZ P r).vals:=by
  unfold AZ
  split
  · exact ⟨ho,by simp only;rw [hv]⟩
  · split
    · exact ⟨rfl,rfl⟩
    · exact ⟨rfl,hv⟩
theorem LV {l : List Rec} : ∀ {ms : List Nat} {ps qs : List Page},(∀ m ∈ ms,0 ≤ (rc l (m - 1)).page ∧ (rc l (m - 1)).page < 5) → Sim ps qs → F3 l ps ms = true → F3 l qs ms = true
  | [],_,_,_,_,_ => rfl
  | m :: ms,ps,qs,hm,hs,h => by
    have h5:=hm m (by simp)
    rw [F3,Bool.and_eq_true] at h ⊢
    have hp : (rc l (m - 1)).page.toNat < 5:=by omega
    have hw:=U9 (Bj (rc l (m - 1)) 0) (hs.owner _ hp) (hs.vals _ hp)
    have hl:=hs.lsn _ hp
    refine ⟨?_,LV (fun x hx => hm x (by simp [hx])) ⟨by simpa using hs.l,by simpa using hs.l',fun p hp5 => ?_,fun p hp5 => ?_,fun p hp5 => ?_⟩ h.2⟩
    · have h1:=GJ (k:=(pg qs (rc l (m - 1)).page.toNat).lsn) h.1 hl.1 hl.2
      rw [← hw.1, ← hw.2] at h1
      rw [← JK (pg qs (rc l (m - 1)).page.toNat) (Bj (rc l (m - 1)) 0)] at h1
      exact h1
    · rw [Fb (by rw [hs.l'];exact hp)]
      split
      · rw [JK];exact hl
      · exact hs.lsn p hp5
    · rw [Fb (by rw [hs.l'];exact hp),Fb (by rw [hs.l];exact hp)]
      split
      · exact hw.1
      · exact hs.owner p hp5
    · rw [Fb (by rw [hs.l'];exact hp),Fb (by rw [hs.l];exact hp)]
      split
      · exact hw.2
      · exact hs.vals p hp5
theorem Jg {l l' : List Rec} {n : Nat} (h : Agree l l' n) : ∀ {ms : List Nat} {ps : List Page},(∀ m ∈ ms,0 < m ∧ m ≤ n) → F3 l ps ms = F3 l' ps ms
  | [],_,_ => rfl
  | m :: ms,ps,hm => by
    have:=hm m (by simp)
    rw [F3,F3,h (m - 1) (by omega),Jg h (fun x hx => hm x (by simp [hx]))]
/-- What holds while an engine is undone, these being still to be undone. -/
structure PY (e : Eng) (ms : List Nat) : Prop where
  log : AP e.log = true
  mem : GZ e.mem = true
  lsn : ∀ p,p < 5 → (pg e.mem p).lsn ≤ e.log.length
  und : F3 e.log e.mem ms = true
  room : e.log.length + Bp e.log e.log.length ≤ 150
theorem PY.one {e : Eng} {ms : List Nat} (h : PY e ms) {tx : Int} (ht : tx = 1 ∨ tx = 2 ∨ tx = 3) (hlast : lastT e tx ≠ 0) : e.log.length + 1 ≤ 150:=by
  have h1:=h.room
  have h3 : cst e.log tx e.log.length ≥ 1:=by rw [cst,if_neg hlast];omega
  have h4 : cst e.log tx e.log.length ≤ Bp e.log e.log.length:=by
    rw [Bp]
    rcases ht with rfl | rfl | rfl <;> omega
  omega
theorem PY.FJ {e : Eng} {tx : Int} {rest : List Nat} (h : PY e (U e.log tx e.log.length ++ rest)) (ht : tx = 1 ∨ tx = 2 ∨ tx = 3) (hlast : lastT e tx ≠ 0) : IY e tx:=by
  have h1:=h.one ht hlast
  have hk:=Et (e:=e) h.log tx
  have hl':=hk.log h.log (by omega) h1
  have hn:=hk.need h.log ht h1 hlast
  have hr:=h.room
  refine ⟨h.log,Aw h.mem,by omega,by omega,h1,fun hc => ?_,hl',by omega⟩
  have hok:=hk.ok h.log (by omega)
  have hund:=h.und
  have hmem:=CF.1 h.mem
  have hls:=h.lsn
  generalize CO e tx = r at hk hok hc ⊢
  cases hk with
  | fin hU => simp [Cx] at hc
  | Jh m ms hU h0 hm hkk htx =>
    have hrec:=H7 h.log h0 hm hkk
    rw [hU,List.cons_append,F3,Bool.and_eq_true] at hund
    have hp : (rc e.log (m - 1)).page.toNat < 5:=by omega
    have hl5:=hls _ hp
    simp only [Fa,Bool.and_eq_true,decide_eq_true_eq]
    refine ⟨hmem.2 _ hp,hok,hc,?_,by omega,?_⟩
    · show (pg e.mem (rc e.log (m - 1)).page.toNat).lsn < ((e.log.length + 1 : Nat) : Int)
      omega
    · rw [Ey]
      exact GJ hund.1 (by omega) (by omega)
theorem PY.step {e : Eng} {tx : Int} {rest : List Nat} (h : PY e (U e.log tx e.log.length ++ rest)) (ht : tx = 1 ∨ tx = 2 ∨ tx = 3) (hlast : lastT e tx ≠ 0) (hrest : ∀ m ∈ rest,0 < m ∧ m ≤ e.log.length ∧ 0 ≤ (rc e.log (m - 1)).page ∧ (rc e.log (m - 1)).page < 5) : PY (Bg e tx) ((U e.log tx e.log.length).tail ++ rest):=by
  have h1:=h.one ht hlast
  have hk:=Et (e:=e) h.log tx
  have hl':=hk.log h.log (by omega) h1
  have hn:=hk.need h.log ht h1 hlast
  have hr:=h.room
  have hmem:=CF.1 h.mem
  have hso:=h.FJ ht hlast
  have hM:=fun p => JZ hmem.1 (I4 h.log tx) p
  have hA:=Co e.log [CO e tx]
  have hLl : (Bg e tx).log = e.log ++ [CO e tx]:=rfl
  have hM : ∀ p : Nat,pg (Bg e tx).mem p = if Cx (CO e tx).kind = true ∧ (CO e tx).page = (p : Int) then doR (pg e.mem p) (CO e tx) (e.log.length + 1 : Nat) else pg e.mem p:=hM
  have hml : (Bg e tx).mem.length = 5:=by unfold Bg;rw [LH];exact hmem.1
  have hUr : ∀ m ∈ U e.log tx e.log.length,0 < m ∧ m ≤ e.log.length ∧ 0 ≤ (rc e.log (m - 1)).page ∧ (rc e.log (m - 1)).page < 5:=fun m hm => by
    have h2:=MZ hm
    have h3:=H7 h.log h2.1 h2.2 (PZ h.log (Nat.le_refl _) hm)
    exact ⟨h2.1,h2.2,h3.2.1,h3.2.2.1⟩
  have hpage : ∀ p : Nat,p < 5 → Bt (pg (Bg e tx).mem p) = true:=fun p hp => by
    rw [hM p]
    split
    · rename_i hc
      have:=hso.may hc.1
      simp only [Fa,Bool.and_eq_true,decide_eq_true_eq] at this
      rw [show (CO e tx).page.toNat = p by omega] at this
      exact this.2.2.2.2.2
    · exact hmem.2 p hp
  refine ⟨by rw [hLl];exact hl',CF.2 ⟨hml,hpage⟩,fun p hp => ?_,?_,by rw [hLl];simp only [List.length_append,List.length_singleton];omega⟩
  · rw [hM p,hLl]
    simp only [List.length_append,List.length_singleton]
    split
    · exact Int.le_refl _
    · have:=h.lsn p hp;omega
  · have hund:=h.und
    rw [hLl]
    generalize CO e tx = r at hk hl' hn hA hM
    cases hk with
    | fin hU =>
      rw [hU,List.nil_append] at hund
      rw [hU,List.tail_nil,List.nil_append,Jg hA (fun m hm => by have:=hrest m hm;omega)]
      refine LV (fun m hm => (hrest m hm).2.2) ⟨hmem.1,hml,fun p hp => ?_,fun p hp => ?_,fun p hp => ?_⟩ hund
      · have:=Ci.1 (hpage p hp);exact ⟨this.1,this.2.1⟩
      · rw [hM p,if_neg (fun hc => by simp [Cx] at hc)]
      · rw [hM p,if_neg (fun hc => by simp [Cx] at hc)]
    | Jh m ms hU h0 hm hkk htx =>
      rw [hU,List.cons_append,F3,Bool.and_eq_true] at hund
      rw [hU] at hUr
      have hmr:=hUr m (by simp)
      have hmp : (rc e.log (m - 1)).page.toNat < 5:=by omega
      rw [hU,List.tail_cons,Jg hA (fun x hx => by
        rcases List.mem_append.1 hx with hx | hx
        · have:=hUr x (by simp [hx]);omega
        · have:=hrest x hx;omega)]
      refine LV (fun x hx => ?_) ⟨by simpa using hmem.1,hml,fun p hp => ?_,fun p hp => ?_,fun p hp => ?_⟩ hund.2
      · rcases List.mem_append.1 hx with hx | hx
        · exact (hUr x (by simp [hx])).2.2
        · exact (hrest x hx).2.2
      · have:=Ci.1 (hpage p hp);exact ⟨this.1,this.2.1⟩
      · rw [hM p,Fb (by rw [hmem.1];exact hmp)]
        by_cases e1 : (rc e.log (m - 1)).page.toNat = p
        · rw [if_pos ⟨rfl,by show (rc e.log (m - 1)).page = _;omega⟩,if_pos e1, ← e1];rfl
        · rw [if_neg (fun hc => e1 (by have h2 : (rc e.log (m - 1)).page = (p : Int):=hc.2;omega)),if_neg e1]
      · rw [hM p,Fb (by rw [hmem.1];exact hmp)]
        by_cases e1 : (rc e.log (m - 1)).page.toNat = p
        · rw [if_pos ⟨rfl,by show (rc e.log (m - 1)).page = _;omega⟩,if_pos e1, ← e1];rfl
        · rw [if_neg (fun hc => e1 (by have h2 : (rc e.log (m - 1)).page = (p : Int):=hc.2;omega)),if_neg e1]
theorem Iy (l : List Rec) : Ht l 3 = U l 1 l.length ++ (U l 2 l.length ++ U l 3 l.length):=by
  have e1 : (3 - ((2 : Nat) : Int)) = 1:=rfl
  have e2 : (3 - ((1 : Nat) : Int)) = 2:=rfl
  have e3 : (3 - ((0 : Nat) : Int)) = 3:=rfl
  rw [Ht,Ht,Ht,Ht,e1,e2,e3,List.append_nil]
  rfl
/-- What holds while an engine rises, whatever made it. -/
def EY (e : Eng) : Prop:=PY e (Ht e.log 3)
theorem JQ {e : Eng} {t : Int} (h : lastT e t = 0) : U e.log t e.log.length = []:=by rw [U,show Aj e.log t e.log.length = 0 from h,D5]
theorem EY.step {e : Eng} (h : EY e) (h0 : AO e ≠ 0) : IY e (AO e) ∧ EY (Bg e (AO e)) ∧ Bp (Bg e (AO e)).log (Bg e (AO e)).log.length + 1 = Bp e.log e.log.length:=by
  obtain ⟨ht,hlast⟩:=Hl h0
  have hlt:=h
  unfold EY at h ⊢
  obtain ⟨rest,hrest,hr2,hr3⟩ : ∃ rest,Ht e.log 3 = U e.log (AO e) e.log.length ++ rest ∧ (∀ m ∈ rest, ∃ t,m ∈ U e.log t e.log.length) ∧ ∀ l' : List Rec,(∀ t,t ≠ AO e → U l' t l'.length = U e.log t e.log.length) → Ht l' 3 = U l' (AO e) l'.length ++ rest:=by
    rw [Iy]
    by_cases h1 : lastT e 1 = 0
    · by_cases h2 : lastT e 2 = 0
      · by_cases h3 : lastT e 3 = 0
        · exact absurd (show AO e = 0 by unfold AO;rw [if_neg (by simpa using h1),if_neg (by simpa using h2),if_neg (by simpa using h3)]) h0
        · have hf : AO e = 3:=by unfold AO;rw [if_neg (by simpa using h1),if_neg (by simpa using h2),if_pos h3]
          rw [hf,JQ h1,JQ h2]
          refine ⟨[],by simp,fun m hm => (by cases hm),fun l' hl => ?_⟩
          rw [Iy,hl 1 (by decide),hl 2 (by decide),JQ h1,JQ h2];simp
      · have hf : AO e = 2:=by unfold AO;rw [if_neg (by simpa using h1),if_pos h2]
        rw [hf,JQ h1]
        refine ⟨U e.log 3 e.log.length,by simp,fun m hm => ⟨3,hm⟩,fun l' hl => ?_⟩
        rw [Iy,hl 1 (by decide),hl 3 (by decide),JQ h1];simp
    · have hf : AO e = 1:=by unfold AO;rw [if_pos h1]
      rw [hf]
      refine ⟨U e.log 2 e.log.length ++ U e.log 3 e.log.length,rfl,fun m hm => ?_,fun l' hl => ?_⟩
      · rcases List.mem_append.1 hm with hm | hm
        · exact ⟨2,hm⟩
        · exact ⟨3,hm⟩
      · rw [Iy,hl 2 (by decide),hl 3 (by decide)]
  rw [hrest] at h
  have h1:=h.one ht hlast
  have hk:=Et (e:=e) h.log (AO e)
  have hn:=hk.next h.log (by omega) h1
  have hd:=hk.need h.log ht h1 hlast
  have hlen : (Bg e (AO e)).log.length = e.log.length + 1:=I5 _ _
  have hLl : (Bg e (AO e)).log = e.log ++ [CO e (AO e)]:=rfl
  refine ⟨h.FJ ht hlast,?_,by rw [hlen,hLl];exact hd⟩
  rw [hr3 (Bg e (AO e)).log (fun t hne => by rw [hlen,hLl];exact (hn.2.1 t hne).1)]
  rw [show U (Bg e (AO e)).log (AO e) (Bg e (AO e)).log.length = (U e.log (AO e) e.log.length).tail by rw [hlen,hLl];exact hn.1]
  refine h.step ht hlast fun m hm => ?_
  obtain ⟨t,hmt⟩:=hr2 m hm
  have h2:=MZ hmt
  have h3:=H7 h.log h2.1 h2.2 (PZ h.log (Nat.le_refl _) hmt)
  exact ⟨h2.1,h2.2,h3.2.1,h3.2.2.1⟩
/-- What is known of an engine that is ok. -/
structure OkF (e : Eng) : Prop where
  disk : GZ e.disk = true
  mem : GZ e.mem = true
  log : AP e.log = true
  s0 : 0 ≤ e.safe
  s1 : e.safe ≤ e.log.length
  fits : Im e.log = true
  pref : ∀ n : Nat,e.safe ≤ n → n ≤ e.log.length → Kh e n = true
  page : ∀ p,p < 5 → Js e p = true
theorem Fe {e : Eng} : eOk e = true ↔ OkF e:=by
  simp only [eOk,Bool.and_eq_true,Dj,KD,List.all_eq_true,List.mem_range]
  constructor
  · rintro ⟨h1,h2,h3,⟨h4,h5⟩,h6,h7,h8⟩
    exact ⟨h1,h2,h3,h4,h5,h6,fun n ha hb => h7 n (by omega) (by omega),h8⟩
  · rintro ⟨h1,h2,h3,h4,h5,h6,h7,h8⟩
    exact ⟨h1,h2,h3,⟨h4,h5⟩,h6,fun n ha hb => h7 n (by omega) (by omega),h8⟩
theorem OkF.LD {e : Eng} (h : OkF e) {p : Nat} (hp : p < 5) : (pg e.disk p).lsn ≤ e.safe:=by
  have:=h.page p hp
  simp only [Js,Bool.and_eq_true,decide_eq_true_eq] at this
  exact this.1.2
theorem OkF.rise {e : Eng} (h : OkF e) : EY { e with mem:=Ck e.disk e.log e.log.length }:=by
  have hp:=h.pref e.log.length h.s1 (Nat.le_refl _)
  have hd:=CF.1 h.disk
  rw [Kh,List.take_length,Bool.and_eq_true,Iw,Ji] at hp
  have hf:=h.fits
  rw [Im,Nj,decide_eq_true_eq] at hf
  refine ⟨h.log,hp.1,fun p hp5 => ?_,hp.2,hf⟩
  show (pg (Ck e.disk e.log e.log.length) p).lsn ≤ (e.log.length : Int)
  rw [Lb hd.1 (fun k hk => (AA h.log hk).ok) p _ (Nat.le_refl _)]
  have h1:=M5 (P:=pg e.disk p) (l:=e.log) (p:=p) e.log.length
  have h2:=h.LD hp5
  have h3:=h.s1
  omega
/-- k steps undo tx. -/
def MX (tx : Int) : Nat → Eng → Prop
  | 0,e => lastT e tx = 0 ∧ AP e.log = true
  | k + 1,e => lastT e tx ≠ 0 ∧ IY e tx ∧ MX tx k (Bg e tx)
theorem Eg.FJ {e : Eng} {C : Nat → Page} {B : Nat} {tx : Int} (h : Eg e C B tx) (ht : tx = 1 ∨ tx = 2 ∨ tx = 3) (hlast : lastT e tx ≠ 0) : IY e tx:=by
  have h1:=h.core.one ht hlast
  have hk:=Et (e:=e) h.core.log tx
  have hl':=hk.log h.core.log (by omega) h1
  have hn:=hk.need h.core.log ht h1 hlast
  have hr:=h.core.room e.log.length (Nat.le_refl _)
  have hb:=h.core.b150
  have hs:=fun p hp => (h.step ht hlast).upm p hp
  have hps : GZ e.mem = true:=CF.2 ⟨h.mlen,fun p hp => (h.upm p hp).ok⟩
  refine ⟨h.core.log,Aw hps,by omega,by omega,h1,fun hc => ?_,hl',by omega⟩
  have hok:=hk.ok h.core.log (by omega)
  have hpg:=I4 h.core.log tx hc
  have hpn : (Dv e tx).page.toNat < 5:=by omega
  have hmem:=JZ h.mlen (I4 h.core.log tx) (Dv e tx).page.toNat
  rw [if_pos ⟨hc,by omega⟩] at hmem
  have hs1:=(hs _ hpn).ok
  rw [show pg (Bg e tx).mem (Dv e tx).page.toNat = _ from hmem] at hs1
  have hl:=(h.upm _ hpn).lsn
  simp only [Fa,Bool.and_eq_true,decide_eq_true_eq]
  refine ⟨(h.upm _ hpn).ok,hok,hc,?_,by omega,hs1⟩
  show (pg e.mem (Dv e tx).page.toNat).lsn < ((e.log.length + 1 : Nat) : Int)
  omega
theorem Eg.UU {C : Nat → Page} {B : Nat} {tx : Int} (ht : tx = 1 ∨ tx = 2 ∨ tx = 3) : ∀ (k : Nat) (e : Eng),Eg e C B tx → lastT e tx ≠ 0 → (U e.log tx e.log.length).length = k → MX tx (k + 1) e
  | 0,e,h,hlast,hk => by
    have hs:=h.core.Qp ht hlast
    have h0:=List.eq_nil_of_length_eq_zero hk
    refine ⟨hlast,h.FJ ht hlast,?_,(h.step ht hlast).core.log⟩
    show lastT (Bg e tx) tx = 0
    rw [hs.2.2.1,if_pos h0]
  | k + 1,e,h,hlast,hk => by
    have hs:=h.core.Qp ht hlast
    have hne : U e.log tx e.log.length ≠ []:=fun h0 => by rw [h0] at hk;cases hk
    exact ⟨hlast,h.FJ ht hlast,Eg.UU ht k (Bg e tx) (h.step ht hlast) (by rw [hs.2.2.1,if_neg hne];omega) (by rw [hs.1,List.length_tail,hk];omega)⟩
open Go.RowKit Go.Proofs.YtpjmlpmhgfghbaaGreatW.PrintWords Go.Proofs.YtpjmlpmhgfghbaaGreatW.PrintLast Go.Proofs.YtpjmlpmhgfghbaaGreatW.PrintMore
/-- A call that hands back a page of its own, and a yes. -/
def X5 (w : World) (p : Page) (x : Ending) (w' : World) : Prop := ∃ v,x = .returned (.tuple #[p.own v, .bool true]) ∧ AV w' w.heap.size v p.vals ∧ Below w.heap.size w w'
set_option maxRecDepth 100000 in
set_option maxHeartbeats 8000000 in
theorem Rs {w0 w : World} {A : Option Addr} {c : Nat} {p : Page} {r : Rec} {n : Int} (hv : Fa p r n = true) (hb : Below w0.heap.size w0 w) (hr : Kd.C (Kd.int .i64) w0 A p.vals.length p.vals) : Calls Tryz.prog 166 #[p.val A c,r.val, .int .i64 n] w (X5 w (doR p r n)):=by
  have HR:=As (Bu hr hb)
  simp only [Fa,Bool.and_eq_true,decide_eq_true_eq] at hv
  obtain ⟨v1,v2,v3,v4,v5,v6⟩:=hv
  have HV1:=As v1
  have HV2:=As v2
  have HV3:=As v3
  have HV6:=As v6
  have hp3:=(Ci.1 v1).2.2.2.2.1
  have HP3L:=As hp3
  have hslot:=(GU v2 v3)
  have HSL:=As (show r.slot < p.vals.length by rw [hp3];omega)
  clear hr hb v1 v2 v3 v6 hp3 hslot
  obtain ⟨W1,hW1⟩ : ∃ W1,w.alloc (p.box A c) = W1:=⟨_,rfl⟩
  obtain ⟨W2,hW2⟩ : ∃ W2,W1.alloc r.box = W2:=⟨_,rfl⟩
  obtain ⟨W3,hW3⟩ : ∃ W3,W2.alloc Cw = W3:=⟨_,rfl⟩
  have Z1 : W1.heap.size = w.heap.size + 1:=by rw [← hW1,BF]
  have Z2 : W2.heap.size = w.heap.size + 2:=by rw [← hW2,BF,Z1]
  have Z3 : W3.heap.size = w.heap.size + 3:=by rw [← hW3,BF,Z2]
  have hR3 : FZ W3 ⟨w.heap.size + 1,0,none⟩ r:=by
    have:=Gh W1 r
    rw [Z1,hW2] at this
    rw [← hW3]
    exact this.up (Ah (Below.refl _ _) _)
  have hP3 : AR W3 (w.heap.size + 2) zp (.slice none 0 0):=by
    have:=AR.mk1 W2 zp (.slice none 0 0)
    rw [Z2] at this
    rw [← hW3]
    exact this
  have hA3 : AR W3 w.heap.size p (.slice A p.vals.length c):=by
    rw [← hW3, ← hW2, ← hW1]
    exact (AR.mk1 w p _).up (Ah (Ah (Below.refl _ _) _) _)
  have hB3 : Below w.heap.size w W3:=by
    rw [← hW3, ← hW2, ← hW1]
    exact Ah (Ah (Ah (Below.refl _ _) _) _) _
  have HW3 : Ac (((w.alloc (p.box A c)).alloc r.box).alloc Cw = W3):=⟨by rw [hW1,hW2,hW3]⟩
  have HR3:=As hR3
  have HP3:=As hP3
  have HA3:=As hA3
  have HB3:=As hB3
  have HZ3:=As Z3
  clear hW1 hW2 hW3 Z1 Z2 Z3 hR3 hP3 hA3 hB3
  go_enter Tryz.func166,Tryz.ntmps166
  go_wp2_with (first | (go_at_call 131;rw [HW3.out];refine (Dx (c:=c) HV1.out HB3.out HR.out).mono ?_;rintro x w4 ⟨rfl,hb4⟩;have HB4:=As hb4;obtain ⟨-,z1,z2,z3,z4,z5,z6,z7⟩:=HR3.out.up hb4;have z0:=(HR3.out.up hb4).c0;simp only [Nat.zero_add] at z1 z2 z3 z4 z5 z6 z7;have a0:=(HA3.out.up hb4).c0;have a1:=(HA3.out.up hb4).c1;have a2:=(HA3.out.up hb4).c2;clear hb4) | (go_at_call 132;refine (Es HV2.out _).mono ?_;rintro x w5 ⟨rfl,hb5⟩;have HB5:=As (bj HB4.out hb5);replace z0:=bc hb5 z0;replace z1:=bc hb5 z1;replace z2:=bc hb5 z2;replace z3:=bc hb5 z3;replace z4:=bc hb5 z4;replace z5:=bc hb5 z5;replace z6:=bc hb5 z6;replace z7:=bc hb5 z7;replace a0:=bc hb5 a0;replace a1:=bc hb5 a1;replace a2:=bc hb5 a2;clear hb5) | (go_at_call 105;refine (EX HV3.out _).mono ?_;rintro x w6 ⟨rfl,hb6⟩;have HB6:=As (bj HB5.out hb6);replace z0:=bc hb6 z0;replace z1:=bc hb6 z1;replace z2:=bc hb6 z2;replace z3:=bc hb6 z3;replace z4:=bc hb6 z4;replace z5:=bc hb6 z5;replace z6:=bc hb6 z6;replace z7:=bc hb6 z7;replace a0:=bc hb6 a0;replace a1:=bc hb6 a1;replace a2:=bc hb6 a2;clear hb6) | (go_at_call 106;refine (Ku (w0:=w) r (by rw [HP3L.out];decide) HSL.out (bj HB3.out HB6.out) HR.out).mono ?_;rintro x w7 ⟨v,rfl,ho,hb7⟩;obtain ⟨A1,c1,rfl, -,hC⟩:=ho.reads;have HC7:=As hC;have HO:=As ho;have HB7:=As (bj HB6.out hb7);have HN7:=As hb7.size;clear ho hb7 hC) | (go_at_call 131;obtain ⟨w8,hw8⟩ : ∃ w8,w7.alloc (.cells #[.int .i64 n, .int .i64 (AZ p r).owner, .slice A1 (AZ p r).vals.length c1] 81) = w8:=⟨_,rfl⟩;have hx8 : Below w7.heap.size w7 w8:=(by rw [← hw8];exact Ah (Below.refl _ _) _);have hq8 : AR w8 w7.heap.size (doR p r n) (.slice A1 (AZ p r).vals.length c1):=(by rw [← hw8];exact AR.mk1 w7 (doR p r n) _);rw [hw8];refine (Dx (p:=doR p r n) (A:=A1) (c:=c1) HV6.out (Below.refl w8.heap.size w8) (Bu HC7.out hx8)).mono ?_;rintro x w9 ⟨rfl,hb9⟩;have q0:=(hq8.up hb9).c0;have q1:=(hq8.up hb9).c1;have q2:=(hq8.up hb9).c2;have HB9:=As (bj (bj HB7.out hx8) hb9);have HO9:=As (HO.out.below (bj hx8 hb9));have HP9:=As (HP3.out.up HB9.out);have y0:=HP9.out.c0;have y1:=HP9.out.c1;have y2:=HP9.out.c2;have f0:=HP9.out.frz 0;have f1:=HP9.out.frz 1;have f2:=HP9.out.frz 2;clear hw8 hx8 hq8 hb9))
  have hs6 : w.heap.size + 3 ≤ w6.heap.size:=by have:=HB6.out.size;have:=HZ3.out;omega
  have h1:=HO9.out.Cu (g:=w.heap.size + 2) (by omega) (doR p r n) (.slice A1 (AZ p r).vals.length c1)
  have h2:=Cr (g:=w.heap.size + 2) (bj HB3.out HB9.out) (by omega) (doR p r n) (.slice A1 (AZ p r).vals.length c1)
  have hy:=HP9.out.Cu (doR p r n) (.slice A1 (AZ p r).vals.length c1)
  have z0:=hy.c0
  have z1:=hy.c1
  have z2:=hy.c2
  exact bodyPost_ret (v:=.tuple #[(doR p r n).own (.slice A1 (AZ p r).vals.length c1), .bool true]) (by simp [results,Tryz.results166,go_sem,z0,z1,z2]) rfl ⟨_,rfl,h1.lower (by omega),h2⟩
theorem T9 {l : List Rec} (hl : AP l = true) (n : Nat) : ∀ k,k < (l.take n).length → CS (rc (l.take n) k) = true:=fun k hk => (AA (KF hl n) hk).ok
set_option maxRecDepth 100000 in
set_option maxHeartbeats 4000000 in
theorem I8 {w0 w : World} {e : Eng} {Ad Am Al : Option Addr} {cd cm cl : Nat} {b : Bool} (hv : Hu e (e.log.length + 1 - e.safe.toNat) e.safe.toNat = b) (hs0 : 0 ≤ e.safe) (hs1 : e.safe ≤ e.log.length) (hg : geo e.disk) (hl : AP e.log = true) (hcl : e.log.length ≤ cl) (hb : Below w0.heap.size w0 w) (hr : DY w0 e Ad Am Al) : Calls Tryz.prog 79 #[e.val Ad Am Al cd cm cl] w fun x w' => x = .returned (.bool b) ∧ Below w.heap.size w w':=by
  have HR:=As (hr.up hb)
  have HG:=As hg
  have HL:=As hl
  have HV:=As hv
  have hm:=Be hl
  obtain ⟨s,hs⟩ : ∃ s : Nat,e.safe = s:=⟨e.safe.toNat,by omega⟩
  have HS:=As hs
  have hs2 : s ≤ e.log.length:=by omega
  clear hr hb hg hl hv hs0 hs1 hs
  obtain ⟨w1,hw1⟩ : ∃ w1,w.alloc (e.obox (.slice Ad e.disk.length cd) (.slice Am e.mem.length cm) (.slice Al e.log.length cl)) = w1:=⟨_,rfl⟩
  have HW1:=As hw1
  have HB1 : Ac (Below w.heap.size w w1):=⟨by rw [← hw1];exact Ah (Below.refl _ _) _⟩
  have HQ1 : Ac (Ai w1 w.heap.size e (.slice Ad e.disk.length cd) (.slice Am e.mem.length cm) (.slice Al e.log.length cl)):=⟨by rw [← hw1];exact Ai.mk1 _ _ _ _ _⟩
  clear hw1
  go_enter Tryz.func79,Tryz.ntmps79
  go_wp2
  rw [HW1.out]
  go_loopw [3] (fun i wr => ∃ n : Nat,s ≤ n ∧ n ≤ e.log.length + 1 ∧ i = .int .i64 (n : Int) ∧ Ac (Hu e (e.log.length + 1 - n) n = b) ∧ Ac (Below w1.heap.size w1 wr)) (fun i _ => (e.log.length + 1 - intOf i).toNat)
  case atStart => exact ⟨s,Nat.le_refl _,by omega,by rw [HS.out],⟨by have:=HV.out;rw [HS.out] at this;exact this⟩,⟨Below.refl _ _⟩⟩
  case round =>
    obtain ⟨n,hn1,hn2,rfl,HK,HW⟩:=hrel
    have HWW:=As (bj HB1.out HW.out)
    have HQ:=As (HQ1.out.up HW.out)
    have x0:=HQ.out.c0
    have x2:=HQ.out.c2
    by_cases hlt : n ≤ e.log.length
    · have hl : (e.log.take n).length = n:=by rw [List.length_take];omega
      obtain ⟨ps,hps⟩ : ∃ ps,Ck e.disk (e.log.take n) (e.log.take n).length = ps:=⟨_,rfl⟩
      obtain ⟨ok,hok⟩ : ∃ ok,GZ ps = ok:=⟨_,rfl⟩
      have hgeo : geo ps:=by rw [← hps];exact JE HG.out (T9 HL.out n) _ (Nat.le_refl _)
      have HGP:=As hgeo
      have HPS:=As (And.intro hps hok)
      have hcall : ∀ wx,Below wr.heap.size wr wx → Calls Tryz.prog 46 #[.slice Ad e.disk.length cd, .slice Al n cl] wx (X6 wx ps ok):=fun wx hb => by
        have h:=KC (c:=cd) (d:=cl) HG.out (T9 HL.out n) (by omega) hb (Bu HR.out.d HWW.out) (Pm (Bu HR.out.l HWW.out) hlt)
        rw [hps,hok,hl] at h
        exact h
      have HLn:=As hl
      clear hps hok hl hgeo
      have hncl : n ≤ cl:=Nat.le_trans hlt hcl
      go_wp2
      refine AX (fun lx a wx => Below wr.heap.size wr wx ∧ Sl 6 22 (fun v wx => ∃ u,v = .tuple #[u, .bool ok] ∧ E9 wx wr.heap.size u ps) lx a wx) 12 rfl (by kernel_rfl) (⟨Ak (Below.refl _ _),Bc⟩) (fun HT => ?_)
      refine Ae (i:=0) (v:=?_) HT rfl (by kernel_rfl) rfl (kA Aa (Ab rfl rfl)) (by rfl) (fun _ _ _ h => h) (fun lx ax wx hS => ?_) ?_;rotate_left;(have hbx:=hS.1;clear hS;replace x0:=bc hbx x0;replace x2:=bc hbx x2;go_simp;with_reducible rfl);rotate_left;simp only [sc0,sc1]
      refine Ae (i:=1) (v:=?_) HT rfl (by kernel_rfl) rfl (kA Aa (Ab rfl rfl)) (by rfl) (fun _ _ _ h => h) (fun lx ax wx hS => ?_) ?_;rotate_left;(have hbx:=hS.1;clear hS;replace x0:=bc hbx x0;replace x2:=bc hbx x2;go_simp;with_reducible rfl);rotate_left;simp only [sc0,sc1]
      refine Ae (i:=2) (v:=?_) HT rfl (by kernel_rfl) rfl (kA Aa (Ab rfl rfl)) (by rfl) (fun _ _ _ h => h) (fun lx ax wx hS => ?_) ?_;rotate_left;(have hbx:=hS.1;clear hS;replace x0:=bc hbx x0;replace x2:=bc hbx x2;go_simp;with_reducible rfl);rotate_left;simp only [sc0,sc1]
      refine Ae (i:=3) (v:=?_) HT rfl (by kernel_rfl) rfl (kA Aa (Ab rfl rfl)) (by rfl) (fun _ _ _ h => h) (fun lx ax wx hS => ?_) ?_;rotate_left;(have hbx:=hS.1;clear hS;replace x0:=bc hbx x0;replace x2:=bc hbx x2;go_simp;with_reducible rfl);rotate_left;simp only [sc0,sc1]
      refine Ae (i:=4) (v:=?_) HT rfl (by kernel_rfl) rfl (kA Aa (Ab rfl rfl)) (by rfl) (fun _ _ _ h => h) (fun lx ax wx hS => ?_) ?_;rotate_left;(have hbx:=hS.1;clear hS;replace x0:=bc hbx x0;replace x2:=bc hbx x2;go_simp;with_reducible rfl);rotate_left;simp only [sc0,sc1]
      refine Ae (i:=5) (v:=?_) HT rfl (by kernel_rfl) rfl (kA Aa (Ab rfl rfl)) (by rfl) (fun _ _ _ h => h) (fun lx ax wx hS => ?_) ?_;rotate_left;(have hbx:=hS.1;clear hS;replace x0:=bc hbx x0;replace x2:=bc hbx x2;go_simp;with_reducible rfl);rotate_left;simp only [sc0,sc1]
      refine C9 (i:=6) (f:=46) (args:=#[.slice Ad e.disk.length cd, .slice Al n cl]) (fun v => ∃ u,v = .tuple #[u, .bool ok]) rfl (by kernel_rfl) rfl Tryz.func46 (by kernel_rfl) rfl rfl (by rfl) (by simp only [List.map_toArray,List.map_cons,List.map_nil];rfl) (fun wx hS => (hcall wx hS.1).mono (by rintro e w6 ⟨u,rfl,ho,hb⟩;exact ⟨_,rfl,⟨u,rfl⟩,bj hS.1 hb,fun _ => ⟨u,rfl,Kd.EQ ho hS.1.size⟩⟩)) (fun vx hg => ?_);simp only [sc0,sc1]
      obtain ⟨u,rfl⟩:=hg
      refine Ae (i:=7) (v:=?_) HT rfl (by kernel_rfl) rfl (kA Aa (Ab rfl rfl)) (by rfl) (fun _ _ _ h => h) (fun lx ax wx hS => ?_) ?_;rotate_left;(go_simp;with_reducible rfl);rotate_left;simp only [sc0,sc1]
      refine Ae (i:=8) (v:=?_) HT rfl (by kernel_rfl) rfl (kA Aa (Ab rfl rfl)) (by rfl) (fun _ _ _ h => h) (fun lx ax wx hS => ?_) ?_;rotate_left;(go_simp;with_reducible rfl);rotate_left;simp only [sc0,sc1]
      refine Ae (i:=9) (v:=?_) HT rfl (by kernel_rfl) rfl (kA Aa (Ab rfl rfl)) (by rfl) (fun _ _ _ h => h) (fun lx ax wx hS => ?_) ?_;rotate_left;(go_simp;with_reducible rfl);rotate_left;simp only [sc0,sc1]
      refine Ae (i:=10) (v:=?_) HT rfl (by kernel_rfl) rfl (kA Aa (Ab rfl rfl)) (by rfl) (fun _ _ _ h => h) (fun lx ax wx hS => ?_) ?_;rotate_left;(go_simp;with_reducible rfl);rotate_left;simp only [sc0,sc1]
      refine Ae (i:=11) (v:=?_) HT rfl (by kernel_rfl) rfl (kA Aa (Ab rfl rfl)) (by rfl) (fun _ _ _ h => h) (fun lx ax wx hS => ?_) ?_;rotate_left;(go_simp;with_reducible rfl);rotate_left;simp only [sc0,sc1]
      refine DV (by kernel_rfl) (fun wx hS => ?_)
      obtain ⟨h1,h2⟩:=hS
      obtain ⟨u1,hu1,hown⟩:=h2 (by kernel_rfl)
      have hu1 : Value.tuple #[u, .bool ok] = .tuple #[u1, .bool ok]:=hu1
      obtain rfl : u = u1:=by simpa using hu1
      obtain ⟨g,cap,rfl,hgb,hgl⟩:=Cb hown (by rw [HGP.out.1];omega)
      have HO:=As (Kd.S_R hown)
      have HX:=As h1
      rw [HGP.out.1] at HO ⊢
      replace x0:=bc h1 x0
      replace x2:=bc h1 x2
      clear h1 h2 hu1 hown hcall hgb hgl
      have HP:=As (show Hu e (e.log.length + 1 - n) n = (Kh e n && Hu e (e.log.length + 1 - (n + 1)) (n + 1)) by rw [show e.log.length + 1 - n = (e.log.length + 1 - (n + 1)) + 1 by omega,Hu])
      cases ok
      · go_wp2
        go_ret
        exact ⟨AB (by rw [← HK.out,HP.out,Kh,HPS.out.1,HPS.out.2];rfl),bj HWW.out HX.out⟩
      · obtain ⟨ub,hub⟩ : ∃ ub,Iw (e.log.take n) ps = ub:=⟨_,rfl⟩
        have hcall2 : Calls Tryz.prog 135 #[.slice (some ⟨g,0,none⟩) 5 cap, .slice Al n cl] wx fun x w' => x = .returned (.bool ub) ∧ Below wr.heap.size wr w':=by
          have h:=Pf (d:=cl) hub HGP.out (KF HL.out n) HO.out HX.out (Pm (Bu HR.out.l HWW.out) hlt)
          rw [HLn.out] at h
          exact h
        have HUB:=As hub
        clear hub
        cases ub
        · go_wp2_with (go_at_call 135;refine hcall2.mono ?_;rintro x w7 ⟨rfl,hb7⟩;have HB7:=As hb7;clear hb7)
          go_ret
          exact ⟨AB (by rw [← HK.out,HP.out,Kh,HPS.out.1,HPS.out.2,HUB.out];rfl),bj HWW.out HB7.out⟩
        · go_wp2_with (go_at_call 135;refine hcall2.mono ?_;rintro x w7 ⟨rfl,hb7⟩;have HB7:=As hb7;clear hb7)
          go_roundw
          case rel => exact ⟨n + 1,by omega,by omega,by go_num,⟨by rw [← HK.out,HP.out,Kh,HPS.out.1,HPS.out.2,HUB.out];rfl⟩,⟨bj HW.out HB7.out⟩⟩
          case measure => simp [intOf];omega
    · go_wp2
      go_ret
      exact ⟨AB (by rw [← HK.out,show e.log.length + 1 - n = 0 by omega];rfl),HWW.out⟩
/-- Is a page in memory as it must be? -/
def QI (e : Eng) (p : Nat) (q : Page) : Bool:=
  if Ig e.log p 3 = true then (pg e.mem p).owner == q.owner && (pg e.mem p).lsn == BD e.log p e.log.length && (decide ((pg e.disk p).lsn < (pg e.mem p).lsn) || FL (pg e.mem p) (pg e.disk p))
  else FL (pg e.mem p) q
theorem SS (w : World) : AR (w.alloc Cw) w.heap.size zp (.slice none 0 0):=AR.mk1 w zp (.slice none 0 0)
set_option maxRecDepth 100000 in
set_option maxHeartbeats 8000000 in
theorem QK {w0 w : World} {e : Eng} {Ad Am Al Ar : Option Addr} {cd cm cl cr : Nat} {p : Nat} {q : Page} {b : Bool} (hv : QI e p q = b) (hp : p < 5) (hd : e.disk.length = 5) (hm : e.mem.length = 5) (hl : AP e.log = true) (hb : Below w0.heap.size w0 w) (hr : DY w0 e Ad Am Al) (hq : Kd.C (Kd.int .i64) w0 Ar q.vals.length q.vals) : Calls Tryz.prog 81 #[e.val Ad Am Al cd cm cl, .int .i64 p,q.val Ar cr] w fun x w' => x = .returned (.bool b) ∧ Below w.heap.size w w':=by
  have HR:=As (hr.up hb)
  have HRq:=As (Bu hq hb)
  have HL:=As hl
  have HV:=As hv
  clear hr hb hq hl hv
  obtain ⟨adm,Am2,cm2,rfl,QM, -,hmC⟩:=EP HR.out.m p (by omega)
  obtain ⟨add,Ad2,cd2,rfl,QD, -,hdC⟩:=EP HR.out.d p (by omega)
  have HQM:=As QM
  have HQD:=As QD
  have HMC:=As hmC
  have HDC:=As hdC
  obtain ⟨M,hM⟩ : ∃ M,pg e.mem p = M:=⟨_,rfl⟩
  obtain ⟨Dp,hD⟩ : ∃ Dp,pg e.disk p = Dp:=⟨_,rfl⟩
  rw [hM] at HQM HMC
  rw [hD] at HQD HDC
  have HMD:=As (And.intro hM hD)
  clear QM QD hmC hdC hM hD
  obtain ⟨w1,hw1⟩ : ∃ w1,w.alloc (e.obox (.slice (some add) e.disk.length cd) (.slice (some adm) e.mem.length cm) (.slice Al e.log.length cl)) = w1:=⟨_,rfl⟩
  obtain ⟨w2,hw2⟩ : ∃ w2,w1.alloc (q.box Ar cr) = w2:=⟨_,rfl⟩
  have hz1 : w1.heap.size = w.heap.size + 1:=by rw [← hw1];exact BF _ _
  have hz2 : w2.heap.size = w.heap.size + 2:=by rw [← hw2,BF,hz1]
  have hb1 : Below w.heap.size w w1:=by rw [← hw1];exact Ah (Below.refl _ _) _
  have hb12 : Below w1.heap.size w1 w2:=by rw [← hw2];exact Ah (Below.refl _ _) _
  have HB2:=As (bj hb1 hb12)
  have HQ2 : Ac (Ai w2 w.heap.size e (.slice (some add) e.disk.length cd) (.slice (some adm) e.mem.length cm) (.slice Al e.log.length cl)):=⟨Ai.up (by rw [← hw1];exact Ai.mk1 _ _ _ _ _) hb12⟩
  have HP2 : Ac (AR w2 (w.heap.size + 1) q (.slice Ar q.vals.length cr)):=⟨by rw [← hw2, ← hz1];exact AR.mk1 _ _ _⟩
  have HW2 : Ac ((w.alloc (e.obox (.slice (some add) e.disk.length cd) (.slice (some adm) e.mem.length cm) (.slice Al e.log.length cl))).alloc (q.box Ar cr) = w2):=⟨by rw [hw1,hw2]⟩
  have HZ2:=As hz2
  clear hw1 hw2 hz1 hz2 hb1 hb12
  have hpm : p < e.mem.length:=by omega
  have hpd : p < e.disk.length:=by omega
  clear hd hm
  go_enter Tryz.func81,Tryz.ntmps81
  go_wp2
  rw [HW2.out]
  have hQM:=HQM.out.up HB2.out
  have hQD:=HQD.out.up HB2.out
  obtain ⟨m0,m1,m2⟩:=hQM
  obtain ⟨d0,d1,d2⟩:=hQD
  have x0:=HQ2.out.c0
  have x1:=HQ2.out.c1
  refine AX (fun lx a wx => Below w2.heap.size w2 wx ∧ (Sl 10 7 (fun v wx => ∃ B,v = ptr B ∧ w2.heap.size ≤ B ∧ ∃ p u,AR wx B p u) lx a wx ∧ (Sl 11 8 (fun v wx => ∃ B,v = ptr B ∧ w2.heap.size ≤ B ∧ ∃ p u,AR wx B p u) lx a wx ∧ Sl 12 7 (fun v wx => ∃ B,v = ptr B ∧ AR wx B M (.slice Am2 M.vals.length cm2)) lx a wx))) 13 rfl (by kernel_rfl) (⟨Ak (Below.refl _ _),Bc,Bc,Bc⟩) (fun HT => ?_)
  refine Ae (i:=0) (v:=?_) HT rfl (by kernel_rfl) rfl (kA Aa (kA (Ab rfl rfl) (kA (Ab rfl rfl) (Ab rfl rfl)))) (by rfl) (fun _ _ _ h => h) (fun lx ax wx hS => ?_) ?_;rotate_left;(have hbx:=hS.1;clear hS;replace x0:=bc hbx x0;replace x1:=bc hbx x1;replace m0:=bc hbx m0;replace m1:=bc hbx m1;replace m2:=bc hbx m2;replace d0:=bc hbx d0;replace d1:=bc hbx d1;replace d2:=bc hbx d2;go_simp;with_reducible rfl);rotate_left;simp only [sc0,sc1]
  refine Ae (i:=1) (v:=?_) HT rfl (by kernel_rfl) rfl (kA Aa (kA (Ab rfl rfl) (kA (Ab rfl rfl) (Ab rfl rfl)))) (by rfl) (fun _ _ _ h => h) (fun lx ax wx hS => ?_) ?_;rotate_left;(have hbx:=hS.1;clear hS;replace x0:=bc hbx x0;replace x1:=bc hbx x1;replace m0:=bc hbx m0;replace m1:=bc hbx m1;replace m2:=bc hbx m2;replace d0:=bc hbx d0;replace d1:=bc hbx d1;replace d2:=bc hbx d2;go_simp;with_reducible rfl);rotate_left;simp only [sc0,sc1]
  refine Ae (i:=2) (v:=?_) HT rfl (by kernel_rfl) rfl (kA Aa (kA (Ab rfl rfl) (kA (Ab rfl rfl) (Ab rfl rfl)))) (by rfl) (fun _ _ _ h => h) (fun lx ax wx hS => ?_) ?_;rotate_left;(have hbx:=hS.1;clear hS;replace x0:=bc hbx x0;replace x1:=bc hbx x1;replace m0:=bc hbx m0;replace m1:=bc hbx m1;replace m2:=bc hbx m2;replace d0:=bc hbx d0;replace d1:=bc hbx d1;replace d2:=bc hbx d2;go_simp;with_reducible rfl);rotate_left;simp only [sc0,sc1]
  refine Ae (i:=3) (v:=?_) HT rfl (by kernel_rfl) rfl (kA Aa (kA (Ab rfl rfl) (kA (Ab rfl rfl) (Ab rfl rfl)))) (by rfl) (fun _ _ _ h => h) (fun lx ax wx hS => ?_) ?_;rotate_left;(have hbx:=hS.1;clear hS;replace x0:=bc hbx x0;replace x1:=bc hbx x1;replace m0:=bc hbx m0;replace m1:=bc hbx m1;replace m2:=bc hbx m2;replace d0:=bc hbx d0;replace d1:=bc hbx d1;replace d2:=bc hbx d2;go_simp;with_reducible rfl);rotate_left;simp only [sc0,sc1]
  refine Ae (i:=4) (v:=?_) HT rfl (by kernel_rfl) rfl (kA Aa (kA (Ab rfl rfl) (kA (Ab rfl rfl) (Ab rfl rfl)))) (by rfl) (fun _ _ _ h => h) (fun lx ax wx hS => ?_) ?_;rotate_left;(have hbx:=hS.1;clear hS;replace x0:=bc hbx x0;replace x1:=bc hbx x1;replace m0:=bc hbx m0;replace m1:=bc hbx m1;replace m2:=bc hbx m2;replace d0:=bc hbx d0;replace d1:=bc hbx d1;replace d2:=bc hbx d2;go_simp;with_reducible rfl);rotate_left;simp only [sc0,sc1]
  refine Ae (i:=5) (v:=?_) HT rfl (by kernel_rfl) rfl (kA Aa (kA (Ab rfl rfl) (kA (Ab rfl rfl) (Ab rfl rfl)))) (by rfl) (fun _ _ _ h => h) (fun lx ax wx hS => ?_) ?_;rotate_left;(have hbx:=hS.1;clear hS;replace x0:=bc hbx x0;replace x1:=bc hbx x1;replace m0:=bc hbx m0;replace m1:=bc hbx m1;replace m2:=bc hbx m2;replace d0:=bc hbx d0;replace d1:=bc hbx d1;replace d2:=bc hbx d2;go_simp;with_reducible rfl);rotate_left;simp only [sc0,sc1]
  refine Ae (i:=6) (v:=?_) HT rfl (by kernel_rfl) rfl (kA Aa (kA (Ab rfl rfl) (kA (Ab rfl rfl) (Ab rfl rfl)))) (by rfl) (fun _ _ _ h => h) (fun lx ax wx hS => ?_) ?_;rotate_left;(have hbx:=hS.1;clear hS;replace x0:=bc hbx x0;replace x1:=bc hbx x1;replace m0:=bc hbx m0;replace m1:=bc hbx m1;replace m2:=bc hbx m2;replace d0:=bc hbx d0;replace d1:=bc hbx d1;replace d2:=bc hbx d2;go_simp;with_reducible rfl);rotate_left;simp only [sc0,sc1]
  refine Ae (i:=7) (v:=?_) HT rfl (by kernel_rfl) rfl (kA Aa (kA (Ab rfl rfl) (kA (Ab rfl rfl) (Ab rfl rfl)))) (by rfl) (fun _ _ _ h => h) (fun lx ax wx hS => ?_) ?_;rotate_left;(have hbx:=hS.1;clear hS;replace x0:=bc hbx x0;replace x1:=bc hbx x1;replace m0:=bc hbx m0;replace m1:=bc hbx m1;replace m2:=bc hbx m2;replace d0:=bc hbx d0;replace d1:=bc hbx d1;replace d2:=bc hbx d2;go_simp;with_reducible rfl);rotate_left;simp only [sc0,sc1]
  refine Ae (i:=8) (v:=?_) HT rfl (by kernel_rfl) rfl (kA Aa (kA (Ab rfl rfl) (kA (Ab rfl rfl) (Ab rfl rfl)))) (by rfl) (fun _ _ _ h => h) (fun lx ax wx hS => ?_) ?_;rotate_left;(have hbx:=hS.1;clear hS;replace x0:=bc hbx x0;replace x1:=bc hbx x1;replace m0:=bc hbx m0;replace m1:=bc hbx m1;replace m2:=bc hbx m2;replace d0:=bc hbx d0;replace d1:=bc hbx d1;replace d2:=bc hbx d2;go_simp;with_reducible rfl);rotate_left;simp only [sc0,sc1]
  refine Ae (i:=9) (v:=?_) HT rfl (by kernel_rfl) rfl (kA Aa (kA (Ab rfl rfl) (kA (Ab rfl rfl) (Ab rfl rfl)))) (by rfl) (fun _ _ _ h => h) (fun lx ax wx hS => ?_) ?_;rotate_left;(have hbx:=hS.1;clear hS;replace x0:=bc hbx x0;replace x1:=bc hbx x1;replace m0:=bc hbx m0;replace m1:=bc hbx m1;replace m2:=bc hbx m2;replace d0:=bc hbx d0;replace d1:=bc hbx d1;replace d2:=bc hbx d2;go_simp;with_reducible rfl);rotate_left;simp only [sc0,sc1]
  refine Qt (ob1:=Cw) (ob2:=Cw) 10 11 rfl rfl (by kernel_rfl) rfl rfl rfl (fun _ => rfl) (fun _ => rfl) (fun a wx => by go_simp) (fun a wx => by go_simp) (fun wx hS => ?_) (fun wx hS => ?_) (fun B wx hS => ?_) (fun B wx hS => ?_) (fun B wx hS => ?_) (fun B wx hS => ?_) (fun B1 B2 hne => ?_)
  · exact ⟨Ah hS.1 _,fun _ => ⟨_,rfl,hS.1.size,_,_,SS wx⟩,fun h => (AL h (by kernel_rfl)).elim,fun h => (AL h (by kernel_rfl)).elim⟩
  · exact ⟨Ah hS.1 _,fun h => (AL h (by kernel_rfl)).elim,fun _ => ⟨_,rfl,hS.1.size,_,_,SS wx⟩,fun h => (AL h (by kernel_rfl)).elim⟩
  · obtain ⟨B',h1,_,p',u',h2⟩:=hS.2.1 (by kernel_rfl)
    obtain rfl : B = B':=by simpa [ptr] using h1
    exact (Array.getElem?_eq_some_iff.1 h2).1
  · obtain ⟨B',h1,_,p',u',h2⟩:=hS.2.2.1 (by kernel_rfl)
    obtain rfl : B = B':=by simpa [ptr] using h1
    exact (Array.getElem?_eq_some_iff.1 h2).1
  · obtain ⟨B',h1,h3,p',u',h2⟩:=hS.2.1 (by kernel_rfl)
    exact ⟨Ah hS.1 _,fun _ => ⟨B',h1,h3,p',u',h2.up (Ah (Below.refl _ _) _)⟩,fun _ => ⟨_,rfl,hS.1.size,_,_,SS wx⟩,fun h => (AL h (by kernel_rfl)).elim⟩
  · obtain ⟨B',h1,h3,p',u',h2⟩:=hS.2.2.1 (by kernel_rfl)
    exact ⟨Ah hS.1 _,fun _ => ⟨_,rfl,hS.1.size,_,_,SS wx⟩,fun _ => ⟨B',h1,h3,p',u',h2.up (Ah (Below.refl _ _) _)⟩,fun h => (AL h (by kernel_rfl)).elim⟩
  simp only [sc0,sc1]
  refine Ba [12] (by kernel_rfl) (fun i hi w4 hS => ?_)
  obtain rfl:=List.mem_singleton.1 hi
  obtain ⟨h1,h2,h3, -⟩:=hS
  obtain ⟨B,hB,hle1,p1,u1,hbox1⟩:=h2 (by kernel_rfl)
  obtain rfl : B1 = B:=by
    have hB : ptr B1 = ptr B:=hB
    simpa [ptr] using hB
  obtain ⟨B,hB',hle2,p2,u2,hbox2⟩:=h3 (by kernel_rfl)
  obtain rfl : B2 = B:=by
    have hB : ptr B2 = ptr B:=hB'
    simpa [ptr] using hB
  have b0:=hbox1.c0
  have b1:=hbox1.c1
  have b2:=hbox1.c2
  have f0:=hbox1.frz 0
  have f1:=hbox1.frz 1
  have f2:=hbox1.frz 2
  refine BJ (w1:=Cu w4 B1 M (.slice Am2 M.vals.length cm2)) rfl (by rfl) (by go_simp) ?_
  have hfar2 : AR (Cu w4 B1 M (.slice Am2 M.vals.length cm2)) B2 p2 u2:=((hbox2.far hne _ _).far hne _ _).far hne _ _
  refine ⟨⟨Cr h1 hle1 M _,fun _ => ⟨B1,rfl,hle1,M,_,hbox1.Cu M _⟩,fun _ => ⟨B2,rfl,hle2,p2,u2,hfar2⟩,fun _ => ⟨B1,rfl,hbox1.Cu M _⟩⟩,?_⟩
  clear h1 h2 h3 hB hB' hbox1 hbox2 b0 b1 b2 f0 f1 f2 hfar2 p1 u1 p2 u2
  refine Cg (i:=13) (by kernel_rfl) rfl (fun w5 hS => ?_)
  obtain ⟨h1,h2,h3,h4⟩:=hS
  obtain ⟨B,hB,hbox1⟩:=h4 (by kernel_rfl)
  obtain rfl : B1 = B:=by
    have hB : ptr B1 = ptr B:=hB
    simpa [ptr] using hB
  obtain ⟨B,hB', -,p2,u2,hbox2⟩:=h3 (by kernel_rfl)
  obtain rfl : B2 = B:=by
    have hB : ptr B2 = ptr B:=hB'
    simpa [ptr] using hB
  have b0:=hbox2.c0
  have b1:=hbox2.c1
  have b2:=hbox2.c2
  have f0:=hbox2.frz 0
  have f1:=hbox2.frz 1
  have f2:=hbox2.frz 2
  refine BJ (w1:=Cu w5 B2 Dp (.slice Ad2 Dp.vals.length cd2)) rfl (by rfl) (by go_simp) ?_
  have hne' : B2 ≠ B1:=Ne.symm hne
  have hbM : AR (Cu w5 B2 Dp (.slice Ad2 Dp.vals.length cd2)) B1 M (.slice Am2 M.vals.length cm2):=((hbox1.far hne' _ _).far hne' _ _).far hne' _ _
  have hbD:=hbox2.Cu Dp (.slice Ad2 Dp.vals.length cd2)
  have hbW:=Cr h1 hle2 Dp (.slice Ad2 Dp.vals.length cd2)
  refine BQ (by kernel_rfl) ?_
  obtain ⟨W8,hW8⟩ : ∃ W8,Cu w5 B2 Dp (.slice Ad2 Dp.vals.length cd2) = W8:=⟨_,rfl⟩
  rw [hW8] at hbM hbD hbW ⊢
  have HBM:=As hbM
  have HBD:=As hbD
  have HBW:=As hbW
  clear h1 h2 h3 h4 hB hB' hbox1 hbox2 b0 b1 b2 f0 f1 f2 p2 u2 hW8 hbM hbD hbW m0 m1 m2 d0 d1 d2 x0 x1 hle1 hle2 hi
  have HW8:=As (bj HB2.out HBW.out)
  have HQ8:=As (HQ2.out.up HBW.out)
  have HP8:=As (HP2.out.up HBW.out)
  have x2:=HQ8.out.c2
  obtain ⟨ldb,hld⟩ : ∃ ldb,Ig e.log p 3 = ldb:=⟨_,rfl⟩
  have HLD:=As hld
  obtain ⟨sR,hsR⟩ : ∃ sR,FL M q = sR:=⟨_,rfl⟩
  have HSR:=As hsR
  obtain ⟨sD,hsD⟩ : ∃ sD,FL M Dp = sD:=⟨_,rfl⟩
  have HSD:=As hsD
  clear hld hsR hsD
  cases ldb
  · have y0:=HP8.out.c0
    have y1:=HP8.out.c1
    have y2:=HP8.out.c2
    have z0:=HBM.out.c0
    have z1:=HBM.out.c1
    have z2:=HBM.out.c2
    go_wp2_with (first | (go_at_call 137;refine (Fh p HLD.out HW8.out HR.out.l HL.out).mono ?_;rintro x w9 ⟨rfl,hb9⟩;have HW9:=As (bj HW8.out hb9);have HB9:=As hb9;replace y0:=bc hb9 y0;replace y1:=bc hb9 y1;replace y2:=bc hb9 y2;replace z0:=bc hb9 z0;replace z1:=bc hb9 z1;replace z2:=bc hb9 z2;clear hb9) | (go_at_call 80;refine (ET (c:=cm2) (d:=cr) HSR.out HW9.out HMC.out HRq.out).mono ?_;rintro x w10 ⟨rfl,hb10⟩;have HW10:=As (bj HW9.out hb10);clear hb10))
    go_ret
    exact ⟨AB (by rw [← HV.out,QI,HLD.out,HMD.out.1,HSR.out];rfl),HW10.out⟩
  · rcases BO M.owner q.owner with ⟨e1,b1,c1⟩ | ⟨e1,b1,c1⟩
    · rcases BO M.lsn (BD e.log p e.log.length) with ⟨e2,b2,c2⟩ | ⟨e2,b2,c2⟩
      · rcases lts Dp.lsn M.lsn with ⟨e3,k1,k2⟩ | ⟨e3,k1,k2⟩
        · go_wp2_with (go_at_call 137;refine (Fh p HLD.out HW8.out HR.out.l HL.out).mono ?_;rintro x w9 ⟨rfl,hb9⟩;have HW9:=As (bj HW8.out hb9);have HB9:=As hb9;have y0:=bc hb9 HP8.out.c0;have y1:=bc hb9 HP8.out.c1;have y2:=bc hb9 HP8.out.c2;have z0:=bc hb9 HBM.out.c0;have z1:=bc hb9 HBM.out.c1;have z2:=bc hb9 HBM.out.c2;have v0:=bc hb9 HBD.out.c0;have v1:=bc hb9 HBD.out.c1;have v2:=bc hb9 HBD.out.c2;replace x2:=bc hb9 x2;clear hb9)
          refine Bo (fun w' => Below w9.heap.size w9 w') rfl rfl (by kernel_rfl) (Ak (Below.refl _ _)) (fun HT => ?_)
          repeat (first
            | (refine BU (fun wx hS => ?_))
            | ((with_reducible refine Bw (f:=138) rfl ?_);refine Bz (v:=.int .i64 (BD e.log p e.log.length)) (args:=#[.slice Al e.log.length cl, .int .i64 p]) HT rfl Tryz.func138 (by kernel_rfl) rfl rfl (by rfl) (fun _ _ _ h => h) (by simp only [List.map_toArray,List.map_cons,List.map_nil];rfl) (fun wx hS => (Gp p (bj HW9.out hS) HR.out.l).mono fun _ _ h => ⟨h.1,bj hS h.2⟩) ?_;simp only [sc0,sc1])
            | ((with_reducible refine Bw (f:=80) rfl ?_);refine Bz (v:=.bool sD) (args:=#[M.val Am2 cm2,Dp.val Ad2 cd2]) HT rfl Tryz.func80 (by kernel_rfl) rfl rfl (by rfl) (fun _ _ _ h => h) (by simp only [List.map_toArray,List.map_cons,List.map_nil];rfl) (fun wx hS => (ET (c:=cm2) (d:=cd2) HSD.out (bj HW9.out hS) HMC.out HDC.out).mono fun _ _ h => ⟨h.1,bj hS h.2⟩) ?_;simp only [sc0,sc1])
            | (refine BK HT rfl (by rfl) (fun _ _ _ h => h) ?_;simp only [sc0,sc1])
            | (refine BS (v:=?_) HT rfl (by rfl) (fun _ _ _ h => h) (fun wx hS => ?_) ?_;rotate_left;(replace y0:=bc hS y0;replace y1:=bc hS y1;replace y2:=bc hS y2;replace z0:=bc hS z0;replace z1:=bc hS z1;replace z2:=bc hS z2;replace v0:=bc hS v0;replace v1:=bc hS v1;replace v2:=bc hS v2;replace x2:=bc hS x2;go_simp;with_reducible rfl);rotate_left;simp only [sc0,sc1]))
          go_wp2
          go_ret
          exact ⟨AB (by rw [← HV.out,QI,HLD.out,HMD.out.1,HMD.out.2,HSD.out];simp [b1,b2,k1]),bj HW9.out hS⟩
        · go_wp2_with (go_at_call 137;refine (Fh p HLD.out HW8.out HR.out.l HL.out).mono ?_;rintro x w9 ⟨rfl,hb9⟩;have HW9:=As (bj HW8.out hb9);have HB9:=As hb9;have y0:=bc hb9 HP8.out.c0;have y1:=bc hb9 HP8.out.c1;have y2:=bc hb9 HP8.out.c2;have z0:=bc hb9 HBM.out.c0;have z1:=bc hb9 HBM.out.c1;have z2:=bc hb9 HBM.out.c2;have v0:=bc hb9 HBD.out.c0;have v1:=bc hb9 HBD.out.c1;have v2:=bc hb9 HBD.out.c2;replace x2:=bc hb9 x2;clear hb9)
          refine Bo (fun w' => Below w9.heap.size w9 w') rfl rfl (by kernel_rfl) (Ak (Below.refl _ _)) (fun HT => ?_)
          repeat (first
            | (refine BU (fun wx hS => ?_))
            | ((with_reducible refine Bw (f:=138) rfl ?_);refine Bz (v:=.int .i64 (BD e.log p e.log.length)) (args:=#[.slice Al e.log.length cl, .int .i64 p]) HT rfl Tryz.func138 (by kernel_rfl) rfl rfl (by rfl) (fun _ _ _ h => h) (by simp only [List.map_toArray,List.map_cons,List.map_nil];rfl) (fun wx hS => (Gp p (bj HW9.out hS) HR.out.l).mono fun _ _ h => ⟨h.1,bj hS h.2⟩) ?_;simp only [sc0,sc1])
            | ((with_reducible refine Bw (f:=80) rfl ?_);refine Bz (v:=.bool sD) (args:=#[M.val Am2 cm2,Dp.val Ad2 cd2]) HT rfl Tryz.func80 (by kernel_rfl) rfl rfl (by rfl) (fun _ _ _ h => h) (by simp only [List.map_toArray,List.map_cons,List.map_nil];rfl) (fun wx hS => (ET (c:=cm2) (d:=cd2) HSD.out (bj HW9.out hS) HMC.out HDC.out).mono fun _ _ h => ⟨h.1,bj hS h.2⟩) ?_;simp only [sc0,sc1])
            | (refine BK HT rfl (by rfl) (fun _ _ _ h => h) ?_;simp only [sc0,sc1])
            | (refine BS (v:=?_) HT rfl (by rfl) (fun _ _ _ h => h) (fun wx hS => ?_) ?_;rotate_left;(replace y0:=bc hS y0;replace y1:=bc hS y1;replace y2:=bc hS y2;replace z0:=bc hS z0;replace z1:=bc hS z1;replace z2:=bc hS z2;replace v0:=bc hS v0;replace v1:=bc hS v1;replace v2:=bc hS v2;replace x2:=bc hS x2;go_simp;with_reducible rfl);rotate_left;simp only [sc0,sc1]))
          go_wp2
          go_ret
          exact ⟨AB (by rw [← HV.out,QI,HLD.out,HMD.out.1,HMD.out.2,HSD.out];simp [b1,b2,k1]),bj HW9.out hS⟩
      · go_wp2_with (go_at_call 137;refine (Fh p HLD.out HW8.out HR.out.l HL.out).mono ?_;rintro x w9 ⟨rfl,hb9⟩;have HW9:=As (bj HW8.out hb9);have HB9:=As hb9;have y0:=bc hb9 HP8.out.c0;have y1:=bc hb9 HP8.out.c1;have y2:=bc hb9 HP8.out.c2;have z0:=bc hb9 HBM.out.c0;have z1:=bc hb9 HBM.out.c1;have z2:=bc hb9 HBM.out.c2;have v0:=bc hb9 HBD.out.c0;have v1:=bc hb9 HBD.out.c1;have v2:=bc hb9 HBD.out.c2;replace x2:=bc hb9 x2;clear hb9)
        refine Bo (fun w' => Below w9.heap.size w9 w') rfl rfl (by kernel_rfl) (Ak (Below.refl _ _)) (fun HT => ?_)
        repeat (first
          | (refine BU (fun wx hS => ?_))
          | ((with_reducible refine Bw (f:=138) rfl ?_);refine Bz (v:=.int .i64 (BD e.log p e.log.length)) (args:=#[.slice Al e.log.length cl, .int .i64 p]) HT rfl Tryz.func138 (by kernel_rfl) rfl rfl (by rfl) (fun _ _ _ h => h) (by simp only [List.map_toArray,List.map_cons,List.map_nil];rfl) (fun wx hS => (Gp p (bj HW9.out hS) HR.out.l).mono fun _ _ h => ⟨h.1,bj hS h.2⟩) ?_;simp only [sc0,sc1])
          | ((with_reducible refine Bw (f:=80) rfl ?_);refine Bz (v:=.bool sD) (args:=#[M.val Am2 cm2,Dp.val Ad2 cd2]) HT rfl Tryz.func80 (by kernel_rfl) rfl rfl (by rfl) (fun _ _ _ h => h) (by simp only [List.map_toArray,List.map_cons,List.map_nil];rfl) (fun wx hS => (ET (c:=cm2) (d:=cd2) HSD.out (bj HW9.out hS) HMC.out HDC.out).mono fun _ _ h => ⟨h.1,bj hS h.2⟩) ?_;simp only [sc0,sc1])
          | (refine BK HT rfl (by rfl) (fun _ _ _ h => h) ?_;simp only [sc0,sc1])
          | (refine BS (v:=?_) HT rfl (by rfl) (fun _ _ _ h => h) (fun wx hS => ?_) ?_;rotate_left;(replace y0:=bc hS y0;replace y1:=bc hS y1;replace y2:=bc hS y2;replace z0:=bc hS z0;replace z1:=bc hS z1;replace z2:=bc hS z2;replace v0:=bc hS v0;replace v1:=bc hS v1;replace v2:=bc hS v2;replace x2:=bc hS x2;go_simp;with_reducible rfl);rotate_left;simp only [sc0,sc1]))
        go_wp2
        go_ret
        exact ⟨AB (by rw [← HV.out,QI,HLD.out,HMD.out.1,HMD.out.2,HSD.out];simp [b1,b2]),bj HW9.out hS⟩
    · go_wp2_with (go_at_call 137;refine (Fh p HLD.out HW8.out HR.out.l HL.out).mono ?_;rintro x w9 ⟨rfl,hb9⟩;have HW9:=As (bj HW8.out hb9);have HB9:=As hb9;have y0:=bc hb9 HP8.out.c0;have y1:=bc hb9 HP8.out.c1;have y2:=bc hb9 HP8.out.c2;have z0:=bc hb9 HBM.out.c0;have z1:=bc hb9 HBM.out.c1;have z2:=bc hb9 HBM.out.c2;have v0:=bc hb9 HBD.out.c0;have v1:=bc hb9 HBD.out.c1;have v2:=bc hb9 HBD.out.c2;replace x2:=bc hb9 x2;clear hb9)
      refine Bo (fun w' => Below w9.heap.size w9 w') rfl rfl (by kernel_rfl) (Ak (Below.refl _ _)) (fun HT => ?_)
      repeat (first
        | (refine BU (fun wx hS => ?_))
        | ((with_reducible refine Bw (f:=138) rfl ?_);refine Bz (v:=.int .i64 (BD e.log p e.log.length)) (args:=#[.slice Al e.log.length cl, .int .i64 p]) HT rfl Tryz.func138 (by kernel_rfl) rfl rfl (by rfl) (fun _ _ _ h => h) (by simp only [List.map_toArray,List.map_cons,List.map_nil];rfl) (fun wx hS => (Gp p (bj HW9.out hS) HR.out.l).mono fun _ _ h => ⟨h.1,bj hS h.2⟩) ?_;simp only [sc0,sc1])
        | ((with_reducible refine Bw (f:=80) rfl ?_);refine Bz (v:=.bool sD) (args:=#[M.val Am2 cm2,Dp.val Ad2 cd2]) HT rfl Tryz.func80 (by kernel_rfl) rfl rfl (by rfl) (fun _ _ _ h => h) (by simp only [List.map_toArray,List.map_cons,List.map_nil];rfl) (fun wx hS => (ET (c:=cm2) (d:=cd2) HSD.out (bj HW9.out hS) HMC.out HDC.out).mono fun _ _ h => ⟨h.1,bj hS h.2⟩) ?_;simp only [sc0,sc1])
        | (refine BK HT rfl (by rfl) (fun _ _ _ h => h) ?_;simp only [sc0,sc1])
        | (refine BS (v:=?_) HT rfl (by rfl) (fun _ _ _ h => h) (fun wx hS => ?_) ?_;rotate_left;(replace y0:=bc hS y0;replace y1:=bc hS y1;replace y2:=bc hS y2;replace z0:=bc hS z0;replace z1:=bc hS z1;replace z2:=bc hS z2;replace v0:=bc hS v0;replace v1:=bc hS v1;replace v2:=bc hS v2;replace x2:=bc hS x2;go_simp;with_reducible rfl);rotate_left;simp only [sc0,sc1]))
      go_wp2
      go_ret
      exact ⟨AB (by rw [← HV.out,QI,HLD.out,HMD.out.1,HMD.out.2,HSD.out];simp [b1]),bj HW9.out hS⟩
def RP (e : Eng) : Nat → Nat → Bool
  | 0,_ => true
  | j + 1,p => Js e p && RP e j (p + 1)
theorem Vd (e : Eng) : ((List.range 5).all fun p => Js e p) = RP e 5 0:=rfl
theorem Xl (e : Eng) (p : Nat) : Xm e p = QI e p (pg (Ck e.disk e.log e.log.length) p):=rfl
set_option maxRecDepth 100000 in
set_option maxHeartbeats 16000000 in
theorem AJ {w0 w : World} {e : Eng} {Ad Am Al : Option Addr} {cd cm cl : Nat} {b : Bool} (hv : eOk e = b) (hcl : e.log.length ≤ cl) (hb : Below w0.heap.size w0 w) (hr : DY w0 e Ad Am Al) : Calls Tryz.prog 36 #[e.val Ad Am Al cd cm cl] w fun x w' => x = .returned (.bool b) ∧ Below w.heap.size w w':=by
  have HR:=As (hr.up hb)
  have HV:=As hv
  have hlm:=(CJ HR.out.l).2
  clear hr hb hv
  obtain ⟨w1,hw1⟩ : ∃ w1,w.alloc (e.obox (.slice Ad e.disk.length cd) (.slice Am e.mem.length cm) (.slice Al e.log.length cl)) = w1:=⟨_,rfl⟩
  have HW1:=As hw1
  have HB1 : Ac (Below w.heap.size w w1):=⟨by rw [← hw1];exact Ah (Below.refl _ _) _⟩
  have HQ1 : Ac (Ai w1 w.heap.size e (.slice Ad e.disk.length cd) (.slice Am e.mem.length cm) (.slice Al e.log.length cl)):=⟨by rw [← hw1];exact Ai.mk1 _ _ _ _ _⟩
  clear hw1
  have HX:=As (Below.refl w1.heap.size w1)
  have x0:=HQ1.out.c0
  have x1:=HQ1.out.c1
  have x2:=HQ1.out.c2
  have x3:=HQ1.out.c3
  have x4:=HQ1.out.c4
  cases hvd : GZ e.disk
  · have HVd:=As hvd
    clear hvd
    go_enter Tryz.func36,Tryz.ntmps36
    go_wp2_with (first | (go_at_call 75;rw [HW1.out];refine (BP (c:=cd) HVd.out (bj HB1.out HX.out) HR.out.d).mono ?_;rintro x w9 ⟨rfl,hb9⟩;have HX:=As (bj HX.out hb9);replace x0:=bc hb9 x0;replace x1:=bc hb9 x1;replace x2:=bc hb9 x2;replace x3:=bc hb9 x3;replace x4:=bc hb9 x4;clear hb9))
    go_ret
    exact ⟨AB (by rw [← HV.out,eOk,HVd.out];simp),bj HB1.out HX.out⟩
  · have HVd:=As hvd
    clear hvd
    cases hvm : GZ e.mem
    · have HVm:=As hvm
      clear hvm
      go_enter Tryz.func36,Tryz.ntmps36
      go_wp2_with (first | (go_at_call 75;rw [HW1.out];refine (BP (c:=cd) HVd.out (bj HB1.out HX.out) HR.out.d).mono ?_;rintro x w9 ⟨rfl,hb9⟩;have HX:=As (bj HX.out hb9);replace x0:=bc hb9 x0;replace x1:=bc hb9 x1;replace x2:=bc hb9 x2;replace x3:=bc hb9 x3;replace x4:=bc hb9 x4;clear hb9) | (go_at_call 75;refine (BP (c:=cm) HVm.out (bj HB1.out HX.out) HR.out.m).mono ?_;rintro x w9 ⟨rfl,hb9⟩;have HX:=As (bj HX.out hb9);replace x0:=bc hb9 x0;replace x1:=bc hb9 x1;replace x2:=bc hb9 x2;replace x3:=bc hb9 x3;replace x4:=bc hb9 x4;clear hb9))
      go_ret
      exact ⟨AB (by rw [← HV.out,eOk,HVd.out,HVm.out];simp),bj HB1.out HX.out⟩
    · have HVm:=As hvm
      clear hvm
      cases hvl : AP e.log
      · have HVl:=As hvl
        clear hvl
        go_enter Tryz.func36,Tryz.ntmps36
        go_wp2_with (first | (go_at_call 75;rw [HW1.out];refine (BP (c:=cd) HVd.out (bj HB1.out HX.out) HR.out.d).mono ?_;rintro x w9 ⟨rfl,hb9⟩;have HX:=As (bj HX.out hb9);replace x0:=bc hb9 x0;replace x1:=bc hb9 x1;replace x2:=bc hb9 x2;replace x3:=bc hb9 x3;replace x4:=bc hb9 x4;clear hb9) | (go_at_call 75;refine (BP (c:=cm) HVm.out (bj HB1.out HX.out) HR.out.m).mono ?_;rintro x w9 ⟨rfl,hb9⟩;have HX:=As (bj HX.out hb9);replace x0:=bc hb9 x0;replace x1:=bc hb9 x1;replace x2:=bc hb9 x2;replace x3:=bc hb9 x3;replace x4:=bc hb9 x4;clear hb9) | (go_at_call 76;refine (G6 (c:=cl) HVl.out (bj HB1.out HX.out) HR.out.l).mono ?_;rintro x w9 ⟨rfl,hb9⟩;have HX:=As (bj HX.out hb9);replace x0:=bc hb9 x0;replace x1:=bc hb9 x1;replace x2:=bc hb9 x2;replace x3:=bc hb9 x3;replace x4:=bc hb9 x4;clear hb9))
        go_ret
        exact ⟨AB (by rw [← HV.out,eOk,HVd.out,HVm.out,HVl.out];simp),bj HB1.out HX.out⟩
      · have HVl:=As hvl
        clear hvl
        have hm150:=Be HVl.out
        cases hvs : inB e.safe 0 e.log.length
        · have HVs:=As hvs
          clear hvs
          go_enter Tryz.func36,Tryz.ntmps36
          go_wp2_with (first | (go_at_call 75;rw [HW1.out];refine (BP (c:=cd) HVd.out (bj HB1.out HX.out) HR.out.d).mono ?_;rintro x w9 ⟨rfl,hb9⟩;have HX:=As (bj HX.out hb9);replace x0:=bc hb9 x0;replace x1:=bc hb9 x1;replace x2:=bc hb9 x2;replace x3:=bc hb9 x3;replace x4:=bc hb9 x4;clear hb9) | (go_at_call 75;refine (BP (c:=cm) HVm.out (bj HB1.out HX.out) HR.out.m).mono ?_;rintro x w9 ⟨rfl,hb9⟩;have HX:=As (bj HX.out hb9);replace x0:=bc hb9 x0;replace x1:=bc hb9 x1;replace x2:=bc hb9 x2;replace x3:=bc hb9 x3;replace x4:=bc hb9 x4;clear hb9) | (go_at_call 76;refine (G6 (c:=cl) HVl.out (bj HB1.out HX.out) HR.out.l).mono ?_;rintro x w9 ⟨rfl,hb9⟩;have HX:=As (bj HX.out hb9);replace x0:=bc hb9 x0;replace x1:=bc hb9 x1;replace x2:=bc hb9 x2;replace x3:=bc hb9 x3;replace x4:=bc hb9 x4;clear hb9) | (go_at_call 77;refine (TI HVs.out _).mono ?_;rintro x w9 ⟨rfl,rfl⟩))
          go_ret
          exact ⟨AB (by rw [← HV.out,eOk,HVd.out,HVm.out,HVl.out,HVs.out];simp),bj HB1.out HX.out⟩
        · have HVs:=As hvs
          clear hvs
          have HS01:=As (Dj.1 HVs.out)
          cases hvf : Im e.log
          · have HVf:=As hvf
            clear hvf
            go_enter Tryz.func36,Tryz.ntmps36
            go_wp2_with (first | (go_at_call 75;rw [HW1.out];refine (BP (c:=cd) HVd.out (bj HB1.out HX.out) HR.out.d).mono ?_;rintro x w9 ⟨rfl,hb9⟩;have HX:=As (bj HX.out hb9);replace x0:=bc hb9 x0;replace x1:=bc hb9 x1;replace x2:=bc hb9 x2;replace x3:=bc hb9 x3;replace x4:=bc hb9 x4;clear hb9) | (go_at_call 75;refine (BP (c:=cm) HVm.out (bj HB1.out HX.out) HR.out.m).mono ?_;rintro x w9 ⟨rfl,hb9⟩;have HX:=As (bj HX.out hb9);replace x0:=bc hb9 x0;replace x1:=bc hb9 x1;replace x2:=bc hb9 x2;replace x3:=bc hb9 x3;replace x4:=bc hb9 x4;clear hb9) | (go_at_call 76;refine (G6 (c:=cl) HVl.out (bj HB1.out HX.out) HR.out.l).mono ?_;rintro x w9 ⟨rfl,hb9⟩;have HX:=As (bj HX.out hb9);replace x0:=bc hb9 x0;replace x1:=bc hb9 x1;replace x2:=bc hb9 x2;replace x3:=bc hb9 x3;replace x4:=bc hb9 x4;clear hb9) | (go_at_call 77;refine (TI HVs.out _).mono ?_;rintro x w9 ⟨rfl,rfl⟩) | (go_at_call 78;refine (DX (c:=cl) (bj HB1.out HX.out) HR.out.l HVl.out).mono ?_;rintro x w9 ⟨rfl,hb9⟩;rw [HVf.out];have HX:=As (bj HX.out hb9);replace x0:=bc hb9 x0;replace x1:=bc hb9 x1;replace x2:=bc hb9 x2;replace x3:=bc hb9 x3;replace x4:=bc hb9 x4;clear hb9))
            go_ret
            exact ⟨AB (by rw [← HV.out,eOk,HVd.out,HVm.out,HVl.out,HVs.out,HVf.out];simp),bj HB1.out HX.out⟩
          · have HVf:=As hvf
            clear hvf
            cases hvp : Hu e (e.log.length + 1 - e.safe.toNat) e.safe.toNat
            · have HVp:=As hvp
              clear hvp
              go_enter Tryz.func36,Tryz.ntmps36
              go_wp2_with (first | (go_at_call 75;rw [HW1.out];refine (BP (c:=cd) HVd.out (bj HB1.out HX.out) HR.out.d).mono ?_;rintro x w9 ⟨rfl,hb9⟩;have HX:=As (bj HX.out hb9);replace x0:=bc hb9 x0;replace x1:=bc hb9 x1;replace x2:=bc hb9 x2;replace x3:=bc hb9 x3;replace x4:=bc hb9 x4;clear hb9) | (go_at_call 75;refine (BP (c:=cm) HVm.out (bj HB1.out HX.out) HR.out.m).mono ?_;rintro x w9 ⟨rfl,hb9⟩;have HX:=As (bj HX.out hb9);replace x0:=bc hb9 x0;replace x1:=bc hb9 x1;replace x2:=bc hb9 x2;replace x3:=bc hb9 x3;replace x4:=bc hb9 x4;clear hb9) | (go_at_call 76;refine (G6 (c:=cl) HVl.out (bj HB1.out HX.out) HR.out.l).mono ?_;rintro x w9 ⟨rfl,hb9⟩;have HX:=As (bj HX.out hb9);replace x0:=bc hb9 x0;replace x1:=bc hb9 x1;replace x2:=bc hb9 x2;replace x3:=bc hb9 x3;replace x4:=bc hb9 x4;clear hb9) | (go_at_call 77;refine (TI HVs.out _).mono ?_;rintro x w9 ⟨rfl,rfl⟩) | (go_at_call 78;refine (DX (c:=cl) (bj HB1.out HX.out) HR.out.l HVl.out).mono ?_;rintro x w9 ⟨rfl,hb9⟩;rw [HVf.out];have HX:=As (bj HX.out hb9);replace x0:=bc hb9 x0;replace x1:=bc hb9 x1;replace x2:=bc hb9 x2;replace x3:=bc hb9 x3;replace x4:=bc hb9 x4;clear hb9) | (go_at_call 79;refine (I8 (cd:=cd) (cm:=cm) (cl:=cl) HVp.out HS01.out.1 HS01.out.2 (Aw HVd.out) HVl.out hcl (bj HB1.out HX.out) HR.out).mono ?_;rintro x w9 ⟨rfl,hb9⟩;have HX:=As (bj HX.out hb9);replace x0:=bc hb9 x0;replace x1:=bc hb9 x1;replace x2:=bc hb9 x2;replace x3:=bc hb9 x3;replace x4:=bc hb9 x4;clear hb9))
              go_ret
              exact ⟨AB (by rw [← HV.out,eOk,HVd.out,HVm.out,HVl.out,HVs.out,HVf.out,HVp.out];simp),bj HB1.out HX.out⟩
            · have HVp:=As hvp
              clear hvp
              have HGR:=As (JE (Aw HVd.out) (fun k hk => (AA HVl.out hk).ok) e.log.length (Nat.le_refl _))
              have HP5:=As (show RP e 5 0 = b by rw [← HV.out,eOk,HVd.out,HVm.out,HVl.out,HVs.out,HVf.out,HVp.out, ← Vd];simp)
              go_enter Tryz.func36,Tryz.ntmps36
              go_wp2_with (first | (go_at_call 75;rw [HW1.out];refine (BP (c:=cd) HVd.out (bj HB1.out HX.out) HR.out.d).mono ?_;rintro x w9 ⟨rfl,hb9⟩;have HX:=As (bj HX.out hb9);replace x0:=bc hb9 x0;replace x1:=bc hb9 x1;replace x2:=bc hb9 x2;replace x3:=bc hb9 x3;replace x4:=bc hb9 x4;clear hb9) | (go_at_call 75;refine (BP (c:=cm) HVm.out (bj HB1.out HX.out) HR.out.m).mono ?_;rintro x w9 ⟨rfl,hb9⟩;have HX:=As (bj HX.out hb9);replace x0:=bc hb9 x0;replace x1:=bc hb9 x1;replace x2:=bc hb9 x2;replace x3:=bc hb9 x3;replace x4:=bc hb9 x4;clear hb9) | (go_at_call 76;refine (G6 (c:=cl) HVl.out (bj HB1.out HX.out) HR.out.l).mono ?_;rintro x w9 ⟨rfl,hb9⟩;have HX:=As (bj HX.out hb9);replace x0:=bc hb9 x0;replace x1:=bc hb9 x1;replace x2:=bc hb9 x2;replace x3:=bc hb9 x3;replace x4:=bc hb9 x4;clear hb9) | (go_at_call 77;refine (TI HVs.out _).mono ?_;rintro x w9 ⟨rfl,rfl⟩) | (go_at_call 78;refine (DX (c:=cl) (bj HB1.out HX.out) HR.out.l HVl.out).mono ?_;rintro x w9 ⟨rfl,hb9⟩;rw [HVf.out];have HX:=As (bj HX.out hb9);replace x0:=bc hb9 x0;replace x1:=bc hb9 x1;replace x2:=bc hb9 x2;replace x3:=bc hb9 x3;replace x4:=bc hb9 x4;clear hb9) | (go_at_call 79;refine (I8 (cd:=cd) (cm:=cm) (cl:=cl) HVp.out HS01.out.1 HS01.out.2 (Aw HVd.out) HVl.out hcl (bj HB1.out HX.out) HR.out).mono ?_;rintro x w9 ⟨rfl,hb9⟩;have HX:=As (bj HX.out hb9);replace x0:=bc hb9 x0;replace x1:=bc hb9 x1;replace x2:=bc hb9 x2;replace x3:=bc hb9 x3;replace x4:=bc hb9 x4;clear hb9) | (go_at_call 46;refine (KC (c:=cd) (d:=cl) (Aw HVd.out) (fun k hk => (AA HVl.out hk).ok) hm150 (bj HB1.out HX.out) HR.out.d HR.out.l).mono ?_;rintro x w9 ⟨u,rfl,hO,hb9⟩;obtain ⟨g,cap,rfl,hgb,hgl⟩:=Cb hO (by rw [HGR.out.1];omega);rw [HGR.out.1] at hO ⊢;have HO:=As hO;have HGB:=As (And.intro hgb hgl);clear hO hgb hgl;have HX:=As (bj HX.out hb9);replace x0:=bc hb9 x0;replace x1:=bc hb9 x1;replace x2:=bc hb9 x2;replace x3:=bc hb9 x3;replace x4:=bc hb9 x4;clear hb9))
              have HL5:=As (And.intro (CF.1 HVd.out).1 (CF.1 HVm.out).1)
              obtain ⟨R,hRR⟩ : ∃ R,Ck e.disk e.log e.log.length = R:=⟨_,rfl⟩
              rw [hRR] at HO HGR
              have HRR:=As hRR
              clear hRR
              go_loopw [52] (fun i wr => ∃ k : Nat,k ≤ 5 ∧ i = .int .i64 (k : Int) ∧ Ac (RP e (5 - k) k = b) ∧ Ac (Below w9.heap.size w9 wr)) (fun i _ => (5 - intOf i).toNat)
              case atStart => exact ⟨0,by omega,rfl,HP5,⟨Below.refl _ _⟩⟩
              case round =>
                obtain ⟨k,hk,rfl,HK,HW⟩:=hrel
                have HW2:=As (bj HX.out HW.out)
                have HWW:=As (bj HB1.out HW2.out)
                have y0:=bc HW.out x0
                have y1:=bc HW.out x1
                have y2:=bc HW.out x2
                have y3:=bc HW.out x3
                have y4:=bc HW.out x4
                clear x0 x1 x2 x3 x4
                by_cases hlt : k < 5
                · have hpd : k < e.disk.length:=by have:=HL5.out;omega
                  have hpm : k < e.mem.length:=by have:=HL5.out;omega
                  obtain ⟨adm,Am2,cm2,rfl,QM, -,hmC⟩:=EP HR.out.m k hpm
                  obtain ⟨add,Ad2,cd2,rfl,QD, -,hdC⟩:=EP HR.out.d k hpd
                  obtain ⟨M,hM⟩ : ∃ M,pg e.mem k = M:=⟨_,rfl⟩
                  obtain ⟨Dp,hD⟩ : ∃ Dp,pg e.disk k = Dp:=⟨_,rfl⟩
                  obtain ⟨lr,hlk⟩ : ∃ lr,Fg e.log (k : Int) (Cf e.log 3) 0 true = lr:=⟨_,rfl⟩
                  obtain ⟨m0,m1,m2⟩:=QM.up HWW.out
                  obtain ⟨d0,d1,d2⟩:=QD.up HWW.out
                  rw [hM] at m0 m1 m2 hmC
                  rw [hD] at d0 d1 d2 hdC
                  have HLK:=As hlk
                  have HMD:=As (And.intro hM hD)
                  have HMC:=As hmC
                  have HDC:=As hdC
                  have HPG:=As (show RP e (5 - k) k = (Js e k && RP e (5 - (k + 1)) (k + 1)) by rw [show 5 - k = (5 - (k + 1)) + 1 by omega,RP])
                  obtain ⟨by_,lok⟩:=lr
                  obtain ⟨dn,hdn⟩ : ∃ dn,e.down = dn:=⟨_,rfl⟩
                  rw [hdn] at y4
                  have HDN:=As hdn
                  clear hM hD hlk hmC hdC QM QD hdn
                  cases lok
                  · go_wp2_with (go_at_call 60;refine (Er (c:=cl) (k : Int) HWW.out HR.out.l HVl.out).mono ?_;rintro x w10 ⟨rfl,hb10⟩;rw [HLK.out];have HX10:=As (bj HW.out hb10);clear hb10)
                    refine Bo (fun w' => Below w10.heap.size w10 w') rfl rfl (by kernel_rfl) (Ak (Below.refl _ _)) (fun HT => ?_)
                    repeat (first
                      | (refine BU (fun wx hS => ?_))
                      | (refine BK HT rfl (by rfl) (fun _ _ _ h => h) ?_;simp only [sc0,sc1])
                      | (refine BS (v:=?_) HT rfl (by rfl) (fun _ _ _ h => h) (fun wx hS => ?_) ?_;rotate_left;(skip;go_simp;with_reducible rfl);rotate_left;simp only [sc0,sc1]))
                    go_wp2
                    go_ret
                    exact ⟨AB (by rw [← HK.out,HPG.out,Js,HLK.out];simp),bj HB1.out (bj HX.out (bj HX10.out hS))⟩
                  · rcases lts e.safe Dp.lsn with ⟨e3,k1,k2⟩ | ⟨e3,k1,k2⟩
                    · go_wp2_with (go_at_call 60;refine (Er (c:=cl) (k : Int) HWW.out HR.out.l HVl.out).mono ?_;rintro x w10 ⟨rfl,hb10⟩;rw [HLK.out];have HX10:=As (bj HW.out hb10);replace y0:=bc hb10 y0;replace y1:=bc hb10 y1;replace y2:=bc hb10 y2;replace y3:=bc hb10 y3;replace y4:=bc hb10 y4;replace m0:=bc hb10 m0;replace m1:=bc hb10 m1;replace m2:=bc hb10 m2;replace d0:=bc hb10 d0;replace d1:=bc hb10 d1;replace d2:=bc hb10 d2;clear hb10)
                      refine Bo (fun w' => Below w10.heap.size w10 w') rfl rfl (by kernel_rfl) (Ak (Below.refl _ _)) (fun HT => ?_)
                      repeat (first
                        | (refine BU (fun wx hS => ?_))
                        | (refine BK HT rfl (by rfl) (fun _ _ _ h => h) ?_;simp only [sc0,sc1])
                        | (refine BS (v:=?_) HT rfl (by rfl) (fun _ _ _ h => h) (fun wx hS => ?_) ?_;rotate_left;(replace y0:=bc hS y0;replace y3:=bc hS y3;replace d0:=bc hS d0;go_simp;with_reducible rfl);rotate_left;simp only [sc0,sc1]))
                      go_wp2
                      go_ret
                      exact ⟨AB (by rw [← HK.out,HPG.out,Js,HLK.out,HMD.out.2,k2];simp),bj HB1.out (bj HX.out (bj HX10.out hS))⟩
                    · obtain ⟨q,hq⟩ : ∃ q,pg R k = q:=⟨_,rfl⟩
                      obtain ⟨pb,hpb⟩ : ∃ pb,(if e.down = true then FL M Dp else QI e k q) = pb:=⟨_,rfl⟩
                      have HPB:=As hpb
                      have HPK:=As (show Js e k = pb by rw [Js,HLK.out,Xl,HRR.out,hq,HMD.out.1,HMD.out.2,k2,hpb];rfl)
                      have HQQ:=As hq
                      clear hpb hq
                      cases dn
                      · go_wp2_with (go_at_call 60;refine (Er (c:=cl) (k : Int) HWW.out HR.out.l HVl.out).mono ?_;rintro x w10 ⟨rfl,hb10⟩;rw [HLK.out];have HX10:=As (bj HW.out hb10);replace y0:=bc hb10 y0;replace y1:=bc hb10 y1;replace y2:=bc hb10 y2;replace y3:=bc hb10 y3;replace y4:=bc hb10 y4;replace m0:=bc hb10 m0;replace m1:=bc hb10 m1;replace m2:=bc hb10 m2;replace d0:=bc hb10 d0;replace d1:=bc hb10 d1;replace d2:=bc hb10 d2;clear hb10)
                        refine Bo (fun w' => Below w10.heap.size w10 w') rfl rfl (by kernel_rfl) (Ak (Below.refl _ _)) (fun HT => ?_)
                        repeat (first
                          | (refine BU (fun wx hS => ?_))
                          | (refine BK HT rfl (by rfl) (fun _ _ _ h => h) ?_;simp only [sc0,sc1])
                          | (refine BS (v:=?_) HT rfl (by rfl) (fun _ _ _ h => h) (fun wx hS => ?_) ?_;rotate_left;(replace y0:=bc hS y0;replace y3:=bc hS y3;replace d0:=bc hS d0;go_simp;with_reducible rfl);rotate_left;simp only [sc0,sc1]))
                        rename_i w11
                        have HX11:=As (bj HX10.out hS)
                        have HW11:=As (bj HB1.out (bj HX.out HX11.out))
                        replace y0:=bc hS y0;replace y1:=bc hS y1;replace y2:=bc hS y2;replace y3:=bc hS y3;replace y4:=bc hS y4
                        obtain ⟨A3,c3,q0,q1,q2,qC, -⟩:=Dz (Kd.Br HO.out HX11.out) k hlt
                        rw [HQQ.out] at q0 q1 q2 qC
                        have HQC:=As qC
                        have hcall : ∀ w',Below wx.heap.size wx w' → Calls Tryz.prog 81 #[.agg #[.slice (some add) e.disk.length cd, .slice (some adm) e.mem.length cm, .slice Al e.log.length cl, .int .i64 e.safe, .bool false], .int .i64 k,q.val A3 c3] w' fun x w2 => x = .returned (.bool pb) ∧ Below w'.heap.size w' w2:=fun w' hb => by
                          have h:=QK (w0:=wx) (cd:=cd) (cm:=cm) (cl:=cl) (cr:=c3) (e:=e) (b:=pb) (by rw [← HPB.out,if_neg (by rw [HDN.out];simp)]) hlt HL5.out.1 HL5.out.2 HVl.out hb (HR.out.up HW11.out) HQC.out
                          unfold Eng.val Eng.ag at h
                          rw [HDN.out] at h
                          exact h
                        clear hS qC
                        go_wp2
                        refine Bo (fun w' => Below wx.heap.size wx w') rfl rfl (by kernel_rfl) (Ak (Below.refl _ _)) (fun HT => ?_)
                        repeat (first
                          | (refine BU (fun wx hS => ?_))
                          | ((with_reducible refine Bw (f:=81) rfl ?_);refine Bz (v:=.bool pb) (args:=#[.agg #[.slice (some add) e.disk.length cd, .slice (some adm) e.mem.length cm, .slice Al e.log.length cl, .int .i64 e.safe, .bool false], .int .i64 k,q.val A3 c3]) HT rfl Tryz.func81 (by kernel_rfl) rfl rfl (by rfl) (fun _ _ _ h => h) (by simp only [List.map_toArray,List.map_cons,List.map_nil];rfl) (fun wx hS => (hcall wx hS).mono fun _ _ h => ⟨h.1,bj hS h.2⟩) ?_;simp only [sc0,sc1])
                          | (refine BK HT rfl (by rfl) (fun _ _ _ h => h) ?_;simp only [sc0,sc1])
                          | (refine BS (v:=?_) HT rfl (by rfl) (fun _ _ _ h => h) (fun wx hS => ?_) ?_;rotate_left;(replace y0:=bc hS y0;replace y1:=bc hS y1;replace y2:=bc hS y2;replace y3:=bc hS y3;replace y4:=bc hS y4;replace q0:=bc hS q0;replace q1:=bc hS q1;replace q2:=bc hS q2;go_simp;with_reducible rfl);rotate_left;simp only [sc0,sc1]))
                        cases pb
                        · go_wp2
                          go_ret
                          exact ⟨AB (by rw [← HK.out,HPG.out,HPK.out];rfl),bj HW11.out hS⟩
                        · go_wp2
                          go_roundw
                          case rel => exact ⟨k + 1,by omega,by go_num,⟨by rw [← HK.out,HPG.out,HPK.out];rfl⟩,⟨bj HX11.out hS⟩⟩
                          case measure => simp [intOf];omega
                      · go_wp2_with (go_at_call 60;refine (Er (c:=cl) (k : Int) HWW.out HR.out.l HVl.out).mono ?_;rintro x w10 ⟨rfl,hb10⟩;rw [HLK.out];have HX10:=As (bj HW.out hb10);replace y0:=bc hb10 y0;replace y1:=bc hb10 y1;replace y2:=bc hb10 y2;replace y3:=bc hb10 y3;replace y4:=bc hb10 y4;replace m0:=bc hb10 m0;replace m1:=bc hb10 m1;replace m2:=bc hb10 m2;replace d0:=bc hb10 d0;replace d1:=bc hb10 d1;replace d2:=bc hb10 d2;clear hb10)
                        refine Bo (fun w' => Below w10.heap.size w10 w') rfl rfl (by kernel_rfl) (Ak (Below.refl _ _)) (fun HT => ?_)
                        repeat (first
                          | (refine BU (fun wx hS => ?_))
                          | (refine BK HT rfl (by rfl) (fun _ _ _ h => h) ?_;simp only [sc0,sc1])
                          | (refine BS (v:=?_) HT rfl (by rfl) (fun _ _ _ h => h) (fun wx hS => ?_) ?_;rotate_left;(replace y0:=bc hS y0;replace y3:=bc hS y3;replace d0:=bc hS d0;go_simp;with_reducible rfl);rotate_left;simp only [sc0,sc1]))
                        have HX11:=As (bj HX10.out hS)
                        have HW11:=As (bj HB1.out (bj HX.out HX11.out))
                        replace y0:=bc hS y0;replace y1:=bc hS y1;replace y4:=bc hS y4;replace m0:=bc hS m0;replace m1:=bc hS m1;replace m2:=bc hS m2;replace d0:=bc hS d0;replace d1:=bc hS d1;replace d2:=bc hS d2
                        clear hS
                        cases pb
                        · go_wp2
                          refine Bo (fun w' => Below wx.heap.size wx w') rfl rfl (by kernel_rfl) (Ak (Below.refl _ _)) (fun HT => ?_)
                          repeat (first
                            | (refine BU (fun wx hS => ?_))
                            | ((with_reducible refine Bw (f:=80) rfl ?_);refine Bz (v:=.bool false) (args:=#[M.val Am2 cm2,Dp.val Ad2 cd2]) HT rfl Tryz.func80 (by kernel_rfl) rfl rfl (by rfl) (fun _ _ _ h => h) (by simp only [List.map_toArray,List.map_cons,List.map_nil];rfl) (fun wx hS => (ET (c:=cm2) (d:=cd2) (by have:=HPB.out;rw [if_pos HDN.out] at this;exact this) (bj HW11.out hS) HMC.out HDC.out).mono fun _ _ h => ⟨h.1,bj hS h.2⟩) ?_;simp only [sc0,sc1])
                            | (refine BK HT rfl (by rfl) (fun _ _ _ h => h) ?_;simp only [sc0,sc1])
                            | (refine BS (v:=?_) HT rfl (by rfl) (fun _ _ _ h => h) (fun wx hS => ?_) ?_;rotate_left;(replace y0:=bc hS y0;replace y1:=bc hS y1;replace y4:=bc hS y4;replace m0:=bc hS m0;replace m1:=bc hS m1;replace m2:=bc hS m2;replace d0:=bc hS d0;replace d1:=bc hS d1;replace d2:=bc hS d2;go_simp;with_reducible rfl);rotate_left;simp only [sc0,sc1]))
                          go_wp2
                          go_ret
                          exact ⟨AB (by rw [← HK.out,HPG.out,HPK.out];rfl),bj HW11.out hS⟩
                        · go_wp2
                          refine Bo (fun w' => Below wx.heap.size wx w') rfl rfl (by kernel_rfl) (Ak (Below.refl _ _)) (fun HT => ?_)
                          repeat (first
                            | (refine BU (fun wx hS => ?_))
                            | ((with_reducible refine Bw (f:=80) rfl ?_);refine Bz (v:=.bool true) (args:=#[M.val Am2 cm2,Dp.val Ad2 cd2]) HT rfl Tryz.func80 (by kernel_rfl) rfl rfl (by rfl) (fun _ _ _ h => h) (by simp only [List.map_toArray,List.map_cons,List.map_nil];rfl) (fun wx hS => (ET (c:=cm2) (d:=cd2) (by have:=HPB.out;rw [if_pos HDN.out] at this;exact this) (bj HW11.out hS) HMC.out HDC.out).mono fun _ _ h => ⟨h.1,bj hS h.2⟩) ?_;simp only [sc0,sc1])
                            | (refine BK HT rfl (by rfl) (fun _ _ _ h => h) ?_;simp only [sc0,sc1])
                            | (refine BS (v:=?_) HT rfl (by rfl) (fun _ _ _ h => h) (fun wx hS => ?_) ?_;rotate_left;(replace y0:=bc hS y0;replace y1:=bc hS y1;replace y4:=bc hS y4;replace m0:=bc hS m0;replace m1:=bc hS m1;replace m2:=bc hS m2;replace d0:=bc hS d0;replace d1:=bc hS d1;replace d2:=bc hS d2;go_simp;with_reducible rfl);rotate_left;simp only [sc0,sc1]))
                          go_wp2
                          go_roundw
                          case rel => exact ⟨k + 1,by omega,by go_num,⟨by rw [← HK.out,HPG.out,HPK.out];rfl⟩,⟨bj HX11.out hS⟩⟩
                          case measure => simp [intOf];omega
                · go_wp2
                  go_ret
                  exact ⟨AB (by rw [← HK.out,show 5 - k = 0 by omega];rfl),HWW.out⟩
section
variable {P : Program} {ops : Array Oper} {Q : Exit → Act → World → Prop} {S : Array Bool → Act → World → Prop} {m i d : Nat} {o : Oper} {done : List Nat} {L : List Value} {D : List Deferred} {w w1 : World}
/-- In whatever order they came up. -/
theorem GD {done' : List Nat} {a : Act} (hp : (lsd ops.size done == lsd ops.size done' && done.length == done'.length) = true) (h : Reg P ops Q S m done a) : Reg P ops Q S m done' a:=by
  simp only [Bool.and_eq_true,beq_iff_eq] at hp
  have h1:=h.out
  rw [hp.1,hp.2] at h1
  exact ⟨h1⟩
end
theorem TwoPs.over {w w1 : World} {b : Nat} {vd vm vl : Value} {ps qs : List Page} {l : List Rec} (h : TwoPs w b vd vm ps qs) (hl : OwnRs w b vl l) (hg : w.grownBy w1 vl.ownBlock) : TwoPs w1 b vd vm ps qs:=by
  obtain ⟨okd,okm,h1,h2,h3⟩:=h
  exact ⟨okd,okm,h1,Kd.Nl h2 (I6 hl) FU hg,Kd.Nl h3 (I6 hl) FU hg⟩
end Go.Proofs.YtpjmlpmhgfghbaaGreat
/- Engines in a variable of their own; a call beside a variable that is made at any time. -/
namespace Go.Proofs.YtpjmlpmhgfghbaaGreat
open Go.RowKit Go.Proofs.YtpjmlpmhgfghbaaGreatW.PrintWords Go.Proofs.YtpjmlpmhgfghbaaGreatW.PrintLast Go.Proofs.YtpjmlpmhgfghbaaGreatW.PrintMore
section
variable {P : Program} {ops : Array Oper} {Q : Exit → Act → World → Prop} {S : Array Bool → Act → World → Prop} {m : Nat} {done : List Nat} {L : List Value} {D : List Deferred}
end
theorem reg_later2 {R : Value → Nat → Prop} {G : Prop} (h1 : (∀ a b,R a b) → G) (h2 : ∀ a b,R a b) : G:=h1 h2
/-- An engine in a variable, both of the call's own. -/
structure BZ (w0 w : World) (g : Nat) (e : Eng) : Prop where
  ex : ∃ vd vm vl,Ai w g e vd vm vl ∧ AU w w0.heap.size vd vm vl e
  bel : Below w0.heap.size w0 w
  ge : w0.heap.size ≤ g
theorem BZ.up {w0 w w1 : World} {g : Nat} {e : Eng} (h : BZ w0 w g e) (hb : Below w.heap.size w w1) : BZ w0 w1 g e:=by
  obtain ⟨⟨vd,vm,vl,h1,h2⟩,h3,h4⟩:=h
  exact ⟨⟨vd,vm,vl,h1.up hb,h2.below hb⟩,bj h3 hb,h4⟩
def Hr (w0 : World) (g : Nat) (e : Eng) (x : Ending) (w' : World) : Prop:=(∃ v,x = .returned v) ∧ BZ w0 w' g e
end Go.Proofs.YtpjmlpmhgfghbaaGreat
/- The program's may. -/
namespace Go.Proofs.YtpjmlpmhgfghbaaGreat
open Go.RowKit Go.Proofs.YtpjmlpmhgfghbaaGreatW.PrintWords Go.Proofs.YtpjmlpmhgfghbaaGreatW.PrintLast Go.Proofs.YtpjmlpmhgfghbaaGreatW.PrintMore
set_option maxRecDepth 100000 in
set_option maxHeartbeats 8000000 in
theorem Dt {w0 w : World} {g : Nat} {e : Eng} (tx page : Int) (hlog : AP e.log = true) (h : BZ w0 w g e) : Calls Tryz.prog 176 #[ptr g, .int .i64 tx, .int .i64 page] w fun x w' => x = .returned (.bool (DJ e tx page)) ∧ Below w.heap.size w w':=by
  obtain ⟨⟨vd,vm,vl,hq,ho⟩, -, -⟩:=h
  obtain ⟨Ad,cd,Am,cm,Al,cl,rfl,rfl,rfl, -,hrd⟩:=ho.reads
  have HLOG:=As hlog
  have HC:=As hrd
  have x2:=hq.c2
  have x4:=hq.c4
  clear hq ho hrd hlog
  cases hd : e.down
  · have HD:=As hd
    rw [hd] at x4
    cases h1 : inB tx 1 3
    · have hM : DJ e tx page = false:=by rw [DJ,hd,h1];rfl
      rw [hM]
      have H1:=As h1
      clear hM hd h1
      go_enter Tryz.func176,Tryz.ntmps176
      go_wp2_with (go_at_call 173;refine (C8 tx _).mono ?_;rw [H1.out];rintro x w' ⟨rfl,rfl⟩)
      go_ret
      exact ⟨rfl,Below.refl _ _⟩
    · cases h2 : inB page 0 4
      · have hM : DJ e tx page = false:=by rw [DJ,hd,h1,h2];rfl
        rw [hM]
        have H1:=As h1
        have H2:=As h2
        clear hM hd h1 h2
        go_enter Tryz.func176,Tryz.ntmps176
        go_wp2_with (first
          | (go_at_call 173;refine (C8 tx _).mono ?_;rw [H1.out];rintro x w' ⟨rfl,rfl⟩)
          | (go_at_call 156;refine (Bv page _).mono ?_;rw [H2.out];rintro x w' ⟨rfl,rfl⟩))
        go_ret
        exact ⟨rfl,Below.refl _ _⟩
      · obtain ⟨b,hb⟩ : ∃ b,Fg e.log page (Cf e.log 3) 0 true = b:=⟨_,rfl⟩
        have hM : DJ e tx page = (b.1 == 0 || b.1 == tx):=by
          rw [DJ,hd,h1,h2,show lk e.log page = b.1 by rw [lk,hb]]
          rfl
        rw [hM]
        have H1:=As h1
        have H2:=As h2
        have HBB:=As hb
        clear hM hd h1 h2 hb
        obtain ⟨by_,ok⟩:=b
        rcases BO by_ 0 with ⟨e1,b1,c1⟩ | ⟨e1,b1,c1⟩
        · go_enter Tryz.func176,Tryz.ntmps176
          go_wp2_with (first
            | (go_at_call 173;refine (C8 tx _).mono ?_;rw [H1.out];rintro x w' ⟨rfl,rfl⟩)
            | (go_at_call 156;refine (Bv page _).mono ?_;rw [H2.out];rintro x w' ⟨rfl,rfl⟩)
            | (go_at_call 60;refine (Er (w0:=w) (c:=cl) page (Below.refl _ _) HC.out.l HLOG.out).mono ?_;rw [HBB.out];rintro x w1 ⟨rfl,hb1⟩;have HB1:=As hb1;clear hb1))
          go_ret
          exact ⟨by simp [b1],HB1.out⟩
        · rcases BO by_ tx with ⟨e2,b2,c2⟩ | ⟨e2,b2,c2⟩
          all_goals
            go_enter Tryz.func176,Tryz.ntmps176
            go_wp2_with (first
              | (go_at_call 173;refine (C8 tx _).mono ?_;rw [H1.out];rintro x w' ⟨rfl,rfl⟩)
              | (go_at_call 156;refine (Bv page _).mono ?_;rw [H2.out];rintro x w' ⟨rfl,rfl⟩)
              | (go_at_call 60;refine (Er (w0:=w) (c:=cl) page (Below.refl _ _) HC.out.l HLOG.out).mono ?_;rw [HBB.out];rintro x w1 ⟨rfl,hb1⟩;have HB1:=As hb1;clear hb1))
            go_ret
            exact ⟨by simp [b1,b2],HB1.out⟩
  · have hM : DJ e tx page = false:=by rw [DJ,hd];rfl
    rw [hM]
    rw [hd] at x4
    clear hM hd
    go_enter Tryz.func176,Tryz.ntmps176
    go_wp2
    go_ret
    exact ⟨rfl,Below.refl _ _⟩
/-- A call that hands back an engine of its own, and a yes or no. -/
def CZ (w : World) (e : Eng) (b : Bool) (x : Ending) (w' : World) : Prop := ∃ vd vm vl,x = .returned (.tuple #[e.ag vd vm vl, .bool b]) ∧ AU w' w.heap.size vd vm vl e ∧ Below w.heap.size w w'
theorem Jt (w : World) (b : Nat) : AU w b (.slice none 0 0) (.slice none 0 0) (.slice none 0 0) zE:=⟨⟨fun _ => True,fun _ => False,fun _ _ h => h,Kd.Rq _ _ _ _ _,Kd.Rq _ _ _ _ _⟩,Kd.U3 _ _ _ _ _⟩
/-- An engine's variable laid empty. -/
abbrev XO (w : World) (g : Nat) : World:=((((w.setCell ⟨g,0,none⟩ (.slice none 0 0)).setCell ⟨g,1,none⟩ (.slice none 0 0)).setCell ⟨g,2,none⟩ (.slice none 0 0)).setCell ⟨g,3,none⟩ (.int .i64 0)).setCell ⟨g,4,none⟩ (.bool false)
structure WT (w : World) (g : Nat) : Prop where
  c0 : w.cell? ⟨g,0,none⟩ = some (.slice none 0 0)
  c1 : w.cell? ⟨g,1,none⟩ = some (.slice none 0 0)
  c2 : w.cell? ⟨g,2,none⟩ = some (.slice none 0 0)
  c3 : w.cell? ⟨g,3,none⟩ = some (.int .i64 0)
  c4 : w.cell? ⟨g,4,none⟩ = some (.bool false)
theorem Ai.empty {w : World} {g : Nat} {q : Eng} {ud um ul : Value} (h : Ai w g q ud um ul) : WT (XO w g) g:=
  have hy:=h.Az zE (.slice none 0 0) (.slice none 0 0) (.slice none 0 0)
  ⟨hy.c0,hy.c1,hy.c2,hy.c3,hy.c4⟩
abbrev zEv : Value:=.agg #[.slice none 0 0, .slice none 0 0, .slice none 0 0, .int .i64 0, .bool false]
def GR (e : Eng) (left : Int) : Eng × Bool:=if eOk e = true ∧ 0 ≤ left then (JF e left,true) else (zE,false)
set_option maxRecDepth 100000 in
set_option maxHeartbeats 8000000 in
theorem O5 {w0 w : World} {e : Eng} {Ad Am Al : Option Addr} {cd cm cl : Nat} (left : Int) (hcl : e.log.length ≤ cl) (hb : Below w0.heap.size w0 w) (hr : DY w0 e Ad Am Al) : Calls Tryz.prog 89 #[e.val Ad Am Al cd cm cl, .int .i64 left] w (CZ w (GR e left).1 (GR e left).2):=by
  have HR:=As (hr.up hb)
  clear hr hb
  obtain ⟨w1,hw1⟩ : ∃ w1,w.alloc (e.obox (.slice Ad e.disk.length cd) (.slice Am e.mem.length cm) (.slice Al e.log.length cl)) = w1:=⟨_,rfl⟩
  obtain ⟨w2,hw2⟩ : ∃ w2,w1.alloc (zE.obox (.slice none 0 0) (.slice none 0 0) (.slice none 0 0)) = w2:=⟨_,rfl⟩
  have hz1 : w1.heap.size = w.heap.size + 1:=by rw [← hw1];exact BF _ _
  have hz2 : w2.heap.size = w.heap.size + 2:=by rw [← hw2,BF,hz1]
  have hb12 : Below w1.heap.size w1 w2:=by rw [← hw2];exact Ah (Below.refl _ _) _
  have HB2 : Ac (Below w.heap.size w w2):=⟨by rw [← hw2, ← hw1];exact Ah (Ah (Below.refl _ _) _) _⟩
  have HQ2 : Ac (Ai w2 w.heap.size e (.slice Ad e.disk.length cd) (.slice Am e.mem.length cm) (.slice Al e.log.length cl)):=⟨Ai.up (by rw [← hw1];exact Ai.mk1 _ _ _ _ _) hb12⟩
  have HP2 : Ac (Ai w2 (w.heap.size + 1) zE (.slice none 0 0) (.slice none 0 0) (.slice none 0 0)):=⟨by rw [← hw2, ← hz1];exact Ai.mk1 _ _ _ _ _⟩
  have HW2 : Ac ((w.alloc (e.obox (.slice Ad e.disk.length cd) (.slice Am e.mem.length cm) (.slice Al e.log.length cl))).alloc (zE.obox (.slice none 0 0) (.slice none 0 0) (.slice none 0 0)) = w2):=⟨by rw [hw1,hw2]⟩
  have HZ2:=As hz2
  clear hw1 hw2 hz1 hz2 hb12
  have x2:=HQ2.out.c2
  have x3:=HQ2.out.c3
  cases hv : eOk e
  · have HV:=As hv
    have hE : GR e left = (zE,false):=by rw [GR,if_neg (by rw [hv];simp)]
    rw [hE]
    clear hv hE
    go_enter Tryz.func89,Tryz.ntmps89
    go_wp2_with (go_at_call 36;rw [show (w.alloc (Obj.cells #[Value.slice Ad e.disk.length cd,Value.slice Am e.mem.length cm,Value.slice Al e.log.length cl,Value.int IntKind.i64 e.safe,Value.bool e.down] 28)).alloc (Obj.cells #[Value.slice none 0 0,Value.slice none 0 0,Value.slice none 0 0,Value.int IntKind.i64 0,Value.bool false] 28) = w2 from HW2.out];refine (AJ (cd:=cd) (cm:=cm) HV.out hcl HB2.out HR.out).mono ?_;rintro x w3 ⟨rfl,hb3⟩;have HB3:=As (bj HB2.out hb3);have HP3:=As (HP2.out.up hb3);have y0:=HP3.out.c0;have y1:=HP3.out.c1;have y2:=HP3.out.c2;have y3:=HP3.out.c3;have y4:=HP3.out.c4;have f0:=HP3.out.frz 0;have f1:=HP3.out.frz 1;have f2:=HP3.out.frz 2;have f3:=HP3.out.frz 3;have f4:=HP3.out.frz 4;clear hb3)
    obtain ⟨z0,z1,z2,z3,z4⟩:=HP3.out.empty
    exact bodyPost_ret (v:=.tuple #[zEv, .bool false]) (by simp [results,Tryz.results89,go_sem,z0,z1,z2,z3,z4]) rfl ⟨_,_,_,rfl,Jt _ _,Ao (g:=w.heap.size + 1) HB3.out (by omega) zE _ _ _⟩
  · have HV:=As hv
    have HF:=As (Fe.1 hv)
    clear hv
    rcases lts left 0 with ⟨e1,b1,c1⟩ | ⟨e1,b1,c1⟩
    · have hE : GR e left = (zE,false):=by rw [GR,if_neg (by have:=e1.out;omega)]
      rw [hE]
      clear hE
      have hl0:=e1.out
      go_enter Tryz.func89,Tryz.ntmps89
      go_wp2_with (go_at_call 36;rw [show (w.alloc (Obj.cells #[Value.slice Ad e.disk.length cd,Value.slice Am e.mem.length cm,Value.slice Al e.log.length cl,Value.int IntKind.i64 e.safe,Value.bool e.down] 28)).alloc (Obj.cells #[Value.slice none 0 0,Value.slice none 0 0,Value.slice none 0 0,Value.int IntKind.i64 0,Value.bool false] 28) = w2 from HW2.out];refine (AJ (cd:=cd) (cm:=cm) HV.out hcl HB2.out HR.out).mono ?_;rintro x w3 ⟨rfl,hb3⟩;have HB3:=As (bj HB2.out hb3);have HP3:=As (HP2.out.up hb3);have y0:=HP3.out.c0;have y1:=HP3.out.c1;have y2:=HP3.out.c2;have y3:=HP3.out.c3;have y4:=HP3.out.c4;have f0:=HP3.out.frz 0;have f1:=HP3.out.frz 1;have f2:=HP3.out.frz 2;have f3:=HP3.out.frz 3;have f4:=HP3.out.frz 4;clear hb3)
      obtain ⟨z0,z1,z2,z3,z4⟩:=HP3.out.empty
      exact bodyPost_ret (v:=.tuple #[zEv, .bool false]) (by simp [results,Tryz.results89,go_sem,z0,z1,z2,z3,z4]) rfl ⟨_,_,_,rfl,Jt _ _,Ao (g:=w.heap.size + 1) HB3.out (by omega) zE _ _ _⟩
    · have hE : GR e left = (JF e left,true):=by rw [GR,if_pos ⟨HV.out,e1.out⟩]
      rw [hE]
      clear hE
      have hl0:=e1.out
      go_enter Tryz.func89,Tryz.ntmps89
      go_wp2_with (go_at_call 36;rw [show (w.alloc (Obj.cells #[Value.slice Ad e.disk.length cd,Value.slice Am e.mem.length cm,Value.slice Al e.log.length cl,Value.int IntKind.i64 e.safe,Value.bool e.down] 28)).alloc (Obj.cells #[Value.slice none 0 0,Value.slice none 0 0,Value.slice none 0 0,Value.int IntKind.i64 0,Value.bool false] 28) = w2 from HW2.out];refine (AJ (cd:=cd) (cm:=cm) HV.out hcl HB2.out HR.out).mono ?_;rintro x w3 ⟨rfl,hb3⟩;have HB3:=As (bj HB2.out hb3);have HP3:=As (HP2.out.up hb3);have y0:=HP3.out.c0;have y1:=HP3.out.c1;have y2:=HP3.out.c2;have y3:=HP3.out.c3;have y4:=HP3.out.c4;have f0:=HP3.out.frz 0;have f1:=HP3.out.frz 1;have f2:=HP3.out.frz 2;have f3:=HP3.out.frz 3;have f4:=HP3.out.frz 4;replace x2:=bc hb3 x2;replace x3:=bc hb3 x3;have HX3:=As hb3;clear hb3)
      obtain ⟨n,hn⟩ : ∃ n : Nat,ML e left = n:=⟨_,rfl⟩
      have hle:=NN (left:=left) HF.out.s0 HF.out.s1
      rw [hn] at hle
      have hmax : max (min left (e.log.length : Int)) e.safe = (n : Int):=by rw [← hn];unfold ML;have:=HF.out.s0;have:=HF.out.s1;omega
      rw [hmax]
      have hncl : n ≤ cl:=by omega
      have hl : (e.log.take n).length = n:=by rw [List.length_take];omega
      have HLn:=As hl
      have HE:=As (show JF e left = ⟨e.disk,e.disk,e.log.take n,e.safe,true⟩ by rw [JF,hn])
      have hgd:=Aw HF.out.disk
      have HGD:=As hgd
      have hm150:=Be HF.out.log
      have hclone : ∀ wx,Below w.heap.size w wx → Calls Tryz.prog 90 #[.slice Al n cl] wx (X3 wx (e.log.take n)):=fun wx hb => by
        have h:=LF (c:=cl) (by rw [hl];omega) hb (Pm HR.out.l (by omega))
        rw [hl] at h
        exact h
      have x0:=HQ2.out.c0
      clear hgd hle hmax hl hn y0 y1 y2 y3 y4 f0 f1 f2 f3 f4
      refine AX (fun lx a wx => (Below w.heap.size w wx ∧ w.heap.size + 2 ≤ wx.heap.size ∧ Ai wx w.heap.size e (.slice Ad e.disk.length cd) (.slice Am e.mem.length cm) (.slice Al e.log.length cl) ∧ Ai wx (w.heap.size + 1) zE (.slice none 0 0) (.slice none 0 0) (.slice none 0 0)) ∧ (Sl 2 25 (fun v wx => E9 wx (w.heap.size + 2) v e.disk) lx a wx ∧ (Sl2 2 25 5 28 (fun v u wx => TwoPs wx (w.heap.size + 2) v u e.disk e.disk) lx a wx ∧ Sl 10 33 (fun v wx => OwnRs wx (w.heap.size + 2) v (e.log.take n)) lx a wx))) 14 rfl (by kernel_rfl) (⟨⟨Ak HB3.out,by have:=HZ2.out;have:=HX3.out.size;show _ ≤ w3.heap.size;omega,HQ2.out.up (Ak HX3.out),HP2.out.up (Ak HX3.out)⟩,Bc,OM,Bc⟩) (fun HT => ?_)
      refine Ae (i:=0) (v:=?_) HT rfl (by kernel_rfl) rfl (kA Aa (kA (Ab rfl rfl) (kA (BR rfl rfl rfl rfl) (Ab rfl rfl)))) (by rfl) (fun _ _ _ h => h) (fun lx ax wx hS => ?_) ?_;rotate_left;(obtain ⟨⟨-, -,hq, -⟩, -⟩:=hS;have x0:=hq.c0;have x1:=hq.c1;have x2:=hq.c2;have x3:=hq.c3;clear hq;go_simp;with_reducible rfl);rotate_left;simp only [sc0,sc1]
      refine Ae (i:=1) (v:=?_) HT rfl (by kernel_rfl) rfl (kA Aa (kA (Ab rfl rfl) (kA (BR rfl rfl rfl rfl) (Ab rfl rfl)))) (by rfl) (fun _ _ _ h => h) (fun lx ax wx hS => ?_) ?_;rotate_left;(obtain ⟨⟨-, -,hq, -⟩, -⟩:=hS;have x0:=hq.c0;have x1:=hq.c1;have x2:=hq.c2;have x3:=hq.c3;clear hq;go_simp;with_reducible rfl);rotate_left;simp only [sc0,sc1]
      refine Ae (i:=3) (v:=?_) HT rfl (by kernel_rfl) rfl (kA Aa (kA (Ab rfl rfl) (kA (BR rfl rfl rfl rfl) (Ab rfl rfl)))) (by rfl) (fun _ _ _ h => h) (fun lx ax wx hS => ?_) ?_;rotate_left;(obtain ⟨⟨-, -,hq, -⟩, -⟩:=hS;have x0:=hq.c0;have x1:=hq.c1;have x2:=hq.c2;have x3:=hq.c3;clear hq;go_simp;with_reducible rfl);rotate_left;simp only [sc0,sc1]
      refine Ae (i:=4) (v:=?_) HT rfl (by kernel_rfl) rfl (kA Aa (kA (Ab rfl rfl) (kA (BR rfl rfl rfl rfl) (Ab rfl rfl)))) (by rfl) (fun _ _ _ h => h) (fun lx ax wx hS => ?_) ?_;rotate_left;(obtain ⟨⟨-, -,hq, -⟩, -⟩:=hS;have x0:=hq.c0;have x1:=hq.c1;have x2:=hq.c2;have x3:=hq.c3;clear hq;go_simp;with_reducible rfl);rotate_left;simp only [sc0,sc1]
      refine Ae (i:=6) (v:=?_) HT rfl (by kernel_rfl) rfl (kA Aa (kA (Ab rfl rfl) (kA (BR rfl rfl rfl rfl) (Ab rfl rfl)))) (by rfl) (fun _ _ _ h => h) (fun lx ax wx hS => ?_) ?_;rotate_left;(obtain ⟨⟨-, -,hq, -⟩, -⟩:=hS;have x0:=hq.c0;have x1:=hq.c1;have x2:=hq.c2;have x3:=hq.c3;clear hq;go_simp;with_reducible rfl);rotate_left;simp only [sc0,sc1]
      refine Ae (i:=7) (v:=?_) HT rfl (by kernel_rfl) rfl (kA Aa (kA (Ab rfl rfl) (kA (BR rfl rfl rfl rfl) (Ab rfl rfl)))) (by rfl) (fun _ _ _ h => h) (fun lx ax wx hS => ?_) ?_;rotate_left;(obtain ⟨⟨-, -,hq, -⟩, -⟩:=hS;have x0:=hq.c0;have x1:=hq.c1;have x2:=hq.c2;have x3:=hq.c3;clear hq;go_simp;with_reducible rfl);rotate_left;simp only [sc0,sc1]
      refine Ae (i:=8) (v:=?_) HT rfl (by kernel_rfl) rfl (kA Aa (kA (Ab rfl rfl) (kA (BR rfl rfl rfl rfl) (Ab rfl rfl)))) (by rfl) (fun _ _ _ h => h) (fun lx ax wx hS => ?_) ?_;rotate_left;(obtain ⟨⟨-, -,hq, -⟩, -⟩:=hS;have x0:=hq.c0;have x1:=hq.c1;have x2:=hq.c2;have x3:=hq.c3;clear hq;go_simp;with_reducible rfl);rotate_left;simp only [sc0,sc1]
      refine Ae (i:=9) (v:=?_) HT rfl (by kernel_rfl) rfl (kA Aa (kA (Ab rfl rfl) (kA (BR rfl rfl rfl rfl) (Ab rfl rfl)))) (by rfl) (fun _ _ _ h => h) (fun lx ax wx hS => ?_) ?_;rotate_left;(obtain ⟨⟨-, -,hq, -⟩, -⟩:=hS;have x0:=hq.c0;have x1:=hq.c1;have x2:=hq.c2;have x3:=hq.c3;clear hq;go_simp;with_reducible rfl);rotate_left;simp only [sc0,sc1]
      refine Ae (i:=11) (v:=?_) HT rfl (by kernel_rfl) rfl (kA Aa (kA (Ab rfl rfl) (kA (BR rfl rfl rfl rfl) (Ab rfl rfl)))) (by rfl) (fun _ _ _ h => h) (fun lx ax wx hS => ?_) ?_;rotate_left;(obtain ⟨⟨-, -,hq, -⟩, -⟩:=hS;have x0:=hq.c0;have x1:=hq.c1;have x2:=hq.c2;have x3:=hq.c3;clear hq;go_simp;with_reducible rfl);rotate_left;simp only [sc0,sc1]
      refine Ae (i:=12) (v:=?_) HT rfl (by kernel_rfl) rfl (kA Aa (kA (Ab rfl rfl) (kA (BR rfl rfl rfl rfl) (Ab rfl rfl)))) (by rfl) (fun _ _ _ h => h) (fun lx ax wx hS => ?_) ?_;rotate_left;(obtain ⟨⟨-, -,hq, -⟩, -⟩:=hS;have x0:=hq.c0;have x1:=hq.c1;have x2:=hq.c2;have x3:=hq.c3;clear hq;go_simp;with_reducible rfl);rotate_left;simp only [sc0,sc1]
      refine C9 (i:=2) (f:=49) (args:=#[.slice Ad e.disk.length cd]) (fun v => ∃ A1 c1,v = .slice A1 e.disk.length c1) rfl (by kernel_rfl) rfl Tryz.func49 (by kernel_rfl) rfl rfl (by rfl) (by simp only [List.map_toArray,List.map_cons,List.map_nil];rfl) (fun wx hS => (Ez (Gr HGD.out) (by have:=HGD.out.1;omega) hS.1.1 HR.out.d).mono (by rintro x w6 ⟨v,rfl,ho,hb⟩;obtain ⟨A1,c1,rfl, -, -⟩:=Kd.Cn ho;exact ⟨_,rfl,⟨A1,c1,rfl⟩,⟨bj hS.1.1 hb,Nat.le_trans hS.1.2.1 hb.size,hS.1.2.2.1.up hb,hS.1.2.2.2.up hb⟩,fun _ => Kd.EQ ho hS.1.2.1,fun _ h => (AL h (by kernel_rfl)).elim,fun h => (AL h (by kernel_rfl)).elim⟩)) (fun vx hg => ?_);simp only [sc0,sc1]
      obtain ⟨Bd,dd,rfl⟩:=hg
      refine C9 (i:=5) (f:=49) (args:=#[.slice Ad e.disk.length cd]) (fun v => ∃ A1 c1,v = .slice A1 e.disk.length c1) rfl (by kernel_rfl) rfl Tryz.func49 (by kernel_rfl) rfl rfl (by rfl) (by simp only [List.map_toArray,List.map_cons,List.map_nil];rfl) (fun wx hS => (Ez (Gr HGD.out) (by have:=HGD.out.1;omega) hS.1.1 HR.out.d).mono (by rintro x w6 ⟨v,rfl,ho,hb⟩;obtain ⟨A1,c1,rfl, -, -⟩:=Kd.Cn ho;exact ⟨_,rfl,⟨A1,c1,rfl⟩,⟨bj hS.1.1 hb,Nat.le_trans hS.1.2.1 hb.size,hS.1.2.2.1.up hb,hS.1.2.2.2.up hb⟩,fun _ => Kd.Br (hS.2.1 (by kernel_rfl)) hb,fun _ _ => TwoPs.mk (hS.2.1 (by kernel_rfl)) ho hb hS.1.2.1,fun h => (AL h (by kernel_rfl)).elim⟩)) (fun vx hg => ?_);simp only [sc0,sc1]
      obtain ⟨Bm,dm,rfl⟩:=hg
      refine C9 (i:=10) (f:=90) (args:=#[.slice Al n cl]) (fun v => ∃ A1 c1,v = .slice A1 n c1) rfl (by kernel_rfl) rfl Tryz.func90 (by kernel_rfl) rfl rfl (by rfl) (by simp only [List.map_toArray,List.map_cons,List.map_nil];rfl) (fun wx hS => (hclone wx hS.1.1).mono (by rintro x w6 ⟨v,rfl,ho,hb⟩;obtain ⟨A1,c1,rfl, -, -⟩:=Kd.DI ho;rw [HLn.out] at ho ⊢;exact ⟨_,rfl,⟨A1,c1,rfl⟩,⟨bj hS.1.1 hb,Nat.le_trans hS.1.2.1 hb.size,hS.1.2.2.1.up hb,hS.1.2.2.2.up hb⟩,fun _ => Kd.Br (hS.2.1 (by kernel_rfl)) hb,fun _ _ => (hS.2.2.1 (by kernel_rfl) (by kernel_rfl)).below hb,fun _ => Kd.Gu ho hS.1.2.1⟩)) (fun vx hg => ?_);simp only [sc0,sc1]
      obtain ⟨Bl,dl,rfl⟩:=hg
      refine Ae (i:=13) (v:=?_) HT rfl (by kernel_rfl) rfl (kA Aa (kA (Ab rfl rfl) (kA (BR rfl rfl rfl rfl) (Ab rfl rfl)))) (by rfl) (fun _ _ _ h => h) (fun lx ax wx hS => ?_) ?_;rotate_left;(go_simp;with_reducible rfl);rotate_left;simp only [sc0,sc1]
      refine Cg (i:=14) (by kernel_rfl) rfl (fun wx hS => ?_)
      obtain ⟨⟨h1,h2, -,hy⟩, -,hs2,hs3⟩:=hS
      obtain ⟨E,hEE⟩ : ∃ E : Eng,(⟨e.disk,e.disk,e.log.take n,e.safe,true⟩ : Eng) = E:=⟨_,rfl⟩
      have ho : AU wx (w.heap.size + 2) (.slice Bd e.disk.length dd) (.slice Bm e.disk.length dm) (.slice Bl n dl) E:=by
        rw [← hEE]
        exact ⟨hs2 (by kernel_rfl) (by kernel_rfl),hs3 (by kernel_rfl)⟩
      have HEE:=As hEE
      clear hs2 hs3 hEE
      have y0:=hy.c0
      have y1:=hy.c1
      have y2:=hy.c2
      have y3:=hy.c3
      have y4:=hy.c4
      have f0:=hy.frz 0
      have f1:=hy.frz 1
      have f2:=hy.frz 2
      have f3:=hy.frz 3
      have f4:=hy.frz 4
      refine BJ (w1:=Go.Proofs.YtpjmlpmhgfghbaaGreat.Az wx (w.heap.size + 1) ⟨e.disk,e.disk,e.log.take n,e.safe,true⟩ (.slice Bd e.disk.length dd) (.slice Bm e.disk.length dm) (.slice Bl n dl)) rfl (by rfl) (by go_simp) ?_
      have hy2:=hy.Az ⟨e.disk,e.disk,e.log.take n,e.safe,true⟩ (.slice Bd e.disk.length dd) (.slice Bm e.disk.length dm) (.slice Bl n dl)
      have ho2:=ho.Az (f:=⟨e.disk,e.disk,e.log.take n,e.safe,true⟩) (xd:=.slice Bd e.disk.length dd) (xm:=.slice Bm e.disk.length dm) (xl:=.slice Bl n dl) hy
      have h3:=Ao (g:=w.heap.size + 1) h1 (by omega) ⟨e.disk,e.disk,e.log.take n,e.safe,true⟩ (.slice Bd e.disk.length dd) (.slice Bm e.disk.length dm) (.slice Bl n dl)
      obtain ⟨W8,hW8⟩ : ∃ W8,Go.Proofs.YtpjmlpmhgfghbaaGreat.Az wx (w.heap.size + 1) ⟨e.disk,e.disk,e.log.take n,e.safe,true⟩ (.slice Bd e.disk.length dd) (.slice Bm e.disk.length dm) (.slice Bl n dl) = W8:=⟨_,rfl⟩
      rw [hW8] at hy2 ho2 h3 ⊢
      clear hW8
      have z0:=hy2.c0
      have z1:=hy2.c1
      have z2:=hy2.c2
      have z3:=hy2.c3
      have z4:=hy2.c4
      simp only at z0 z1 z2 z3 z4
      refine KA (i:=15) (by kernel_rfl) ?_
      refine BX (w1:=W8) (.bool true) rfl rfl (by rfl) (by go_simp) ?_
      refine BQ (by kernel_rfl) ?_
      go_wp2
      exact bodyPost_ret (v:=.tuple #[.agg #[.slice Bd e.disk.length dd, .slice Bm e.disk.length dm, .slice Bl n dl, .int .i64 e.safe, .bool true], .bool true]) (by simp [results,Tryz.results89,go_sem,z0,z1,z2,z3,z4]) rfl ⟨_,_,_,by rw [HE.out],by rw [HE.out,HEE.out];exact ho2.lower (by omega),h3⟩
set_option maxRecDepth 100000 in
set_option maxHeartbeats 16000000 in
theorem Jb {w0 w : World} {e : Eng} {Ad Am Al : Option Addr} {cd cm cl : Nat} (tx page : Int) {p6 p7 p8 p9 : Value} {b : Bool} {X : Eng} (hok : eOk e = true) (hcl : e.log.length ≤ cl) (hb : Below w0.heap.size w0 w) (hr : DY w0 e Ad Am Al)
    (hh : DJ e tx page = true → ∀ wb wx g,Below w.heap.size w wb → BZ wb wx g e → Calls Tryz.prog 139 #[ptr g,p7,p8,p9] wx fun x w' => x = .returned (.bool b) ∧ Below wx.heap.size wx w')
    (hw : DJ e tx page = true → b = true → ∀ wb wx g,Below w.heap.size w wb → BZ wb wx g e → Calls Tryz.prog 141 #[ptr g,p6,p7,p8,p9] wx (Hr wb g X))
    (hX : DJ e tx page = true → b = true → AP X.log = true) : Calls Tryz.prog 140 #[e.val Ad Am Al cd cm cl, .int .i64 tx, .int .i64 page, .func (.func 139) #[] #[p7,p8,p9], .func (.func 141) #[] #[p6,p7,p8,p9]] w (CZ w (Bh e (DJ e tx page && b) X).1 (Bh e (DJ e tx page && b) X).2):=by
  have HR:=As (hr.up hb)
  have HH:=As hh
  have HW:=As hw
  have HLX:=As hX
  have HV:=As hok
  have HF:=As (Fe.1 hok)
  have HLG:=As (Be HF.out.log)
  clear hr hb hh hw hX hok
  obtain ⟨w1,hw1⟩ : ∃ w1,w.alloc (e.obox (.slice Ad e.disk.length cd) (.slice Am e.mem.length cm) (.slice Al e.log.length cl)) = w1:=⟨_,rfl⟩
  obtain ⟨w2,hw2⟩ : ∃ w2,w1.alloc (zE.obox (.slice none 0 0) (.slice none 0 0) (.slice none 0 0)) = w2:=⟨_,rfl⟩
  have hz1 : w1.heap.size = w.heap.size + 1:=by rw [← hw1];exact BF _ _
  have hz2 : w2.heap.size = w.heap.size + 2:=by rw [← hw2,BF,hz1]
  have hb12 : Below w1.heap.size w1 w2:=by rw [← hw2];exact Ah (Below.refl _ _) _
  have HB2 : Ac (Below w.heap.size w w2):=⟨by rw [← hw2, ← hw1];exact Ah (Ah (Below.refl _ _) _) _⟩
  have HQ2 : Ac (Ai w2 w.heap.size e (.slice Ad e.disk.length cd) (.slice Am e.mem.length cm) (.slice Al e.log.length cl)):=⟨Ai.up (by rw [← hw1];exact Ai.mk1 _ _ _ _ _) hb12⟩
  have HP2 : Ac (Ai w2 (w.heap.size + 1) zE (.slice none 0 0) (.slice none 0 0) (.slice none 0 0)):=⟨by rw [← hw2, ← hz1];exact Ai.mk1 _ _ _ _ _⟩
  have HW2 : Ac ((w.alloc (e.obox (.slice Ad e.disk.length cd) (.slice Am e.mem.length cm) (.slice Al e.log.length cl))).alloc (zE.obox (.slice none 0 0) (.slice none 0 0) (.slice none 0 0)) = w2):=⟨by rw [hw1,hw2]⟩
  have HZ2:=As hz2
  clear hw1 hw2 hz1 hz2 hb12
  have x0:=HQ2.out.c0
  have x1:=HQ2.out.c1
  have x2:=HQ2.out.c2
  have x3:=HQ2.out.c3
  have x4:=HQ2.out.c4
  cases hm : DJ e tx page
  · have HM:=As hm
    rw [show Bh e (false && b) X = (e,false) by rw [Bh,if_neg (by simp)]]
    clear hm
    go_enter Tryz.func140,Tryz.ntmps140
    go_wp2_with (first
      | (go_at_call 36;rw [show (w.alloc (Obj.cells #[Value.slice Ad e.disk.length cd,Value.slice Am e.mem.length cm,Value.slice Al e.log.length cl,Value.int IntKind.i64 e.safe,Value.bool e.down] 28)).alloc (Obj.cells #[Value.slice none 0 0,Value.slice none 0 0,Value.slice none 0 0,Value.int IntKind.i64 0,Value.bool false] 28) = w2 from HW2.out];refine (AJ (cd:=cd) (cm:=cm) HV.out hcl HB2.out HR.out).mono ?_;rintro x w3 ⟨rfl,hb3⟩;have HX3:=As hb3;replace x0:=bc hb3 x0;replace x1:=bc hb3 x1;replace x2:=bc hb3 x2;replace x3:=bc hb3 x3;replace x4:=bc hb3 x4;clear hb3)
      | (go_at_call 38;refine (AQ (cd:=cd) (cm:=cm) (cl:=cl) (Aw HF.out.disk) (Aw HF.out.mem) HLG.out (bj HB2.out HX3.out) HR.out).mono ?_;rintro x w4 ⟨vd,vm,vl,rfl,ho,hb4⟩;obtain ⟨Bd,dd,Bm,dm,Bl,dl,rfl,rfl,rfl, -, -⟩:=ho.reads;have HO4:=As ho;have HX4:=As hb4;replace x0:=bc hb4 x0;replace x1:=bc hb4 x1;replace x2:=bc hb4 x2;replace x3:=bc hb4 x3;replace x4:=bc hb4 x4;clear ho hb4)
      | (refine Ay (vd:=.slice Bd e.disk.length dd) (vm:=.slice Bm e.mem.length dm) (vl:=.slice Bl e.log.length dl) e ?_;intro w5 hb5 _ hq5;have HG5 : Ac (BZ w3 w5 w4.heap.size e):=⟨⟨⟨_,_,_,hq5,HO4.out.below hb5⟩,bj HX4.out hb5,HX4.out.size⟩⟩;replace x0:=bc hb5 x0;replace x1:=bc hb5 x1;replace x2:=bc hb5 x2;replace x3:=bc hb5 x3;replace x4:=bc hb5 x4;clear hb5 hq5)
      | (go_at_call 176;refine (Dt tx page HF.out.log HG5.out).mono ?_;rw [HM.out];rintro x w6 ⟨rfl,hb6⟩;have HG6:=As (HG5.out.up hb6);replace x0:=bc hb6 x0;replace x1:=bc hb6 x1;replace x2:=bc hb6 x2;replace x3:=bc hb6 x3;replace x4:=bc hb6 x4;clear hb6;clear x0 x1 x2 x3 x4;obtain ⟨ud,um,ul,hq,ho⟩:=HG6.out.ex;obtain ⟨Ed,n1,Em,n2,El,n3,rfl,rfl,rfl, -, -⟩:=ho.reads;have HO7:=As ho;have q0:=hq.c0;have q1:=hq.c1;have q2:=hq.c2;have q3:=hq.c3;have q4:=hq.c4;have hx2:=bj HX3.out HG6.out.bel;have HX7:=As HG6.out.bel;have hp:=HP2.out.up hx2;have HP7:=As hp;have y0:=hp.c0;have y1:=hp.c1;have y2:=hp.c2;have y3:=hp.c3;have y4:=hp.c4;have f0:=hp.frz 0;have f1:=hp.frz 1;have f2:=hp.frz 2;have f3:=hp.frz 3;have f4:=hp.frz 4;clear hp;clear hq ho hx2))
    have hz:=HZ2.out
    have hn3:=HX3.out.size
    have hy:=HP7.out.Az e (.slice Ed e.disk.length n1) (.slice Em e.mem.length n2) (.slice El e.log.length n3)
    have h1:=HO7.out.Az (f:=e) (xd:=.slice Ed e.disk.length n1) (xm:=.slice Em e.mem.length n2) (xl:=.slice El e.log.length n3) HP7.out
    have h2:=Ao (g:=w.heap.size + 1) (bj HB2.out (bj HX3.out HX7.out)) (by omega) e (.slice Ed e.disk.length n1) (.slice Em e.mem.length n2) (.slice El e.log.length n3)
    have z0:=hy.c0
    have z1:=hy.c1
    have z2:=hy.c2
    have z3:=hy.c3
    have z4:=hy.c4
    exact bodyPost_ret (v:=.tuple #[e.ag (.slice Ed e.disk.length n1) (.slice Em e.mem.length n2) (.slice El e.log.length n3), .bool false]) (by simp [results,Tryz.results140,go_sem,z0,z1,z2,z3,z4]) rfl ⟨_,_,_,rfl,h1.lower (by omega),h2⟩
  · have HM:=As hm
    clear hm
    cases b
    · rw [show Bh e (true && false) X = (e,false) by rw [Bh,if_neg (by simp)]]
      go_enter Tryz.func140,Tryz.ntmps140
      go_wp2_with (first
        | (go_at_call 36;rw [show (w.alloc (Obj.cells #[Value.slice Ad e.disk.length cd,Value.slice Am e.mem.length cm,Value.slice Al e.log.length cl,Value.int IntKind.i64 e.safe,Value.bool e.down] 28)).alloc (Obj.cells #[Value.slice none 0 0,Value.slice none 0 0,Value.slice none 0 0,Value.int IntKind.i64 0,Value.bool false] 28) = w2 from HW2.out];refine (AJ (cd:=cd) (cm:=cm) HV.out hcl HB2.out HR.out).mono ?_;rintro x w3 ⟨rfl,hb3⟩;have HX3:=As hb3;replace x0:=bc hb3 x0;replace x1:=bc hb3 x1;replace x2:=bc hb3 x2;replace x3:=bc hb3 x3;replace x4:=bc hb3 x4;clear hb3)
        | (go_at_call 38;refine (AQ (cd:=cd) (cm:=cm) (cl:=cl) (Aw HF.out.disk) (Aw HF.out.mem) HLG.out (bj HB2.out HX3.out) HR.out).mono ?_;rintro x w4 ⟨vd,vm,vl,rfl,ho,hb4⟩;obtain ⟨Bd,dd,Bm,dm,Bl,dl,rfl,rfl,rfl, -, -⟩:=ho.reads;have HO4:=As ho;have HX4:=As hb4;replace x0:=bc hb4 x0;replace x1:=bc hb4 x1;replace x2:=bc hb4 x2;replace x3:=bc hb4 x3;replace x4:=bc hb4 x4;clear ho hb4)
        | (refine Ay (vd:=.slice Bd e.disk.length dd) (vm:=.slice Bm e.mem.length dm) (vl:=.slice Bl e.log.length dl) e ?_;intro w5 hb5 _ hq5;have HG5 : Ac (BZ w3 w5 w4.heap.size e):=⟨⟨⟨_,_,_,hq5,HO4.out.below hb5⟩,bj HX4.out hb5,HX4.out.size⟩⟩;replace x0:=bc hb5 x0;replace x1:=bc hb5 x1;replace x2:=bc hb5 x2;replace x3:=bc hb5 x3;replace x4:=bc hb5 x4;clear hb5 hq5)
        | (go_at_call 176;refine (Dt tx page HF.out.log HG5.out).mono ?_;rw [HM.out];rintro x w6 ⟨rfl,hb6⟩;have HG6:=As (HG5.out.up hb6);replace x0:=bc hb6 x0;replace x1:=bc hb6 x1;replace x2:=bc hb6 x2;replace x3:=bc hb6 x3;replace x4:=bc hb6 x4;clear hb6)
        | (go_at_call 139;refine (HH.out HM.out w3 w6 w4.heap.size (bj HB2.out HX3.out) HG6.out).mono ?_;rintro x w7 ⟨rfl,hb7⟩;have HG7:=As (HG6.out.up hb7);replace x0:=bc hb7 x0;replace x1:=bc hb7 x1;replace x2:=bc hb7 x2;replace x3:=bc hb7 x3;replace x4:=bc hb7 x4;clear hb7;clear x0 x1 x2 x3 x4;obtain ⟨ud,um,ul,hq,ho⟩:=HG7.out.ex;obtain ⟨Ed,n1,Em,n2,El,n3,rfl,rfl,rfl, -, -⟩:=ho.reads;have HO7:=As ho;have q0:=hq.c0;have q1:=hq.c1;have q2:=hq.c2;have q3:=hq.c3;have q4:=hq.c4;have hx2:=bj HX3.out HG7.out.bel;have HX7:=As HG7.out.bel;have hp:=HP2.out.up hx2;have HP7:=As hp;have y0:=hp.c0;have y1:=hp.c1;have y2:=hp.c2;have y3:=hp.c3;have y4:=hp.c4;have f0:=hp.frz 0;have f1:=hp.frz 1;have f2:=hp.frz 2;have f3:=hp.frz 3;have f4:=hp.frz 4;clear hp;clear hq ho hx2))
      have hz:=HZ2.out
      have hn3:=HX3.out.size
      have hy:=HP7.out.Az e (.slice Ed e.disk.length n1) (.slice Em e.mem.length n2) (.slice El e.log.length n3)
      have h1:=HO7.out.Az (f:=e) (xd:=.slice Ed e.disk.length n1) (xm:=.slice Em e.mem.length n2) (xl:=.slice El e.log.length n3) HP7.out
      have h2:=Ao (g:=w.heap.size + 1) (bj HB2.out (bj HX3.out HX7.out)) (by omega) e (.slice Ed e.disk.length n1) (.slice Em e.mem.length n2) (.slice El e.log.length n3)
      have z0:=hy.c0
      have z1:=hy.c1
      have z2:=hy.c2
      have z3:=hy.c3
      have z4:=hy.c4
      exact bodyPost_ret (v:=.tuple #[e.ag (.slice Ed e.disk.length n1) (.slice Em e.mem.length n2) (.slice El e.log.length n3), .bool false]) (by simp [results,Tryz.results140,go_sem,z0,z1,z2,z3,z4]) rfl ⟨_,_,_,rfl,h1.lower (by omega),h2⟩
    · cases hfx : Im X.log
      all_goals have HFX:=As hfx;have HWW:=As (HW.out HM.out rfl);have HLL:=As (HLX.out HM.out rfl);clear HW HLX
      · rw [show Bh e (true && true) X = (e,false) by rw [Bh,if_neg (by rw [hfx];simp)]]
        clear hfx
        go_enter Tryz.func140,Tryz.ntmps140
        go_wp2_with (first
          | (go_at_call 36;rw [show (w.alloc (Obj.cells #[Value.slice Ad e.disk.length cd,Value.slice Am e.mem.length cm,Value.slice Al e.log.length cl,Value.int IntKind.i64 e.safe,Value.bool e.down] 28)).alloc (Obj.cells #[Value.slice none 0 0,Value.slice none 0 0,Value.slice none 0 0,Value.int IntKind.i64 0,Value.bool false] 28) = w2 from HW2.out];refine (AJ (cd:=cd) (cm:=cm) HV.out hcl HB2.out HR.out).mono ?_;rintro x w3 ⟨rfl,hb3⟩;have HX3:=As hb3;replace x0:=bc hb3 x0;replace x1:=bc hb3 x1;replace x2:=bc hb3 x2;replace x3:=bc hb3 x3;replace x4:=bc hb3 x4;clear hb3)
          | (go_at_call 38;refine (AQ (cd:=cd) (cm:=cm) (cl:=cl) (Aw HF.out.disk) (Aw HF.out.mem) HLG.out (bj HB2.out HX3.out) HR.out).mono ?_;rintro x w4 ⟨vd,vm,vl,rfl,ho,hb4⟩;obtain ⟨Bd,dd,Bm,dm,Bl,dl,rfl,rfl,rfl, -, -⟩:=ho.reads;have HO4:=As ho;have HX4:=As hb4;replace x0:=bc hb4 x0;replace x1:=bc hb4 x1;replace x2:=bc hb4 x2;replace x3:=bc hb4 x3;replace x4:=bc hb4 x4;clear ho hb4)
          | (refine Ay (vd:=.slice Bd e.disk.length dd) (vm:=.slice Bm e.mem.length dm) (vl:=.slice Bl e.log.length dl) e ?_;intro w5 hb5 _ hq5;have HG5 : Ac (BZ w3 w5 w4.heap.size e):=⟨⟨⟨_,_,_,hq5,HO4.out.below hb5⟩,bj HX4.out hb5,HX4.out.size⟩⟩;replace x0:=bc hb5 x0;replace x1:=bc hb5 x1;replace x2:=bc hb5 x2;replace x3:=bc hb5 x3;replace x4:=bc hb5 x4;clear hb5 hq5)
          | (go_at_call 176;refine (Dt tx page HF.out.log HG5.out).mono ?_;rw [HM.out];rintro x w6 ⟨rfl,hb6⟩;have HG6:=As (HG5.out.up hb6);replace x0:=bc hb6 x0;replace x1:=bc hb6 x1;replace x2:=bc hb6 x2;replace x3:=bc hb6 x3;replace x4:=bc hb6 x4;clear hb6)
          | (go_at_call 139;refine (HH.out HM.out w3 w6 w4.heap.size (bj HB2.out HX3.out) HG6.out).mono ?_;rintro x w7 ⟨rfl,hb7⟩;have HG7:=As (HG6.out.up hb7);replace x0:=bc hb7 x0;replace x1:=bc hb7 x1;replace x2:=bc hb7 x2;replace x3:=bc hb7 x3;replace x4:=bc hb7 x4;clear hb7)
          | (go_at_call 141;refine (HWW.out w3 w7 w4.heap.size (bj HB2.out HX3.out) HG7.out).mono ?_;rintro x w8 ⟨⟨v,rfl⟩,hg8⟩;obtain ⟨ud,um,ul,hq,ho⟩:=hg8.ex;obtain ⟨Ed,n1,Em,n2,El,n3,rfl,rfl,rfl, -,hc⟩:=ho.reads;have HO8:=As ho;have HC8:=As hc;have HX8:=As hg8.bel;have q0:=hq.c0;have q1:=hq.c1;have q2:=hq.c2;have q3:=hq.c3;have q4:=hq.c4;clear x0 x1 x2 x3 x4;have hq2:=HQ2.out.up (bj HX3.out hg8.bel);have x0:=hq2.c0;have x1:=hq2.c1;have x2:=hq2.c2;have x3:=hq2.c3;have x4:=hq2.c4;clear hq ho hc hq2 hg8)
          | (go_at_call 78;refine (DX (w0:=w8) (c:=n3) (Below.refl _ _) HC8.out.l HLL.out).mono ?_;rw [HFX.out];rintro x w9 ⟨rfl,hb9⟩;replace x0:=bc hb9 x0;replace x1:=bc hb9 x1;replace x2:=bc hb9 x2;replace x3:=bc hb9 x3;replace x4:=bc hb9 x4;have HX9:=As (bj HX8.out hb9);clear q0 q1 q2 q3 q4 hb9)
          | (go_at_call 38;refine (AQ (cd:=cd) (cm:=cm) (cl:=cl) (Aw HF.out.disk) (Aw HF.out.mem) HLG.out (bj HB2.out (bj HX3.out HX9.out)) HR.out).mono ?_;rintro x w10 ⟨vd,vm,vl,rfl,ho,hb10⟩;obtain ⟨Ed,n1,Em,n2,El,n3,rfl,rfl,rfl, -, -⟩:=ho.reads;have HO7:=As (ho.lower (b':=w3.heap.size) HX9.out.size);have HX7:=As (bj HX9.out hb10);clear x0 x1 x2 x3 x4 ho hb10;have hp:=HP2.out.up (bj HX3.out HX7.out);have HP7:=As hp;have y0:=hp.c0;have y1:=hp.c1;have y2:=hp.c2;have y3:=hp.c3;have y4:=hp.c4;have f0:=hp.frz 0;have f1:=hp.frz 1;have f2:=hp.frz 2;have f3:=hp.frz 3;have f4:=hp.frz 4;clear hp))
        have hz:=HZ2.out
        have hn3:=HX3.out.size
        have hy:=HP7.out.Az e (.slice Ed e.disk.length n1) (.slice Em e.mem.length n2) (.slice El e.log.length n3)
        have h1:=HO7.out.Az (f:=e) (xd:=.slice Ed e.disk.length n1) (xm:=.slice Em e.mem.length n2) (xl:=.slice El e.log.length n3) HP7.out
        have h2:=Ao (g:=w.heap.size + 1) (bj HB2.out (bj HX3.out HX7.out)) (by omega) e (.slice Ed e.disk.length n1) (.slice Em e.mem.length n2) (.slice El e.log.length n3)
        have z0:=hy.c0
        have z1:=hy.c1
        have z2:=hy.c2
        have z3:=hy.c3
        have z4:=hy.c4
        exact bodyPost_ret (v:=.tuple #[e.ag (.slice Ed e.disk.length n1) (.slice Em e.mem.length n2) (.slice El e.log.length n3), .bool false]) (by simp [results,Tryz.results140,go_sem,z0,z1,z2,z3,z4]) rfl ⟨_,_,_,rfl,h1.lower (by omega),h2⟩
      · rw [show Bh e (true && true) X = (X,true) by rw [Bh,if_pos ⟨rfl,hfx⟩]]
        clear hfx
        go_enter Tryz.func140,Tryz.ntmps140
        go_wp2_with (first
          | (go_at_call 36;rw [show (w.alloc (Obj.cells #[Value.slice Ad e.disk.length cd,Value.slice Am e.mem.length cm,Value.slice Al e.log.length cl,Value.int IntKind.i64 e.safe,Value.bool e.down] 28)).alloc (Obj.cells #[Value.slice none 0 0,Value.slice none 0 0,Value.slice none 0 0,Value.int IntKind.i64 0,Value.bool false] 28) = w2 from HW2.out];refine (AJ (cd:=cd) (cm:=cm) HV.out hcl HB2.out HR.out).mono ?_;rintro x w3 ⟨rfl,hb3⟩;have HX3:=As hb3;replace x0:=bc hb3 x0;replace x1:=bc hb3 x1;replace x2:=bc hb3 x2;replace x3:=bc hb3 x3;replace x4:=bc hb3 x4;clear hb3)
          | (go_at_call 38;refine (AQ (cd:=cd) (cm:=cm) (cl:=cl) (Aw HF.out.disk) (Aw HF.out.mem) HLG.out (bj HB2.out HX3.out) HR.out).mono ?_;rintro x w4 ⟨vd,vm,vl,rfl,ho,hb4⟩;obtain ⟨Bd,dd,Bm,dm,Bl,dl,rfl,rfl,rfl, -, -⟩:=ho.reads;have HO4:=As ho;have HX4:=As hb4;replace x0:=bc hb4 x0;replace x1:=bc hb4 x1;replace x2:=bc hb4 x2;replace x3:=bc hb4 x3;replace x4:=bc hb4 x4;clear ho hb4)
          | (refine Ay (vd:=.slice Bd e.disk.length dd) (vm:=.slice Bm e.mem.length dm) (vl:=.slice Bl e.log.length dl) e ?_;intro w5 hb5 _ hq5;have HG5 : Ac (BZ w3 w5 w4.heap.size e):=⟨⟨⟨_,_,_,hq5,HO4.out.below hb5⟩,bj HX4.out hb5,HX4.out.size⟩⟩;replace x0:=bc hb5 x0;replace x1:=bc hb5 x1;replace x2:=bc hb5 x2;replace x3:=bc hb5 x3;replace x4:=bc hb5 x4;clear hb5 hq5)
          | (go_at_call 176;refine (Dt tx page HF.out.log HG5.out).mono ?_;rw [HM.out];rintro x w6 ⟨rfl,hb6⟩;have HG6:=As (HG5.out.up hb6);replace x0:=bc hb6 x0;replace x1:=bc hb6 x1;replace x2:=bc hb6 x2;replace x3:=bc hb6 x3;replace x4:=bc hb6 x4;clear hb6)
          | (go_at_call 139;refine (HH.out HM.out w3 w6 w4.heap.size (bj HB2.out HX3.out) HG6.out).mono ?_;rintro x w7 ⟨rfl,hb7⟩;have HG7:=As (HG6.out.up hb7);replace x0:=bc hb7 x0;replace x1:=bc hb7 x1;replace x2:=bc hb7 x2;replace x3:=bc hb7 x3;replace x4:=bc hb7 x4;clear hb7)
          | (go_at_call 141;refine (HWW.out w3 w7 w4.heap.size (bj HB2.out HX3.out) HG7.out).mono ?_;rintro x w8 ⟨⟨v,rfl⟩,hg8⟩;obtain ⟨ud,um,ul,hq,ho⟩:=hg8.ex;obtain ⟨Ed,n1,Em,n2,El,n3,rfl,rfl,rfl, -,hc⟩:=ho.reads;have HO8:=As ho;have HC8:=As hc;have HX8:=As hg8.bel;have q0:=hq.c0;have q1:=hq.c1;have q2:=hq.c2;have q3:=hq.c3;have q4:=hq.c4;clear x0 x1 x2 x3 x4;have hq2:=HQ2.out.up (bj HX3.out hg8.bel);have x0:=hq2.c0;have x1:=hq2.c1;have x2:=hq2.c2;have x3:=hq2.c3;have x4:=hq2.c4;clear hq ho hc hq2 hg8)
          | (go_at_call 78;refine (DX (w0:=w8) (c:=n3) (Below.refl _ _) HC8.out.l HLL.out).mono ?_;rw [HFX.out];rintro x w9 ⟨rfl,hb9⟩;replace q0:=bc hb9 q0;replace q1:=bc hb9 q1;replace q2:=bc hb9 q2;replace q3:=bc hb9 q3;replace q4:=bc hb9 q4;clear x0 x1 x2 x3 x4;have HX7:=As (bj HX8.out hb9);have HO7:=As (HO8.out.below hb9);have hp:=HP2.out.up (bj HX3.out HX7.out);have HP7:=As hp;have y0:=hp.c0;have y1:=hp.c1;have y2:=hp.c2;have y3:=hp.c3;have y4:=hp.c4;have f0:=hp.frz 0;have f1:=hp.frz 1;have f2:=hp.frz 2;have f3:=hp.frz 3;have f4:=hp.frz 4;clear hp;clear hb9))
        have hz:=HZ2.out
        have hn3:=HX3.out.size
        have hy:=HP7.out.Az X (.slice Ed X.disk.length n1) (.slice Em X.mem.length n2) (.slice El X.log.length n3)
        have h1:=HO7.out.Az (f:=X) (xd:=.slice Ed X.disk.length n1) (xm:=.slice Em X.mem.length n2) (xl:=.slice El X.log.length n3) HP7.out
        have h2:=Ao (g:=w.heap.size + 1) (bj HB2.out (bj HX3.out HX7.out)) (by omega) X (.slice Ed X.disk.length n1) (.slice Em X.mem.length n2) (.slice El X.log.length n3)
        have z0:=hy.c0
        have z1:=hy.c1
        have z2:=hy.c2
        have z3:=hy.c3
        have z4:=hy.c4
        exact bodyPost_ret (v:=.tuple #[X.ag (.slice Ed X.disk.length n1) (.slice Em X.mem.length n2) (.slice El X.log.length n3), .bool true]) (by simp [results,Tryz.results140,go_sem,z0,z1,z2,z3,z4]) rfl ⟨_,_,_,rfl,h1.lower (by omega),h2⟩
open Go.RowKit Go.Proofs.YtpjmlpmhgfghbaaGreatW.PrintWords Go.Proofs.YtpjmlpmhgfghbaaGreatW.PrintLast
section
variable {P : Program} {ops : Array Oper} {Q : Exit → Act → World → Prop} {md : Region.Mode} {S : Array Bool → Act → World → Prop} {m : Nat}
theorem O8 {i k : Nat} {oi : Oper} {v : Value} {T : List Nat} (hm : Tail md ops m) (him : i < m) (hi : ops[i]? = some oi) (hk : Keeps S i oi.dst) (hsel : ∀ (j : Nat) (o : Oper) cs b,ops[j]? = some o → o.op ≠ .select cs b)
    (hQ : ∀ c a w,Q (.panic c) (a.put oi.dst v) w → Q (.panic c) a w) (hT : ∀ t ∈ T, ∀ o,ops[t]? = some o → ∃ e ∈ o.after,Region.binds md e = true ∧ (e.on = i ∨ e.on ∈ T)) (hkT : k ∈ T) :
    ∀ (fuel : Nat) (listed : Array Bool) (a : Act),
      (∀ j oj,ops[j]? = some oj → j ≠ i → listed.getD j true = false → (∀ e ∈ oj.after,Region.binds md e = true → e.on ≠ i) → oi.apart ops oj = true) →
      i ∈ Region.ready md ops listed → (∀ t ∈ T,listed.getD t true = false) → LP P ops (fun l a w => S l a w ∧ l.getD k true = false) oi v a →
      Kt P md ops Q S m fuel (listed.setIfInBounds i true) (a.put oi.dst v) → Kt P md ops Q S m (fuel + 1) listed a:=by
  intro fuel
  induction fuel with
  | zero =>
    intro listed a _ hr hl hy H
    refine ⟨fun h => (by rw [h] at hr;cases hr),fun j hj w hS => ?_⟩
    by_cases hji : j = i
    · subst hji;exact hy.wpOp hi ⟨hS,hl k hkT⟩ (fun w' h' => .inl ⟨(hk _ a v w').2 h'.1,H⟩)
    · have:=ready_mono hj hji
      rw [H.1] at this
      cases this
  | succ fuel ih =>
    intro listed a hfree hr hl hy H
    refine ⟨fun h => (by rw [h] at hr;cases hr),fun j hj w hS => ?_⟩
    by_cases hji : j = i
    · subst hji;exact hy.wpOp hi ⟨hS,hl k hkT⟩ (fun w' h' => .inl ⟨(hk _ a v w').2 h'.1,H⟩)
    · have hjm : j < m:=Nat.lt_of_not_le fun e => hm listed j e hj i hr him
      have h1:=H.2 j (ready_mono hj hji) w ((hk _ a v w).2 hS)
      obtain ⟨hjun,oj,hoj,hall⟩:=mem_ready.1 hj
      have hun : ∀ t,listed.getD t true = false → ∀ e ∈ oj.after,Region.binds md e = true → e.on ≠ t:=fun t h0 e he hb heq => by
        have h1:=hall e he hb
        rw [heq] at h1
        rcases Nat.lt_or_ge t listed.size with h' | h'
        · simp [h'] at h0 h1;rw [h0] at h1;cases h1
        · simp [Array.getElem?_eq_none h'] at h1
      have hnot:=hun i (mem_ready.1 hr).1
      have hjT : j ∉ T:=fun hjT => by
        obtain ⟨e,he,hb,h2⟩:=hT j hjT oj hoj
        rcases h2 with h2 | h2
        · exact hnot e he hb h2
        · exact hun e.on (hl _ h2) e he hb rfl
      have h2:=OD hoj (hfree j oj hoj hji hjun hnot) (fun cs b => hsel i oi cs b hi) (fun cs b => hsel j oj cs b hoj) hQ hy h1
      have hfree' : ∀ k ok,ops[k]? = some ok → k ≠ i → (listed.setIfInBounds j true).getD k true = false →
          (∀ e ∈ ok.after,Region.binds md e = true → e.on ≠ i) → oi.apart ops ok = true:=fun k ok hk hki hun hno => by
        refine hfree k ok hk hki ?_ hno
        by_cases hjk : j = k
        · subst hjk;exact hjun
        · rw [getD_set_ne true hjk] at hun;exact hun
      have hl' : ∀ t ∈ T,(listed.setIfInBounds j true).getD t true = false:=fun t ht => by
        have hne : j ≠ t:=fun e => hjT (e ▸ ht)
        rw [getD_set_ne true hne]
        exact hl t ht
      refine wpOp_mono (fun a' w' h3 => ?_) h2
      rcases h3.2 with h4 | h4
      · rw [Array.setIfInBounds_comm _ _ (Ne.symm hji)] at h4
        exact .inl ⟨(hk _ a' v w').1 h4.1,ih (listed.setIfInBounds j true) a' hfree' (ready_mono hr (Ne.symm hji)) hl' h3.1 h4.2⟩
      · exact absurd h4.1 (by omega)
/-- Those up to k that hang on i. -/
def TF (ops : Array Oper) (i k : Nat) : List Nat:=(List.range (k + 1)).foldl (fun T j => match ops[j]? with
  | none => T
  | some o => if (o.after.any fun e => Region.binds .any e && (e.on == i || T.contains e.on)) = true then j :: T else T) []
def Vs (ops : Array Oper) (done : List Nat) (i k : Nat) : Bool:=(TF ops i k).contains k && (TF ops i k).all fun t => decide (t < ops.size) && (!done.contains t) && match ops[t]? with
  | none => false
  | some o => o.after.any fun e => Region.binds .any e && (e.on == i || (TF ops i k).contains e.on)
variable {i d : Nat} {o : Oper} {v : Value} {L : List Value} {D : List Deferred} {done : List Nat}
theorem Aq (k : Nat) (ht : Ac (Jl ops m = true)) (hi : ops.toList[i]? = some o) (hok : FJ ops m done i = true) (hlate : Vs ops done i k = true) (hd : o.dst = some d) (hk : Keeps S i (some d)) (hw : Region.wanted o (yielded ops L.toArray) = true)
    (hQ : ∀ c a w,Q (.panic c) (a.put o.dst v) w → Q (.panic c) a w) (hr : ∀ l a w,l.getD k false = false → S l a w → (execOp (Act.eval ⟨L.toArray,D⟩) o).run P w = .ok (.value v) w) (h : Reg P ops Q S m (i :: done) ⟨(L.set d v).toArray,D⟩) : Reg P ops Q S m done ⟨L.toArray,D⟩:=by
  refine ⟨?_⟩
  have hi' : ops[i]? = some o:=by rw [← Array.getElem?_toList];exact hi
  simp only [FJ,Bool.and_eq_true,decide_eq_true_eq] at hok
  obtain ⟨⟨⟨hf,hr0⟩,hl⟩,hm⟩:=hok
  simp only [Vs,Bool.and_eq_true,List.contains_iff_mem,List.all_eq_true] at hlate
  obtain ⟨hkT,hall⟩:=hlate
  have hs:=(Bool.and_eq_true_iff.1 ht.out).1
  have h1:=h.out
  rw [List.length_cons, ← Ie] at h1
  rw [show ops.size - done.length = (ops.size - (done.length + 1)) + 1 by omega]
  refine O8 (T:=TF ops i k) (k:=k) (v:=v) (Nz ht.out) hm hi' (by rw [hd];exact hk) (Region.noSelect_spec hs) hQ (fun t h2 o2 ho2 => ?_) hkT _ _ _ (Region.free_spec hi' hf) (by simpa using hr0) (fun t h2 => ?_) (.inl ⟨hw,fun l a w hS => ?_⟩) (by rw [hd,Cv];exact h1)
  · have h3:=hall t h2
    rw [ho2] at h3
    obtain ⟨e,he,h4⟩:=Array.any_eq_true'.1 h3.2
    simp only [Bool.and_eq_true,Bool.or_eq_true,beq_iff_eq,List.contains_iff_mem] at h4
    exact ⟨e,he,h4.1,h4.2⟩
  · have h3:=hall t h2
    have h5 : t < ops.size:=by simpa using h3.1.1
    have h6 : t ∉ done:=by simpa using h3.1.2
    simp [lsd,Array.getD,h5,h6]
  · have hkf : l.getD k false = false:=by
      have h3:=hS.2
      rcases Nat.lt_or_ge k l.size with h' | h'
      · simp [Array.getD,h'] at h3 ⊢;exact h3
      · simp [Array.getD,Nat.not_lt.2 h'] at h3
    rw [hr l a w hkf hS.1]
    exact ⟨rfl,hS⟩
end
end Go.Proofs.YtpjmlpmhgfghbaaGreat
/- A box of one cell. -/
namespace Go.Proofs.YtpjmlpmhgfghbaaGreat
open Go.RowKit Go.Proofs.YtpjmlpmhgfghbaaGreatW.PrintWords Go.Proofs.YtpjmlpmhgfghbaaGreatW.PrintLast Go.Proofs.YtpjmlpmhgfghbaaGreatW.PrintMore
def Cj (w : World) (g : Nat) (v : Value) (t : Nat) : Prop:=w.heap[g]? = some (.cells #[v] t (0,0))
theorem Cj.c0 {w : World} {g t : Nat} {v : Value} (h : Cj w g v t) : w.cell? ⟨g,0,none⟩ = some v:=by unfold Cj at h;simp [World.cell?,h]
theorem Cj.frz {w : World} {g t : Nat} {v : Value} (h : Cj w g v t) (k : Nat) : w.frozen? ⟨g,k,none⟩ = false:=by unfold Cj at h;simp [World.frozen?,h]
theorem Cj.lt {w : World} {g t : Nat} {v : Value} (h : Cj w g v t) : g < w.heap.size:=(Array.getElem?_eq_some_iff.1 h).1
theorem Cj.up {w w1 : World} {g t : Nat} {v : Value} (h : Cj w g v t) (hb : Below w.heap.size w w1) : Cj w1 g v t:=(hb.block g h.lt).trans h
theorem Cj.mk1 (w : World) (v : Value) (t : Nat) : Cj (w.alloc (.cells #[v] t)) w.heap.size v t:=by
  show (w.heap.push _)[w.heap.size]? = _
  simp
theorem Dq {P : Program} {ops : Array Oper} {l : List Oper} {Q : Exit → Act → World → Prop} {a : Act} {w : World} {t : Nat} (v : Value) (h : ∀ w1,Below w.heap.size w w1 → w1.heap.size = w.heap.size + 1 → Cj w1 w.heap.size v t → wpList P ops Q l a w1) : wpList P ops Q l a (w.alloc (.cells #[v] t)):=h _ ((Below.refl _ _).alloc (Nat.le_refl _) _) (BF _ _) (Cj.mk1 _ _ _)
/-- Once operation i came up. -/
def Ys (i : Nat) (p : World → Prop) (l : Array Bool) (_a : Act) (w : World) : Prop:=l.getD i false = true → p w
theorem Ap {j i : Nat} {d : Option Nat} {p : World → Prop} (h : (j == i) = false) : Keeps (Ys i p) j d:=fun l a v w => by
  have h : j ≠ i:=by simpa using h
  rw [Ys,Ys,getD_set_ne false h]
theorem Gx {n i : Nat} {p : World → Prop} {a : Act} {w : World} : Ys i p (lsd n []) a w:=fun h => by
  rw [JP] at h
  simp [Array.getD] at h
theorem Fq {w : World} {g gm b : Nat} {q : Eng} {ud um ul : Value} {ok : Nat → Prop} {n cap : Nat} {ps : List Page} (h : Ai w g q ud um ul) (hp : OwnPk w b ok (.slice (some ⟨gm,0,none⟩) n cap) ps) : g ≠ gm:=fun e => by
  obtain ⟨cells,hc⟩:=Kd.Fu hp gm (by simp [Value.ownBlock])
  have h1 : w.heap[g]? = _:=h
  rw [e,hc] at h1
  injection h1 with h1
  injection h1 with _ h2
  exact absurd h2 (by decide)
/-- A page of memory has been written. -/
theorem AU.Pt {w w1 : World} {base N : Nat} {vd vl u : Value} {e : Eng} {q : Page} {p g n cap : Nat} {okd okm : Nat → Prop} (hap : ∀ k,okd k → okm k → False) (hd : OwnPk w base (fun k => okd k ∧ k < N) vd e.disk) (hl : OwnRs w base vl e.log) (hu : AV w N u q.vals)
    (hm : OwnPk w1 base (fun k => okm k ∨ some k = u.ownBlock) (.slice (some ⟨g,0,none⟩) n cap) (e.mem.set p q)) (hmg : okm g) (hg : w.grownBy w1 (some g)) (hty : ∃ cells,w.heap[g]? = some (.cells cells 81 (0,0))) : AU w1 base vd (.slice (some ⟨g,0,none⟩) n cap) vl { e with mem:=e.mem.set p q }:=by
  refine ⟨⟨fun k => okd k ∧ k < N,fun k => okm k ∨ some k = u.ownBlock,fun k h1 h2 => ?_,Kd.TY hd hg (fun k hk e2 => ?_),hm⟩,?_⟩
  · rcases h2 with h2 | h2
    · exact hap k h1.1 h2
    · have:=Cq hu k h2.symm;omega
  · injection e2 with e2
    subst e2
    exact hap k hk.1 hmg
  · refine Kd.Eh (Kd.Qb (e':=81) (v:=.slice (some ⟨g,0,none⟩) n cap) hl (fun k hk => ?_) (fun q hq => ?_) hg) (fun _ _ => trivial)
    · simp only [Value.ownBlock,Option.some.injEq] at hk
      subst hk
      exact hty
    · have : q = 98:=by simpa [Ca,Kd.iso,Kd.pair,Kd.int,Kd.scalar] using hq
      rw [this];decide
theorem Ur {w : World} {b g : Nat} {v u : Value} {xs : List Int} {p : Page} (h : AV w b v xs) (hp : AR w g p u) : ∀ k,v.ownBlock = some k → k ≠ g:=fun k hk e => by
  obtain ⟨cells,hc⟩:=Dr h k hk
  have h1 : w.heap[g]? = _:=hp
  rw [← e,hc] at h1
  injection h1 with h1
  injection h1 with _ h2
  exact absurd h2 (by decide)
theorem AV.XP {w : World} {b g : Nat} {v : Value} {xs : List Int} (h : AV w b v xs) (hg : ∀ k,v.ownBlock = some k → k ≠ g) (p : Page) (u : Value) : AV (Go.Proofs.YtpjmlpmhgfghbaaGreat.Cu w g p u) b v xs:=((h.far hg _ _).far hg _ _).far hg _ _
set_option maxRecDepth 100000 in
set_option maxHeartbeats 16000000 in
theorem JH {w0 w : World} {g : Nat} {e : Eng} (r : Rec) (hl : e.log.length + 1 ≤ 150) (hgm : geo e.mem) (hp : 0 ≤ r.page ∧ r.page < 5) (hdo : Fa (pg e.mem r.page.toNat) (Dl r (Aj e.log r.tx e.log.length)) (e.log.length + 1 : Nat) = true) (h : BZ w0 w g e) : Calls Tryz.prog 109 #[ptr g,r.val] w (Hr w0 g (e.app r)):=by
  obtain ⟨⟨vd,vm,vl,hq,ho⟩,hb,hg⟩:=h
  obtain ⟨p,hpp⟩ : ∃ p : Nat,r.page = (p : Int):=⟨r.page.toNat,by omega⟩
  obtain ⟨r1,hr1⟩ : ∃ r1,Dl r (Aj e.log r.tx e.log.length) = r1:=⟨_,rfl⟩
  rw [hr1,hpp,Int.toNat_natCast] at hdo
  have hp5 : p < 5:=by omega
  obtain ⟨q,hqq⟩ : ∃ q,doR (pg e.mem p) r1 (e.log.length + 1 : Nat) = q:=⟨_,rfl⟩
  obtain ⟨l1,hl1⟩ : ∃ l1,e.log ++ [r1] = l1:=⟨_,rfl⟩
  have hll : l1.length = e.log.length + 1:=by rw [← hl1];simp
  have hrc : rc l1 e.log.length = r1:=by rw [← hl1];simp [rc,List.getD_eq_getElem?_getD]
  have hchg : Cx r.kind = true:=by
    simp only [Fa,Bool.and_eq_true] at hdo
    have:=hdo.2.2.1
    rw [← hr1] at this
    exact this
  have hE : e.app r = { e with mem:=e.mem.set p q,log:=l1 }:=by
    unfold Eng.app
    rw [if_pos hchg,show r.page.toNat = p by omega, ← hqq, ← hl1, ← hr1]
    rfl
  have HE:=As hE
  have HDO:=As hdo
  have HL:=As hl
  have HG:=As hg
  have HGM:=As hgm
  have HQQ:=As hqq
  have HRC:=As hrc
  have HLL:=As hll
  have HL1:=As hl1
  have HR1:=As hr1
  have HPP:=As hpp
  obtain ⟨w1,hw1⟩ : ∃ w1,w.alloc r.box = w1:=⟨_,rfl⟩
  have hb1 : Below w.heap.size w w1:=by rw [← hw1];exact Ah (Below.refl _ _) _
  have HW1:=As hw1
  have HRB1 : Ac (Df w1 w.heap.size r):=⟨by rw [← hw1];exact Df.mk1 _ _⟩
  have HO1:=As (ho.below hb1)
  have HQ1:=As (hq.up hb1)
  have HB1:=As (bj hb hb1)
  have HGL:=As hq.lt
  have HVL:=As (fun k hk => Kd.UL ho.l k hk)
  have HBS:=As hb.size
  have r0:=HRB1.out.at.c0
  clear hdo hl hg hgm hqq hl1 hr1 hrc hll hchg hE hw1 hb1 hq ho hb hpp
  go_enter Tryz.func109,Tryz.ntmps109
  go_wp2_with (go_at_call 111;go_loud (rw [HW1.out]);go_loud (refine (K3 r (by have:=HL.out;omega) HB1.out HG.out HQ1.out HO1.out).mono ?_);go_loud (rw [HR1.out]);go_loud (rw [HL1.out]);rintro x w2 ⟨vl2,rfl,hq2,ho2,hb2,hk2⟩;have HQ2:=As hq2;have HO2:=As ho2;have HB2:=As hb2;have HRB2 : Ac (Df w2 w.heap.size r):=⟨(hk2.2 _ HRB1.out.lt (fun hx => hx.elim (fun hx => by have:=HGL.out;omega) (fun hx => by have:=HVL.out _ hx.symm;omega))).trans HRB1.out⟩;clear hq2 ho2 hb2 hk2)
  have hgm5:=HGM.out.1
  obtain ⟨Ad,cd,Am,cm,Al,cl,hvd,hvm,hvl, -,hrd⟩:=HO2.out.reads
  obtain ⟨okd,okm,hap,hpd,hpm⟩:=HO2.out.ex
  obtain ⟨gm,capm,hfm, -,hgml⟩:=Cb hpm (by show 0 < e.mem.length;omega)
  subst hvd hvl hfm
  have hpl : p < e.mem.length:=by omega
  have hp5i : (p : Int) < 5:=by omega
  have hl1l : e.log.length < l1.length:=by have:=HLL.out;omega
  obtain ⟨A2,c2,p0,p1,p2,pC, -⟩:=Dz hpm p hpl
  obtain ⟨adl,hal,QR⟩:=Ce hrd.l e.log.length hl1l
  subst hal
  rw [HRC.out] at QR
  obtain ⟨l0,l1',l2,l3,l4,l5,l6,l7⟩:=QR
  have x1:=HQ2.out.c1
  have x2:=HQ2.out.c2
  have z2:=HRB2.out.at.c2
  simp only [Nat.zero_add] at z2
  rw [HPP.out] at z2
  have HPC:=As pC
  have HPD:=As hpd
  have HPM:=As hpm
  have HAP:=As hap
  have HRD:=As hrd.l
  have hl0:=HL.out
  have hwr0 : IntKind.i64.wrap (e.log.length : Int) = (e.log.length : Int):=by simp (disch:=omega) only [IntWalk.i64_in]
  have hwr1 : IntKind.i64.wrap ((e.log.length : Int) + 1 - 1) = (e.log.length : Int):=by rw [show ((e.log.length : Int) + 1 - 1) = (e.log.length : Int) by omega];exact hwr0
  have HGM2 : Ac (gm < w2.heap.size):=⟨hgml⟩
  clear hvm pC hpd hpm hap hrd hgml hp
  have HCR : Ac (∀ wx,Below w2.heap.size w2 wx → Calls Tryz.prog 166 #[(pg e.mem p).val A2 c2,r1.val, .int .i64 ((e.log.length : Int) + 1)] wx (X5 wx q)):=⟨fun wx hb => by
    have:=Rs (c:=c2) (n:=(e.log.length : Int) + 1) (by have:=HDO.out;simpa using this) hb HPC.out
    rwa [show doR (pg e.mem p) r1 ((e.log.length : Int) + 1) = q by have:=HQQ.out;simpa using this] at this⟩
  refine AX (fun lx a wx => Below w2.heap.size w2 wx ∧ (Sl 17 28 (fun v wx => ∃ u,v = .tuple #[q.own u, .bool true] ∧ AV wx w2.heap.size u q.vals) lx a wx ∧ (Pre 22 21 5 (fun _ => True) (fun v wx => ∃ B,v = ptr B ∧ w2.heap.size ≤ B ∧ AR wx B zp (.slice none 0 0)) lx a wx ∧ Sl 22 5 (fun v wx => ∃ B u,v = ptr B ∧ w2.heap.size ≤ B ∧ AR wx B q u ∧ AV wx w2.heap.size u q.vals) lx a wx))) 24 rfl (by kernel_rfl) (⟨Ak (Below.refl _ _),Bc,FM trivial,Bc⟩) (fun HT => ?_)
  refine Ae (i:=0) (v:=?_) HT rfl (by kernel_rfl) rfl (kA Aa (kA (Ab rfl rfl) (kA (Au rfl rfl rfl) (Ab rfl rfl)))) (by rfl) (fun _ _ _ h => h) (fun lx ax wx hS => ?_) ?_;rotate_left;(have hbx:=hS.1;clear hS;replace x1:=bc hbx x1;replace x2:=bc hbx x2;replace z2:=bc hbx z2;replace p0:=bc hbx p0;replace p1:=bc hbx p1;replace p2:=bc hbx p2;replace l0:=bc hbx l0;replace l1':=bc hbx l1';replace l2:=bc hbx l2;replace l3:=bc hbx l3;replace l4:=bc hbx l4;replace l5:=bc hbx l5;replace l6:=bc hbx l6;replace l7:=bc hbx l7;go_simp;with_reducible rfl);rotate_left;simp only [sc0,sc1]
  refine Ae (i:=1) (v:=?_) HT rfl (by kernel_rfl) rfl (kA Aa (kA (Ab rfl rfl) (kA (Au rfl rfl rfl) (Ab rfl rfl)))) (by rfl) (fun _ _ _ h => h) (fun lx ax wx hS => ?_) ?_;rotate_left;(have hbx:=hS.1;clear hS;replace x1:=bc hbx x1;replace x2:=bc hbx x2;replace z2:=bc hbx z2;replace p0:=bc hbx p0;replace p1:=bc hbx p1;replace p2:=bc hbx p2;replace l0:=bc hbx l0;replace l1':=bc hbx l1';replace l2:=bc hbx l2;replace l3:=bc hbx l3;replace l4:=bc hbx l4;replace l5:=bc hbx l5;replace l6:=bc hbx l6;replace l7:=bc hbx l7;go_simp;with_reducible rfl);rotate_left;simp only [sc0,sc1]
  refine Ae (i:=2) (v:=?_) HT rfl (by kernel_rfl) rfl (kA Aa (kA (Ab rfl rfl) (kA (Au rfl rfl rfl) (Ab rfl rfl)))) (by rfl) (fun _ _ _ h => h) (fun lx ax wx hS => ?_) ?_;rotate_left;(have hbx:=hS.1;clear hS;replace x1:=bc hbx x1;replace x2:=bc hbx x2;replace z2:=bc hbx z2;replace p0:=bc hbx p0;replace p1:=bc hbx p1;replace p2:=bc hbx p2;replace l0:=bc hbx l0;replace l1':=bc hbx l1';replace l2:=bc hbx l2;replace l3:=bc hbx l3;replace l4:=bc hbx l4;replace l5:=bc hbx l5;replace l6:=bc hbx l6;replace l7:=bc hbx l7;go_simp;with_reducible rfl);rotate_left;simp only [sc0,sc1]
  refine Ae (i:=3) (v:=?_) HT rfl (by kernel_rfl) rfl (kA Aa (kA (Ab rfl rfl) (kA (Au rfl rfl rfl) (Ab rfl rfl)))) (by rfl) (fun _ _ _ h => h) (fun lx ax wx hS => ?_) ?_;rotate_left;(have hbx:=hS.1;clear hS;replace x1:=bc hbx x1;replace x2:=bc hbx x2;replace z2:=bc hbx z2;replace p0:=bc hbx p0;replace p1:=bc hbx p1;replace p2:=bc hbx p2;replace l0:=bc hbx l0;replace l1':=bc hbx l1';replace l2:=bc hbx l2;replace l3:=bc hbx l3;replace l4:=bc hbx l4;replace l5:=bc hbx l5;replace l6:=bc hbx l6;replace l7:=bc hbx l7;go_simp;with_reducible rfl);rotate_left;simp only [sc0,sc1]
  refine Ae (i:=4) (v:=?_) HT rfl (by kernel_rfl) rfl (kA Aa (kA (Ab rfl rfl) (kA (Au rfl rfl rfl) (Ab rfl rfl)))) (by rfl) (fun _ _ _ h => h) (fun lx ax wx hS => ?_) ?_;rotate_left;(have hbx:=hS.1;clear hS;replace x1:=bc hbx x1;replace x2:=bc hbx x2;replace z2:=bc hbx z2;replace p0:=bc hbx p0;replace p1:=bc hbx p1;replace p2:=bc hbx p2;replace l0:=bc hbx l0;replace l1':=bc hbx l1';replace l2:=bc hbx l2;replace l3:=bc hbx l3;replace l4:=bc hbx l4;replace l5:=bc hbx l5;replace l6:=bc hbx l6;replace l7:=bc hbx l7;go_simp;with_reducible rfl);rotate_left;simp only [sc0,sc1]
  refine Ae (i:=5) (v:=?_) HT rfl (by kernel_rfl) rfl (kA Aa (kA (Ab rfl rfl) (kA (Au rfl rfl rfl) (Ab rfl rfl)))) (by rfl) (fun _ _ _ h => h) (fun lx ax wx hS => ?_) ?_;rotate_left;(have hbx:=hS.1;clear hS;replace x1:=bc hbx x1;replace x2:=bc hbx x2;replace z2:=bc hbx z2;replace p0:=bc hbx p0;replace p1:=bc hbx p1;replace p2:=bc hbx p2;replace l0:=bc hbx l0;replace l1':=bc hbx l1';replace l2:=bc hbx l2;replace l3:=bc hbx l3;replace l4:=bc hbx l4;replace l5:=bc hbx l5;replace l6:=bc hbx l6;replace l7:=bc hbx l7;go_simp;with_reducible rfl);rotate_left;simp only [sc0,sc1]
  refine Ae (i:=6) (v:=?_) HT rfl (by kernel_rfl) rfl (kA Aa (kA (Ab rfl rfl) (kA (Au rfl rfl rfl) (Ab rfl rfl)))) (by rfl) (fun _ _ _ h => h) (fun lx ax wx hS => ?_) ?_;rotate_left;(have hbx:=hS.1;clear hS;replace x1:=bc hbx x1;replace x2:=bc hbx x2;replace z2:=bc hbx z2;replace p0:=bc hbx p0;replace p1:=bc hbx p1;replace p2:=bc hbx p2;replace l0:=bc hbx l0;replace l1':=bc hbx l1';replace l2:=bc hbx l2;replace l3:=bc hbx l3;replace l4:=bc hbx l4;replace l5:=bc hbx l5;replace l6:=bc hbx l6;replace l7:=bc hbx l7;go_simp;with_reducible rfl);rotate_left;simp only [sc0,sc1]
  refine Ae (i:=7) (v:=?_) HT rfl (by kernel_rfl) rfl (kA Aa (kA (Ab rfl rfl) (kA (Au rfl rfl rfl) (Ab rfl rfl)))) (by rfl) (fun _ _ _ h => h) (fun lx ax wx hS => ?_) ?_;rotate_left;(have hbx:=hS.1;clear hS;replace x1:=bc hbx x1;replace x2:=bc hbx x2;replace z2:=bc hbx z2;replace p0:=bc hbx p0;replace p1:=bc hbx p1;replace p2:=bc hbx p2;replace l0:=bc hbx l0;replace l1':=bc hbx l1';replace l2:=bc hbx l2;replace l3:=bc hbx l3;replace l4:=bc hbx l4;replace l5:=bc hbx l5;replace l6:=bc hbx l6;replace l7:=bc hbx l7;go_simp;with_reducible rfl);rotate_left;simp only [sc0,sc1]
  refine Ae (i:=8) (v:=?_) HT rfl (by kernel_rfl) rfl (kA Aa (kA (Ab rfl rfl) (kA (Au rfl rfl rfl) (Ab rfl rfl)))) (by rfl) (fun _ _ _ h => h) (fun lx ax wx hS => ?_) ?_;rotate_left;(have hbx:=hS.1;clear hS;replace x1:=bc hbx x1;replace x2:=bc hbx x2;replace z2:=bc hbx z2;replace p0:=bc hbx p0;replace p1:=bc hbx p1;replace p2:=bc hbx p2;replace l0:=bc hbx l0;replace l1':=bc hbx l1';replace l2:=bc hbx l2;replace l3:=bc hbx l3;replace l4:=bc hbx l4;replace l5:=bc hbx l5;replace l6:=bc hbx l6;replace l7:=bc hbx l7;go_simp;with_reducible rfl);rotate_left;simp only [sc0,sc1]
  refine Ae (i:=9) (v:=?_) HT rfl (by kernel_rfl) rfl (kA Aa (kA (Ab rfl rfl) (kA (Au rfl rfl rfl) (Ab rfl rfl)))) (by rfl) (fun _ _ _ h => h) (fun lx ax wx hS => ?_) ?_;rotate_left;(have hbx:=hS.1;clear hS;replace x1:=bc hbx x1;replace x2:=bc hbx x2;replace z2:=bc hbx z2;replace p0:=bc hbx p0;replace p1:=bc hbx p1;replace p2:=bc hbx p2;replace l0:=bc hbx l0;replace l1':=bc hbx l1';replace l2:=bc hbx l2;replace l3:=bc hbx l3;replace l4:=bc hbx l4;replace l5:=bc hbx l5;replace l6:=bc hbx l6;replace l7:=bc hbx l7;go_simp;with_reducible rfl);rotate_left;simp only [sc0,sc1]
  refine Ae (i:=10) (v:=?_) HT rfl (by kernel_rfl) rfl (kA Aa (kA (Ab rfl rfl) (kA (Au rfl rfl rfl) (Ab rfl rfl)))) (by rfl) (fun _ _ _ h => h) (fun lx ax wx hS => ?_) ?_;rotate_left;(have hbx:=hS.1;clear hS;replace x1:=bc hbx x1;replace x2:=bc hbx x2;replace z2:=bc hbx z2;replace p0:=bc hbx p0;replace p1:=bc hbx p1;replace p2:=bc hbx p2;replace l0:=bc hbx l0;replace l1':=bc hbx l1';replace l2:=bc hbx l2;replace l3:=bc hbx l3;replace l4:=bc hbx l4;replace l5:=bc hbx l5;replace l6:=bc hbx l6;replace l7:=bc hbx l7;go_simp;with_reducible rfl);rotate_left;simp only [sc0,sc1]
  refine Ae (i:=11) (v:=?_) HT rfl (by kernel_rfl) rfl (kA Aa (kA (Ab rfl rfl) (kA (Au rfl rfl rfl) (Ab rfl rfl)))) (by rfl) (fun _ _ _ h => h) (fun lx ax wx hS => ?_) ?_;rotate_left;(have hbx:=hS.1;clear hS;replace x1:=bc hbx x1;replace x2:=bc hbx x2;replace z2:=bc hbx z2;replace p0:=bc hbx p0;replace p1:=bc hbx p1;replace p2:=bc hbx p2;replace l0:=bc hbx l0;replace l1':=bc hbx l1';replace l2:=bc hbx l2;replace l3:=bc hbx l3;replace l4:=bc hbx l4;replace l5:=bc hbx l5;replace l6:=bc hbx l6;replace l7:=bc hbx l7;go_simp;with_reducible rfl);rotate_left;simp only [sc0,sc1]
  refine Ae (i:=12) (v:=?_) HT rfl (by kernel_rfl) rfl (kA Aa (kA (Ab rfl rfl) (kA (Au rfl rfl rfl) (Ab rfl rfl)))) (by rfl) (fun _ _ _ h => h) (fun lx ax wx hS => ?_) ?_;rotate_left;(have hbx:=hS.1;clear hS;replace x1:=bc hbx x1;replace x2:=bc hbx x2;replace z2:=bc hbx z2;replace p0:=bc hbx p0;replace p1:=bc hbx p1;replace p2:=bc hbx p2;replace l0:=bc hbx l0;replace l1':=bc hbx l1';replace l2:=bc hbx l2;replace l3:=bc hbx l3;replace l4:=bc hbx l4;replace l5:=bc hbx l5;replace l6:=bc hbx l6;replace l7:=bc hbx l7;go_simp;with_reducible rfl);rotate_left;simp only [sc0,sc1]
  refine Ae (i:=13) (v:=?_) HT rfl (by kernel_rfl) rfl (kA Aa (kA (Ab rfl rfl) (kA (Au rfl rfl rfl) (Ab rfl rfl)))) (by rfl) (fun _ _ _ h => h) (fun lx ax wx hS => ?_) ?_;rotate_left;(have hbx:=hS.1;clear hS;replace x1:=bc hbx x1;replace x2:=bc hbx x2;replace z2:=bc hbx z2;replace p0:=bc hbx p0;replace p1:=bc hbx p1;replace p2:=bc hbx p2;replace l0:=bc hbx l0;replace l1':=bc hbx l1';replace l2:=bc hbx l2;replace l3:=bc hbx l3;replace l4:=bc hbx l4;replace l5:=bc hbx l5;replace l6:=bc hbx l6;replace l7:=bc hbx l7;go_simp;with_reducible rfl);rotate_left;simp only [sc0,sc1]
  refine Ae (i:=14) (v:=?_) HT rfl (by kernel_rfl) rfl (kA Aa (kA (Ab rfl rfl) (kA (Au rfl rfl rfl) (Ab rfl rfl)))) (by rfl) (fun _ _ _ h => h) (fun lx ax wx hS => ?_) ?_;rotate_left;(have hbx:=hS.1;clear hS;replace x1:=bc hbx x1;replace x2:=bc hbx x2;replace z2:=bc hbx z2;replace p0:=bc hbx p0;replace p1:=bc hbx p1;replace p2:=bc hbx p2;replace l0:=bc hbx l0;replace l1':=bc hbx l1';replace l2:=bc hbx l2;replace l3:=bc hbx l3;replace l4:=bc hbx l4;replace l5:=bc hbx l5;replace l6:=bc hbx l6;replace l7:=bc hbx l7;go_simp;with_reducible rfl);rotate_left;simp only [sc0,sc1]
  refine Ae (i:=15) (v:=?_) HT rfl (by kernel_rfl) rfl (kA Aa (kA (Ab rfl rfl) (kA (Au rfl rfl rfl) (Ab rfl rfl)))) (by rfl) (fun _ _ _ h => h) (fun lx ax wx hS => ?_) ?_;rotate_left;(have hbx:=hS.1;clear hS;replace x1:=bc hbx x1;replace x2:=bc hbx x2;replace z2:=bc hbx z2;replace p0:=bc hbx p0;replace p1:=bc hbx p1;replace p2:=bc hbx p2;replace l0:=bc hbx l0;replace l1':=bc hbx l1';replace l2:=bc hbx l2;replace l3:=bc hbx l3;replace l4:=bc hbx l4;replace l5:=bc hbx l5;replace l6:=bc hbx l6;replace l7:=bc hbx l7;go_simp;with_reducible rfl);rotate_left;simp only [sc0,sc1]
  refine Ae (i:=16) (v:=?_) HT rfl (by kernel_rfl) rfl (kA Aa (kA (Ab rfl rfl) (kA (Au rfl rfl rfl) (Ab rfl rfl)))) (by rfl) (fun _ _ _ h => h) (fun lx ax wx hS => ?_) ?_;rotate_left;(have hbx:=hS.1;clear hS;replace x1:=bc hbx x1;replace x2:=bc hbx x2;replace z2:=bc hbx z2;replace p0:=bc hbx p0;replace p1:=bc hbx p1;replace p2:=bc hbx p2;replace l0:=bc hbx l0;replace l1':=bc hbx l1';replace l2:=bc hbx l2;replace l3:=bc hbx l3;replace l4:=bc hbx l4;replace l5:=bc hbx l5;replace l6:=bc hbx l6;replace l7:=bc hbx l7;go_simp;with_reducible rfl);rotate_left;simp only [sc0,sc1]
  apply reg_later2
  · intro hrest
    refine Ba [17,21] (by kernel_rfl) (fun i hi wx hS => ?_)
    rcases List.mem_cons.1 hi with rfl | hi
    · clear hi
      refine EZ (f:=166) (args:=#[(pg e.mem p).val A2 c2,r1.val, .int .i64 ((e.log.length : Int) + 1)]) rfl rfl Tryz.func166 (by kernel_rfl) rfl rfl (by rfl) (by simp only [List.map_toArray,List.map_cons,List.map_nil];rfl) ((HCR.out wx hS.1).mono ?_)
      rintro x w6 ⟨u,rfl,ho,hb⟩
      refine ⟨_,rfl,⟨bj hS.1 hb,fun _ => ⟨u,rfl,ho.lower hS.1.size⟩,fun _ => ⟨trivial,fun h => (AL h (by kernel_rfl)).elim⟩,fun h => (AL h (by kernel_rfl)).elim⟩,?_⟩
      clear hS ho hb
      simp only [sc0,sc1]
      refine Ae (i:=18) (v:=?_) HT rfl (by kernel_rfl) rfl (kA Aa (kA (Ab rfl rfl) (kA (Au rfl rfl rfl) (Ab rfl rfl)))) (by rfl) (fun _ _ _ h => h) (fun lx ax wx hS => ?_) ?_;rotate_left;(go_simp;with_reducible rfl);rotate_left;simp only [sc0,sc1]
      refine Ae (i:=19) (v:=?_) HT rfl (by kernel_rfl) rfl (kA Aa (kA (Ab rfl rfl) (kA (Au rfl rfl rfl) (Ab rfl rfl)))) (by rfl) (fun _ _ _ h => h) (fun lx ax wx hS => ?_) ?_;rotate_left;(go_simp;with_reducible rfl);rotate_left;simp only [sc0,sc1]
      refine Ae (i:=20) (v:=?_) HT rfl (by kernel_rfl) rfl (kA Aa (kA (Ab rfl rfl) (kA (Au rfl rfl rfl) (Ab rfl rfl)))) (by rfl) (fun _ _ _ h => h) (fun lx ax wx hS => ?_) ?_;rotate_left;(go_simp;with_reducible rfl);rotate_left;simp only [sc0,sc1]
      refine Ba [21] (by kernel_rfl) (fun i hi wx hS => ?_)
      obtain rfl:=List.mem_singleton.1 hi
      clear hi
      refine BX (w1:=wx.alloc Cw) (ptr wx.heap.size) rfl rfl (by rfl) (by go_simp) ?_
      refine ⟨⟨bj hS.1 (Ah (Below.refl _ _) _),fun _ => (hS.2.1 (by kernel_rfl)).elim fun u hu => ⟨u,hu.1,hu.2.below (Ah (Below.refl _ _) _)⟩,fun _ => ⟨trivial,fun _ => ⟨wx.heap.size,rfl,hS.1.size,AR.mk1 wx zp _⟩⟩,fun h => (AL h (by kernel_rfl)).elim⟩,?_⟩
      obtain ⟨B,hB⟩ : ∃ B,wx.heap.size = B:=⟨_,rfl⟩
      rw [hB]
      clear hB hS
      simp only [sc0,sc1]
      exact GD (done := [21,20,19,18,17,16,15,14,13,12,11,10,9,8,7,6,5,4,3,2,1,0]) (by kernel_rfl) (hrest u B)
    · obtain rfl:=List.mem_singleton.1 hi
      clear hi
      refine BX (w1:=wx.alloc Cw) (ptr wx.heap.size) rfl rfl (by rfl) (by go_simp) ?_
      refine ⟨⟨bj hS.1 (Ah (Below.refl _ _) _),fun h => (AL h (by kernel_rfl)).elim,fun _ => ⟨trivial,fun _ => ⟨wx.heap.size,rfl,hS.1.size,AR.mk1 wx zp _⟩⟩,fun h => (AL h (by kernel_rfl)).elim⟩,?_⟩
      obtain ⟨B,hB⟩ : ∃ B,wx.heap.size = B:=⟨_,rfl⟩
      rw [hB]
      clear hB hS
      simp only [sc0,sc1]
      refine Ba [17] (by kernel_rfl) (fun i hi wx hS => ?_)
      obtain rfl:=List.mem_singleton.1 hi
      clear hi
      refine EZ (f:=166) (args:=#[(pg e.mem p).val A2 c2,r1.val, .int .i64 ((e.log.length : Int) + 1)]) rfl rfl Tryz.func166 (by kernel_rfl) rfl rfl (by rfl) (by simp only [List.map_toArray,List.map_cons,List.map_nil];rfl) ((HCR.out wx hS.1).mono ?_)
      rintro x w6 ⟨u,rfl,ho,hb⟩
      refine ⟨_,rfl,⟨bj hS.1 hb,fun _ => ⟨u,rfl,ho.lower hS.1.size⟩,fun _ => ⟨trivial,fun _ => ((hS.2.2.1 (by kernel_rfl)).2 (by kernel_rfl)).elim fun B' hB' => ⟨B',hB'.1,hB'.2.1,hB'.2.2.up hb⟩⟩,fun h => (AL h (by kernel_rfl)).elim⟩,?_⟩
      clear hS ho hb
      simp only [sc0,sc1]
      refine Ae (i:=18) (v:=?_) HT rfl (by kernel_rfl) rfl (kA Aa (kA (Ab rfl rfl) (kA (Au rfl rfl rfl) (Ab rfl rfl)))) (by rfl) (fun _ _ _ h => h) (fun lx ax wx hS => ?_) ?_;rotate_left;(go_simp;with_reducible rfl);rotate_left;simp only [sc0,sc1]
      refine Ae (i:=19) (v:=?_) HT rfl (by kernel_rfl) rfl (kA Aa (kA (Ab rfl rfl) (kA (Au rfl rfl rfl) (Ab rfl rfl)))) (by rfl) (fun _ _ _ h => h) (fun lx ax wx hS => ?_) ?_;rotate_left;(go_simp;with_reducible rfl);rotate_left;simp only [sc0,sc1]
      refine Ae (i:=20) (v:=?_) HT rfl (by kernel_rfl) rfl (kA Aa (kA (Ab rfl rfl) (kA (Au rfl rfl rfl) (Ab rfl rfl)))) (by rfl) (fun _ _ _ h => h) (fun lx ax wx hS => ?_) ?_;rotate_left;(go_simp;with_reducible rfl);rotate_left;simp only [sc0,sc1]
      exact GD (done := [21,20,19,18,17,16,15,14,13,12,11,10,9,8,7,6,5,4,3,2,1,0]) (by kernel_rfl) (hrest u B)
  intro u B
  refine Ba [22] (by kernel_rfl) (fun i hi wx hS => ?_)
  obtain rfl:=List.mem_singleton.1 hi
  clear hi
  obtain ⟨h1,h2,h3, -⟩:=hS
  obtain ⟨u1,hu1,hown⟩:=h2 (by kernel_rfl)
  have hu1 : Value.tuple #[q.own u, .bool true] = .tuple #[q.own u1, .bool true]:=hu1
  obtain rfl : u = u1:=by simpa using hu1
  obtain ⟨B',hB',hN,hP⟩:=(h3 (by kernel_rfl)).2 (by kernel_rfl)
  have hB' : ptr B = ptr B':=hB'
  obtain rfl : B = B':=by simpa using hB'
  obtain ⟨A1,c1,rfl, -, -⟩:=hown.reads
  have y0:=hP.c0
  have y1:=hP.c1
  have y2:=hP.c2
  have f0:=hP.frz 0
  have f1:=hP.frz 1
  have f2:=hP.frz 2
  refine BJ (w1:=Go.Proofs.YtpjmlpmhgfghbaaGreat.Cu wx B q (.slice A1 q.vals.length c1)) rfl (by rfl) (by go_simp) ?_
  have hP5:=hP.Cu q (.slice A1 q.vals.length c1)
  have ho5:=hown.XP (Ur hown hP) q (.slice A1 q.vals.length c1)
  have hb5 : Below w2.heap.size w2 (Go.Proofs.YtpjmlpmhgfghbaaGreat.Cu wx B q (.slice A1 q.vals.length c1)):=Cr h1 hN q (.slice A1 q.vals.length c1)
  refine ⟨⟨hb5,fun _ => ⟨_,rfl,ho5⟩,fun h => (AL (by kernel_rfl) h).elim,fun _ => ⟨B,_,rfl,hN,hP5,ho5⟩⟩,?_⟩
  clear h1 h2 h3 hu1 hown hB' hN hP f0 f1 f2 hP5 ho5 hb5 y0 y1 y2
  refine Ae (i:=23) (v:=?_) HT rfl (by kernel_rfl) rfl (kA Aa (kA (Ab rfl rfl) (kA (Au rfl rfl rfl) (Ab rfl rfl)))) (by rfl) (fun _ _ _ h => h) (fun lx ax wx hS => ?_) ?_
  rotate_left
  · go_simp
    with_reducible rfl
  rotate_left
  simp only [sc0,sc1]
  refine DV (by kernel_rfl) (fun w5 hS => ?_)
  obtain ⟨hb5, -, -,h4⟩:=hS
  obtain ⟨B',u',hB',hN,hP5,ho5⟩:=h4 (by kernel_rfl)
  have hB' : ptr B = ptr B':=hB'
  obtain rfl : B = B':=by simpa using hB'
  have HB5:=As hb5
  obtain ⟨A5,c5,rfl, -, -⟩:=ho5.reads
  have HO5:=As ho5
  have y0:=hP5.c0
  have y1:=hP5.c1
  have y2:=hP5.c2
  replace x1:=bc hb5 x1
  replace z2:=bc hb5 z2
  clear hB' hN hP5 ho5 hb5 h4 x2 p0 p1 p2 l0 l1' l2 l3 l4 l5 l6 l7
  go_wp2
  refine AX (fun lx a wx => Below w5.heap.size w5 wx) 8 rfl (by kernel_rfl) (Ak (Below.refl _ _)) (fun HT => ?_)
  refine Ae (i:=0) (v:=?_) HT rfl (by kernel_rfl) rfl (Aa) (by rfl) (fun _ _ _ h => h) (fun lx ax wx hS => ?_) ?_;rotate_left;(replace x1:=bc hS x1;replace z2:=bc hS z2;replace y0:=bc hS y0;replace y1:=bc hS y1;replace y2:=bc hS y2;go_simp;with_reducible rfl);rotate_left;simp only [sc0,sc1]
  refine Ae (i:=1) (v:=?_) HT rfl (by kernel_rfl) rfl (Aa) (by rfl) (fun _ _ _ h => h) (fun lx ax wx hS => ?_) ?_;rotate_left;(replace x1:=bc hS x1;replace z2:=bc hS z2;replace y0:=bc hS y0;replace y1:=bc hS y1;replace y2:=bc hS y2;go_simp;with_reducible rfl);rotate_left;simp only [sc0,sc1]
  refine Ae (i:=2) (v:=?_) HT rfl (by kernel_rfl) rfl (Aa) (by rfl) (fun _ _ _ h => h) (fun lx ax wx hS => ?_) ?_;rotate_left;(replace x1:=bc hS x1;replace z2:=bc hS z2;replace y0:=bc hS y0;replace y1:=bc hS y1;replace y2:=bc hS y2;go_simp;with_reducible rfl);rotate_left;simp only [sc0,sc1]
  refine Ae (i:=3) (v:=?_) HT rfl (by kernel_rfl) rfl (Aa) (by rfl) (fun _ _ _ h => h) (fun lx ax wx hS => ?_) ?_;rotate_left;(replace x1:=bc hS x1;replace z2:=bc hS z2;replace y0:=bc hS y0;replace y1:=bc hS y1;replace y2:=bc hS y2;go_simp;with_reducible rfl);rotate_left;simp only [sc0,sc1]
  refine Ae (i:=4) (v:=?_) HT rfl (by kernel_rfl) rfl (Aa) (by rfl) (fun _ _ _ h => h) (fun lx ax wx hS => ?_) ?_;rotate_left;(replace x1:=bc hS x1;replace z2:=bc hS z2;replace y0:=bc hS y0;replace y1:=bc hS y1;replace y2:=bc hS y2;go_simp;with_reducible rfl);rotate_left;simp only [sc0,sc1]
  refine Ae (i:=5) (v:=?_) HT rfl (by kernel_rfl) rfl (Aa) (by rfl) (fun _ _ _ h => h) (fun lx ax wx hS => ?_) ?_;rotate_left;(replace x1:=bc hS x1;replace z2:=bc hS z2;replace y0:=bc hS y0;replace y1:=bc hS y1;replace y2:=bc hS y2;go_simp;with_reducible rfl);rotate_left;simp only [sc0,sc1]
  refine Ae (i:=6) (v:=?_) HT rfl (by kernel_rfl) rfl (Aa) (by rfl) (fun _ _ _ h => h) (fun lx ax wx hS => ?_) ?_;rotate_left;(replace x1:=bc hS x1;replace z2:=bc hS z2;replace y0:=bc hS y0;replace y1:=bc hS y1;replace y2:=bc hS y2;go_simp;with_reducible rfl);rotate_left;simp only [sc0,sc1]
  refine Ae (i:=7) (v:=?_) HT rfl (by kernel_rfl) rfl (Aa) (by rfl) (fun _ _ _ h => h) (fun lx ax wx hS => ?_) ?_;rotate_left;(replace x1:=bc hS x1;replace z2:=bc hS z2;replace y0:=bc hS y0;replace y1:=bc hS y1;replace y2:=bc hS y2;go_simp;with_reducible rfl);rotate_left;simp only [sc0,sc1]
  refine Cg (i:=8) (by kernel_rfl) rfl (fun wx hS => ?_)
  have h5x:=bj HB5.out hS
  refine Ej (ok:=okm) (w0:=w0) (N:=w2.heap.size) (q:=q) p rfl (.tmp 39) (.tmp 38) rfl (by rfl) rfl rfl rfl (HO5.out.below hS) HB2.out.size (Kd.DC HPM.out h5x) hpl (bj HB2.out h5x) (fun w8 hO8 hB8 hg8 => ?_)
  refine BQ (by kernel_rfl) ?_
  have hd8:=Kd.DC HPD.out h5x
  have hty:=Kd.Fu (Kd.Br HPM.out h5x) gm (by simp [Value.ownBlock])
  have he8:=AU.Pt (e:={ e with log:=l1 }) HAP.out hd8 (Kd.CG HO2.out.l h5x) (HO5.out.below hS) hO8 (L8 HPM.out gm (by simp [Value.ownBlock])) hg8 hty
  have hq8 : Ai w8 g { e with mem:=e.mem.set p q,log:=l1 } (.slice Ad e.disk.length cd) (.slice (some ⟨gm,0,none⟩) e.mem.length capm) (.slice (some adl) l1.length cl):=(hg8.block g (by have:=HQ2.out.lt;have:=h5x.size;omega) (fun e2 => by injection e2 with e2;exact Fq HQ2.out HPM.out e2)).trans (HQ2.out.up h5x)
  have HX8:=As (And.intro hB8 (And.intro he8 hq8))
  clear hS h5x hO8 hB8 hg8 hd8 hty he8 hq8 x1 z2 y0 y1 y2
  go_wp2
  exact bodyPost_ret (v:=.tuple #[]) (by simp [results,Tryz.results109,go_sem]) rfl ⟨⟨_,rfl⟩,by rw [HE.out];exact ⟨⟨_,_,_,HX8.out.2.2,HX8.out.2.1⟩,HX8.out.1,HG.out⟩⟩
set_option maxRecDepth 100000 in
set_option maxHeartbeats 8000000 in
theorem RN {w0 w : World} {g gp gs gv : Nat} {e : Eng} {p : Nat} {slot val : Int} (hp : p < 5) (hgm : geo e.mem) (h : BZ w0 w g e) (bp : Cj w gp (.int .i64 (p : Int)) 3) (bs : Cj w gs (.int .i64 slot) 3) (bv : Cj w gv (.int .i64 val) 3) : Calls Tryz.prog 139 #[ptr g,ptr gp,ptr gs,ptr gv] w fun x w' => x = .returned (.bool ((pg e.mem p).owner != 0 && (inB slot 0 2 && inB val 0 9))) ∧ Below w.heap.size w w':=by
  obtain ⟨⟨vd,vm,vl,hq,ho⟩, -, -⟩:=h
  obtain ⟨okd,okm, -, -,hpm⟩:=ho.ex
  have hg5:=hgm.1
  obtain ⟨gm,capm,rfl, -, -⟩:=Cb hpm (by omega)
  have hpl : p < e.mem.length:=by omega
  obtain ⟨A2,c2,p0,p1,p2, -, -⟩:=Dz hpm p hpl
  have hp5i : (p : Int) < 5:=by omega
  have x1:=hq.c1
  have y1:=bp.c0
  have y2:=bs.c0
  have y3:=bv.c0
  clear ho hpm hq bp bs bv hgm p0 p2
  cases h1 : inB slot 0 2
  all_goals cases h2 : inB val 0 9
  all_goals rcases BO (pg e.mem p).owner 0 with ⟨e1,b1,c1⟩ | ⟨e1,b1,c1⟩
  all_goals
    have H1:=As h1
    have H2:=As h2
    clear h1 h2
    go_enter Tryz.func139,Tryz.ntmps139
    go_wp2
    refine Bo (fun w' => Below w.heap.size w w') rfl rfl (by kernel_rfl) (Ak (Below.refl _ _)) (fun HT => ?_)
    repeat (first
      | (refine BU (fun wx hS => ?_))
      | ((with_reducible refine Bw (f:=77) rfl ?_);refine Bz (v:=.bool _) (args:=#[.int .i64 slot, .int .i64 0, .int .i64 2]) HT rfl Tryz.func77 (by kernel_rfl) rfl rfl (by rfl) (fun _ _ _ h => h) (by simp only [List.map_toArray,List.map_cons,List.map_nil];rfl) (fun wx hS => (Cc slot 0 2 wx).mono fun _ _ h => ⟨h.1.trans (congrArg (fun b => Ending.returned (Value.bool b)) H1.out),h.2 ▸ hS⟩) ?_;simp only [sc0,sc1])
      | ((with_reducible refine Bw (f:=77) rfl ?_);refine Bz (v:=.bool _) (args:=#[.int .i64 val, .int .i64 0, .int .i64 9]) HT rfl Tryz.func77 (by kernel_rfl) rfl rfl (by rfl) (fun _ _ _ h => h) (by simp only [List.map_toArray,List.map_cons,List.map_nil];rfl) (fun wx hS => (Cc val 0 9 wx).mono fun _ _ h => ⟨h.1.trans (congrArg (fun b => Ending.returned (Value.bool b)) H2.out),h.2 ▸ hS⟩) ?_;simp only [sc0,sc1])
      | (refine BK HT rfl (by rfl) (fun _ _ _ h => h) ?_;simp only [sc0,sc1])
      | (refine BS (v:=?_) HT rfl (by rfl) (fun _ _ _ h => h) (fun wx hS => ?_) ?_;rotate_left;(have x1:=bc hS x1;have y1:=bc hS y1;have y2:=bc hS y2;have y3:=bc hS y3;have p1:=bc hS p1;go_simp;with_reducible rfl);rotate_left;simp only [sc0,sc1]))
    have HS:=As hS
    clear hS x1 y1 y2 y3 p1
    go_wp2
    go_ret
    exact ⟨AB (by simp [b1,c1]),HS.out⟩
set_option maxRecDepth 100000 in
set_option maxHeartbeats 8000000 in
theorem RL {w0 w : World} {g gt gp gs gv : Nat} {e : Eng} {p s : Nat} {tx val : Int} (hp : p < 5) (hs : s < 3) (hgm : geo e.mem) (hl : e.log.length + 1 ≤ 150) (hdo : Fa (pg e.mem p) (Dl (N9 e tx (p : Int) (s : Int) val) (Aj e.log tx e.log.length)) (e.log.length + 1 : Nat) = true) (h : BZ w0 w g e) (bt : Cj w gt (.int .i64 tx) 3) (bp : Cj w gp (.int .i64 (p : Int)) 3) (bs : Cj w gs (.int .i64 (s : Int)) 3) (bv : Cj w gv (.int .i64 val) 3) : Calls Tryz.prog 141 #[ptr g,ptr gt,ptr gp,ptr gs,ptr gv] w (Hr w0 g (e.app (N9 e tx (p : Int) (s : Int) val))):=by
  have HG:=As h
  obtain ⟨⟨vd,vm,vl,hq,ho⟩, -, -⟩:=h
  obtain ⟨okd,okm, -, -,hpm⟩:=ho.ex
  have hg5:=hgm.1
  obtain ⟨gm,capm,rfl, -, -⟩:=Cb hpm (by omega)
  have hpl : p < e.mem.length:=by omega
  obtain ⟨A2,c2,p0,p1,p2,pC, -⟩:=Dz hpm p hpl
  have hv3 : (pg e.mem p).vals.length = 3:=EW hgm hp
  have hsl : s < (pg e.mem p).vals.length:=by omega
  have hs3i : (s : Int) < 3:=by omega
  obtain ⟨ad,rfl,z0⟩:=Dg pC s hsl
  have hp5i : (p : Int) < 5:=by omega
  have x1:=hq.c1
  have y0:=bt.c0
  have y1:=bp.c0
  have y2:=bs.c0
  have y3:=bv.c0
  have HGM:=As hgm
  have HL:=As hl
  have HDO:=As hdo
  obtain ⟨r,hr⟩ : ∃ r,N9 e tx (p : Int) (s : Int) val = r:=⟨_,rfl⟩
  have HR:=As hr
  have HRV : Ac (r.val = .agg #[.int .i64 1, .int .i64 tx, .int .i64 (p : Int), .int .i64 (s : Int), .int .i64 (iv (pg e.mem p).vals s), .int .i64 val, .int .i64 0, .int .i64 0]):=⟨by rw [← hr];rfl⟩
  have HRT : Ac (r.tx = tx):=⟨by rw [← hr];rfl⟩
  have HRP : Ac (r.page = (p : Int)):=⟨by rw [← hr];rfl⟩
  have HCALL : Ac (∀ wx,Below w.heap.size w wx → Calls Tryz.prog 109 #[ptr g, .agg #[.int .i64 1, .int .i64 tx, .int .i64 (p : Int), .int .i64 (s : Int), .int .i64 (iv (pg e.mem p).vals s), .int .i64 val, .int .i64 0, .int .i64 0]] wx (Hr w0 g (e.app r))):=⟨fun wx hb => by
    have h:=JH r HL.out HGM.out (by rw [HRP.out];omega) (by have:=HDO.out;rw [HR.out] at this;rw [HRP.out,HRT.out];simpa using this) (HG.out.up hb)
    rw [HRV.out] at h
    exact h⟩
  rw [hr]
  clear ho hpm hq bt bp bs bv hgm hl hdo hr hv3 p0 p1 pC HR HRV HRT HRP HDO HL HGM HG
  go_enter Tryz.func141,Tryz.ntmps141
  go_wp2
  refine AX (fun lx a wx => Un 17 (fun wx => Below w.heap.size w wx) lx a wx ∧ Sl 17 23 (fun _ wx => BZ w0 wx g (e.app r)) lx a wx) 18 rfl (by kernel_rfl) (⟨fun _ => Ak (Below.refl _ _),Bc⟩) (fun HT => ?_)
  refine Aq (i:=0) (v:=?_) 17 HT rfl (by kernel_rfl) (by kernel_rfl) rfl (kA (Ag rfl) (Ab rfl rfl)) (by rfl) (fun _ _ _ h => h) (fun lx ax wx hK hS => ?_) ?_;rotate_left;(have hbx:=hS.1 hK;clear hS;replace x1:=bc hbx x1;replace y0:=bc hbx y0;replace y1:=bc hbx y1;replace y2:=bc hbx y2;replace y3:=bc hbx y3;replace p2:=bc hbx p2;replace z0:=bc hbx z0;go_simp;with_reducible rfl);rotate_left;simp only [sc0,sc1]
  refine Aq (i:=1) (v:=?_) 17 HT rfl (by kernel_rfl) (by kernel_rfl) rfl (kA (Ag rfl) (Ab rfl rfl)) (by rfl) (fun _ _ _ h => h) (fun lx ax wx hK hS => ?_) ?_;rotate_left;(have hbx:=hS.1 hK;clear hS;replace x1:=bc hbx x1;replace y0:=bc hbx y0;replace y1:=bc hbx y1;replace y2:=bc hbx y2;replace y3:=bc hbx y3;replace p2:=bc hbx p2;replace z0:=bc hbx z0;go_simp;with_reducible rfl);rotate_left;simp only [sc0,sc1]
  refine Aq (i:=2) (v:=?_) 17 HT rfl (by kernel_rfl) (by kernel_rfl) rfl (kA (Ag rfl) (Ab rfl rfl)) (by rfl) (fun _ _ _ h => h) (fun lx ax wx hK hS => ?_) ?_;rotate_left;(have hbx:=hS.1 hK;clear hS;replace x1:=bc hbx x1;replace y0:=bc hbx y0;replace y1:=bc hbx y1;replace y2:=bc hbx y2;replace y3:=bc hbx y3;replace p2:=bc hbx p2;replace z0:=bc hbx z0;go_simp;with_reducible rfl);rotate_left;simp only [sc0,sc1]
  refine Aq (i:=3) (v:=?_) 17 HT rfl (by kernel_rfl) (by kernel_rfl) rfl (kA (Ag rfl) (Ab rfl rfl)) (by rfl) (fun _ _ _ h => h) (fun lx ax wx hK hS => ?_) ?_;rotate_left;(have hbx:=hS.1 hK;clear hS;replace x1:=bc hbx x1;replace y0:=bc hbx y0;replace y1:=bc hbx y1;replace y2:=bc hbx y2;replace y3:=bc hbx y3;replace p2:=bc hbx p2;replace z0:=bc hbx z0;go_simp;with_reducible rfl);rotate_left;simp only [sc0,sc1]
  refine Aq (i:=4) (v:=?_) 17 HT rfl (by kernel_rfl) (by kernel_rfl) rfl (kA (Ag rfl) (Ab rfl rfl)) (by rfl) (fun _ _ _ h => h) (fun lx ax wx hK hS => ?_) ?_;rotate_left;(have hbx:=hS.1 hK;clear hS;replace x1:=bc hbx x1;replace y0:=bc hbx y0;replace y1:=bc hbx y1;replace y2:=bc hbx y2;replace y3:=bc hbx y3;replace p2:=bc hbx p2;replace z0:=bc hbx z0;go_simp;with_reducible rfl);rotate_left;simp only [sc0,sc1]
  refine Aq (i:=5) (v:=?_) 17 HT rfl (by kernel_rfl) (by kernel_rfl) rfl (kA (Ag rfl) (Ab rfl rfl)) (by rfl) (fun _ _ _ h => h) (fun lx ax wx hK hS => ?_) ?_;rotate_left;(have hbx:=hS.1 hK;clear hS;replace x1:=bc hbx x1;replace y0:=bc hbx y0;replace y1:=bc hbx y1;replace y2:=bc hbx y2;replace y3:=bc hbx y3;replace p2:=bc hbx p2;replace z0:=bc hbx z0;go_simp;with_reducible rfl);rotate_left;simp only [sc0,sc1]
  refine Aq (i:=6) (v:=?_) 17 HT rfl (by kernel_rfl) (by kernel_rfl) rfl (kA (Ag rfl) (Ab rfl rfl)) (by rfl) (fun _ _ _ h => h) (fun lx ax wx hK hS => ?_) ?_;rotate_left;(have hbx:=hS.1 hK;clear hS;replace x1:=bc hbx x1;replace y0:=bc hbx y0;replace y1:=bc hbx y1;replace y2:=bc hbx y2;replace y3:=bc hbx y3;replace p2:=bc hbx p2;replace z0:=bc hbx z0;go_simp;with_reducible rfl);rotate_left;simp only [sc0,sc1]
  refine Aq (i:=7) (v:=?_) 17 HT rfl (by kernel_rfl) (by kernel_rfl) rfl (kA (Ag rfl) (Ab rfl rfl)) (by rfl) (fun _ _ _ h => h) (fun lx ax wx hK hS => ?_) ?_;rotate_left;(have hbx:=hS.1 hK;clear hS;replace x1:=bc hbx x1;replace y0:=bc hbx y0;replace y1:=bc hbx y1;replace y2:=bc hbx y2;replace y3:=bc hbx y3;replace p2:=bc hbx p2;replace z0:=bc hbx z0;go_simp;with_reducible rfl);rotate_left;simp only [sc0,sc1]
  refine Aq (i:=8) (v:=?_) 17 HT rfl (by kernel_rfl) (by kernel_rfl) rfl (kA (Ag rfl) (Ab rfl rfl)) (by rfl) (fun _ _ _ h => h) (fun lx ax wx hK hS => ?_) ?_;rotate_left;(have hbx:=hS.1 hK;clear hS;replace x1:=bc hbx x1;replace y0:=bc hbx y0;replace y1:=bc hbx y1;replace y2:=bc hbx y2;replace y3:=bc hbx y3;replace p2:=bc hbx p2;replace z0:=bc hbx z0;go_simp;with_reducible rfl);rotate_left;simp only [sc0,sc1]
  refine Aq (i:=9) (v:=?_) 17 HT rfl (by kernel_rfl) (by kernel_rfl) rfl (kA (Ag rfl) (Ab rfl rfl)) (by rfl) (fun _ _ _ h => h) (fun lx ax wx hK hS => ?_) ?_;rotate_left;(have hbx:=hS.1 hK;clear hS;replace x1:=bc hbx x1;replace y0:=bc hbx y0;replace y1:=bc hbx y1;replace y2:=bc hbx y2;replace y3:=bc hbx y3;replace p2:=bc hbx p2;replace z0:=bc hbx z0;go_simp;with_reducible rfl);rotate_left;simp only [sc0,sc1]
  refine Aq (i:=10) (v:=?_) 17 HT rfl (by kernel_rfl) (by kernel_rfl) rfl (kA (Ag rfl) (Ab rfl rfl)) (by rfl) (fun _ _ _ h => h) (fun lx ax wx hK hS => ?_) ?_;rotate_left;(have hbx:=hS.1 hK;clear hS;replace x1:=bc hbx x1;replace y0:=bc hbx y0;replace y1:=bc hbx y1;replace y2:=bc hbx y2;replace y3:=bc hbx y3;replace p2:=bc hbx p2;replace z0:=bc hbx z0;go_simp;with_reducible rfl);rotate_left;simp only [sc0,sc1]
  refine Aq (i:=11) (v:=?_) 17 HT rfl (by kernel_rfl) (by kernel_rfl) rfl (kA (Ag rfl) (Ab rfl rfl)) (by rfl) (fun _ _ _ h => h) (fun lx ax wx hK hS => ?_) ?_;rotate_left;(have hbx:=hS.1 hK;clear hS;replace x1:=bc hbx x1;replace y0:=bc hbx y0;replace y1:=bc hbx y1;replace y2:=bc hbx y2;replace y3:=bc hbx y3;replace p2:=bc hbx p2;replace z0:=bc hbx z0;go_simp;with_reducible rfl);rotate_left;simp only [sc0,sc1]
  refine Aq (i:=12) (v:=?_) 17 HT rfl (by kernel_rfl) (by kernel_rfl) rfl (kA (Ag rfl) (Ab rfl rfl)) (by rfl) (fun _ _ _ h => h) (fun lx ax wx hK hS => ?_) ?_;rotate_left;(have hbx:=hS.1 hK;clear hS;replace x1:=bc hbx x1;replace y0:=bc hbx y0;replace y1:=bc hbx y1;replace y2:=bc hbx y2;replace y3:=bc hbx y3;replace p2:=bc hbx p2;replace z0:=bc hbx z0;go_simp;with_reducible rfl);rotate_left;simp only [sc0,sc1]
  refine Aq (i:=13) (v:=?_) 17 HT rfl (by kernel_rfl) (by kernel_rfl) rfl (kA (Ag rfl) (Ab rfl rfl)) (by rfl) (fun _ _ _ h => h) (fun lx ax wx hK hS => ?_) ?_;rotate_left;(have hbx:=hS.1 hK;clear hS;replace x1:=bc hbx x1;replace y0:=bc hbx y0;replace y1:=bc hbx y1;replace y2:=bc hbx y2;replace y3:=bc hbx y3;replace p2:=bc hbx p2;replace z0:=bc hbx z0;go_simp;with_reducible rfl);rotate_left;simp only [sc0,sc1]
  refine Aq (i:=14) (v:=?_) 17 HT rfl (by kernel_rfl) (by kernel_rfl) rfl (kA (Ag rfl) (Ab rfl rfl)) (by rfl) (fun _ _ _ h => h) (fun lx ax wx hK hS => ?_) ?_;rotate_left;(have hbx:=hS.1 hK;clear hS;replace x1:=bc hbx x1;replace y0:=bc hbx y0;replace y1:=bc hbx y1;replace y2:=bc hbx y2;replace y3:=bc hbx y3;replace p2:=bc hbx p2;replace z0:=bc hbx z0;go_simp;with_reducible rfl);rotate_left;simp only [sc0,sc1]
  refine Aq (i:=15) (v:=?_) 17 HT rfl (by kernel_rfl) (by kernel_rfl) rfl (kA (Ag rfl) (Ab rfl rfl)) (by rfl) (fun _ _ _ h => h) (fun lx ax wx hK hS => ?_) ?_;rotate_left;(have hbx:=hS.1 hK;clear hS;replace x1:=bc hbx x1;replace y0:=bc hbx y0;replace y1:=bc hbx y1;replace y2:=bc hbx y2;replace y3:=bc hbx y3;replace p2:=bc hbx p2;replace z0:=bc hbx z0;go_simp;with_reducible rfl);rotate_left;simp only [sc0,sc1]
  refine Aq (i:=16) (v:=?_) 17 HT rfl (by kernel_rfl) (by kernel_rfl) rfl (kA (Ag rfl) (Ab rfl rfl)) (by rfl) (fun _ _ _ h => h) (fun lx ax wx hK hS => ?_) ?_;rotate_left;(have hbx:=hS.1 hK;clear hS;replace x1:=bc hbx x1;replace y0:=bc hbx y0;replace y1:=bc hbx y1;replace y2:=bc hbx y2;replace y3:=bc hbx y3;replace p2:=bc hbx p2;replace z0:=bc hbx z0;go_simp;with_reducible rfl);rotate_left;simp only [sc0,sc1]
  refine C9 (i:=17) (f:=109) (args:=#[ptr g, .agg #[.int .i64 1, .int .i64 tx, .int .i64 (p : Int), .int .i64 (s : Int), .int .i64 (iv (pg e.mem p).vals s), .int .i64 val, .int .i64 0, .int .i64 0]]) (fun _ => True) rfl (by kernel_rfl) rfl Tryz.func109 (by kernel_rfl) rfl rfl (by rfl) (by simp only [List.map_toArray,List.map_cons,List.map_nil];rfl) (fun wx hS => (HCALL.out wx (hS.1 (by kernel_rfl))).mono (by rintro x w6 ⟨⟨v,rfl⟩,hg6⟩;exact ⟨v,rfl,trivial,fun h => (AL (by kernel_rfl) h).elim,fun _ => hg6⟩)) (fun vx hg => ?_);simp only [sc0,sc1]
  refine DV (by kernel_rfl) (fun w6 hS => ?_)
  have HG6:=As (hS.2 (by kernel_rfl))
  clear hS hg x1 y0 y1 y2 y3 p2 z0
  go_wp2
  exact bodyPost_ret (v:=.tuple #[]) (by simp [results,Tryz.results141,go_sem]) rfl ⟨⟨_,rfl⟩,HG6.out⟩
theorem TS (e : Eng) (r : Rec) : (e.app r).log = e.log ++ [{ r with prev:=Aj e.log r.tx e.log.length }]:=rfl
theorem IX (e : Eng) (r : Rec) : (e.app r).log.length = e.log.length + 1:=by rw [TS];simp
theorem Inv.WZ {e : Eng} {C C' : Nat → Page} {B B' : Nat} {r : Rec} (h : Inv e C B) (hup : e.down = false) (hx : Inv (e.app r) C' B') (hc : Cx r.kind = true) (hp : 0 ≤ r.page ∧ r.page < 5) : Fa (pg e.mem r.page.toNat) { r with prev:=Aj e.log r.tx e.log.length } (e.log.length + 1 : Nat) = true:=by
  have hlen:=IX e r
  have hr:=hx.core.room (e.log.length + 1) (by omega)
  have hb:=hx.core.b150
  have hF:=(AA hx.core.log (k:=e.log.length) (by omega)).ok
  rw [TS,BI] at hF
  have hpn : r.page.toNat < 5:=by omega
  have hM:=h.upm hup _ hpn
  have hm:=JZ (r:=r) h.mlen (fun _ => by omega) r.page.toNat
  rw [if_pos ⟨hc,by omega⟩] at hm
  have hok:=(CF.1 hx.Fz).2 _ hpn
  rw [hm] at hok
  have hl:=hM.lsn
  simp only [Fa,Bool.and_eq_true,decide_eq_true_eq]
  refine ⟨hM.ok,hF,hc,?_,by omega,hok⟩
  show (pg e.mem r.page.toNat).lsn < ((e.log.length + 1 : Nat) : Int)
  omega
theorem Inv.WA {x : Eng} {C : Nat → Page} {B n : Nat} (hx : Inv x C B) (hl : x.log.length = n + 1) : n + 1 ≤ 150:=by
  have hr:=hx.core.room (n + 1) (by omega)
  have hb:=hx.core.b150
  omega
theorem Inv.Tf {x : Eng} {C : Nat → Page} {B n : Nat} {l : List Rec} (hx : Inv x C B) (hl : x.log = l) (hn : l.length = n + 1) : n + 1 + Bp l (n + 1) ≤ 150:=by
  subst hl
  have hr:=hx.core.room (n + 1) (by omega)
  have hb:=hx.core.b150
  omega
theorem Inv.PV {e x : Eng} {C : Nat → Page} {B : Nat} {ok : Bool} (hx : ok = true → Inv x C B) : Bh e ok x = if ok = true then (x,true) else (e,false):=by
  unfold Bh
  cases ok
  · rw [if_neg (by simp),if_neg (by simp)]
  · rw [if_pos ⟨rfl,WJ (hx rfl).core⟩,if_pos rfl]
theorem Qv {e : Eng} {tx page slot val : Int} : Pn e tx page slot val = (DJ e tx page && ((pg e.mem page.toNat).owner != 0 && (inB slot 0 2 && inB val 0 9))):=rfl
/-- Pages written to the disk, one behind the other. -/
def Cy (e : Eng) : List Int → Eng
  | [] => e
  | p :: ps => Cy (CQ e p.toNat) ps
theorem EH : ∀ (ps : List Int) (e : Eng),(Cy e ps).mem = e.mem ∧ (Cy e ps).log = e.log ∧ (Cy e ps).down = e.down ∧ (Cy e ps).disk.length = e.disk.length
  | [],e => ⟨rfl,rfl,rfl,rfl⟩
  | p :: ps,e => by
    obtain ⟨h1,h2,h3,h4⟩:=EH ps (CQ e p.toNat)
    exact ⟨h1,h2,h3,h4.trans (by simp [CQ])⟩
theorem KR : ∀ (ps : List Int) (e : Eng) (q : Nat),e.disk.length = 5 → q < 5 → (∀ p ∈ ps,0 ≤ p ∧ p < 5) → pg (Cy e ps).disk q = if (q : Int) ∈ ps then pg e.mem q else pg e.disk q
  | [],e,q,_,_,_ => by rw [if_neg (by simp)];rfl
  | p :: ps,e,q,h5,hq,hp => by
    have h1:=hp p (List.mem_cons_self ..)
    have ih:=KR ps (CQ e p.toNat) q (by simp [CQ,h5]) hq (fun x hx => hp x (List.mem_cons_of_mem _ hx))
    show pg (Cy (CQ e p.toNat) ps).disk q = _
    rw [ih]
    by_cases h : (q : Int) ∈ ps
    · rw [if_pos h,if_pos (List.mem_cons_of_mem _ h)];rfl
    · rw [if_neg h]
      show pg (e.disk.set p.toNat (pg e.mem p.toNat)) q = _
      rw [Fb (by omega)]
      by_cases e1 : p.toNat = q
      · rw [if_pos e1,if_pos (by rw [show (q : Int) = p by omega];exact List.mem_cons_self ..),e1]
      · rw [if_neg e1,if_neg (fun hx => by
          rcases List.mem_cons.1 hx with hx | hx
          · omega
          · exact h hx)]
/-- What was written, and told to be done, is what a doing makes. -/
theorem MS {e : Eng} {tx : Int} {ps : List Int} (h5 : e.disk.length = 5) (hm : ∀ p : Nat,p < 5 → ((p : Int) ∈ ps ↔ ld e.log tx e.log.length p = true)) (hp : ∀ p ∈ ps,0 ≤ p ∧ p < 5) : { (Cy e ps).app ⟨4,tx,0,0,0,0,0,0⟩ with safe:=(e.log.length + 1 : Nat) } = DK e tx:=by
  obtain ⟨h1,h2,h3,h4⟩:=EH ps e
  have hd : (Cy e ps).disk = FB e tx:=by
    refine List.ext_getElem (by rw [h4,h5];simp [FB]) (fun i h1' h2' => ?_)
    have hi : i < 5:=by rw [h4,h5] at h1';exact h1'
    have hx:=KR ps e i h5 hi hp
    have hy:=Jr e tx hi
    simp only [pg,List.getD_eq_getElem?_getD,List.getElem?_eq_getElem h1',Option.getD_some] at hx
    simp only [pg,List.getD_eq_getElem?_getD,List.getElem?_eq_getElem h2',Option.getD_some] at hy
    rw [hx,hy]
    by_cases hl : ld e.log tx e.log.length i = true
    · rw [if_pos ((hm i hi).2 hl),if_pos hl]
    · rw [if_neg (fun h => hl ((hm i hi).1 h)),if_neg hl]
  unfold Eng.app DK
  rw [if_neg (by simp [Cx])]
  rw [hd,h1,h2,h3]
theorem KQ : ∀ (ps : List Int) (e : Eng) (p : Int),Cy e (ps ++ [p]) = CQ (Cy e ps) p.toNat
  | [],_,_ => rfl
  | q :: ps,e,p => KQ ps (CQ e q.toNat) p
theorem Ms : ∀ (ps : List Int) (e : Eng),geo e.disk → geo e.mem → (∀ p ∈ ps,0 ≤ p ∧ p < 5) → geo (Cy e ps).disk
  | [],_,hd,_,_ => hd
  | q :: ps,e,hd,hm,hp => by
    have h1:=hp q (List.mem_cons_self ..)
    exact Ms ps (CQ e q.toNat) (Ls hd (EW hm (by omega))) hm (fun x hx => hp x (List.mem_cons_of_mem _ hx))
theorem F6 {l : List Rec} (hl : AP l = true) {tx : Int} (h : Aj l tx l.length ≠ 0) : tx = 1 ∨ tx = 2 ∨ tx = 3:=by
  have hle:=AY l tx l.length
  have hF:=AA hl (k:=Aj l tx l.length - 1) (by omega)
  rcases GQ l tx l.length with h1 | h1
  · exact absurd h1 h
  · have h2:=hF.tx1
    have h3:=hF.tx3
    rw [h1] at h2 h3
    omega
/-- An ending: of one who is open, in an engine that runs. -/
def Cz (e : Eng) (tx : Int) (X : Eng) : Eng × Bool:=if e.down = false ∧ Aj e.log tx e.log.length ≠ 0 then (X,true) else (e,false)
end Go.Proofs.YtpjmlpmhgfghbaaGreat
