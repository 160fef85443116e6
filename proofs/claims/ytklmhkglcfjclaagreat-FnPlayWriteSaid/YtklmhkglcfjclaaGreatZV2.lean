/- A part of the proof: what the last text of the claim says leans on this one. -/
import Derived.Test.YtklmhkglcfjclaaGreatZA1
import Derived.Test.YtklmhkglcfjclaaGreatZV1
import Derived.Deep.Slices
import Derived.OpenShut
import Derived.Deep.Strs
set_option linter.unusedVariables false
set_option linter.unusedSimpArgs false
namespace Go.Proofs.YtklmhkglcfjclaaGreat
open Go.RowKit Go.Proofs.YtklmhkglcfjclaaGreatW.PrintWords Go.Proofs.YtklmhkglcfjclaaGreatW.PrintLast
section
variable {P : Program} {ops : Array Oper} {Q : Exit → Act → World → Prop} {md : Region.Mode} {S : Array Bool → Act → World → Prop} {m : Nat}
theorem OJ {i k : Nat} {oi : Oper} {v : Value} {T : List Nat} (hm : Tail md ops m) (him : i < m) (hi : ops[i]? = some oi) (hk : Keeps S i oi.dst) (hsel : ∀ (j : Nat) (o : Oper) cs b,ops[j]? = some o → o.op ≠ .select cs b)
  (hQ : ∀ c a w,Q (.panic c) (a.put oi.dst v) w → Q (.panic c) a w) (hT : ∀ t ∈ T, ∀ o,ops[t]? = some o → ∃ e ∈ o.after,Region.binds md e = true ∧ (e.on = i ∨ e.on ∈ T)) (hkT : k ∈ T) :
  ∀ (fuel : Nat) (listed : Array Bool) (a : Act),
   (∀ j oj,ops[j]? = some oj → j ≠ i → listed.getD j true = false → (∀ e ∈ oj.after,Region.binds md e = true → e.on ≠ i) → oi.apart ops oj = true) →
   i ∈ Region.ready md ops listed → (∀ t ∈ T,listed.getD t true = false) → Mq P ops (fun l a w => S l a w ∧ l.getD k true = false) oi v a →
   KX P md ops Q S m fuel (listed.setIfInBounds i true) (a.put oi.dst v) → KX P md ops Q S m (fuel + 1) listed a:=by
 intro fuel
 induction fuel with
 | zero =>
  intro listed a _ hr hl hy H
  refine ⟨fun h => (by rw [h] at hr;cases hr),fun j hj w hS => ?_⟩
  by_cases hji : j = i
  ·subst hji;exact hy.wpOp hi ⟨hS,hl k hkT⟩ (fun w' h' => .inl ⟨(hk _ a v w').2 h'.1,H⟩)
  ·have:=ready_mono hj hji
   rw [H.1] at this
   cases this
 | succ fuel ih =>
  intro listed a hfree hr hl hy H
  refine ⟨fun h => (by rw [h] at hr;cases hr),fun j hj w hS => ?_⟩
  by_cases hji : j = i
  ·subst hji;exact hy.wpOp hi ⟨hS,hl k hkT⟩ (fun w' h' => .inl ⟨(hk _ a v w').2 h'.1,H⟩)
  ·have hjm : j < m:=Nat.lt_of_not_le fun e => hm listed j e hj i hr him
   have h1:=H.2 j (ready_mono hj hji) w ((hk _ a v w).2 hS)
   obtain ⟨hjun,oj,hoj,hall⟩:=mem_ready.1 hj
   have hun : ∀ t,listed.getD t true = false → ∀ e ∈ oj.after,Region.binds md e = true → e.on ≠ t:=fun t h0 e he hb heq => by
    have h1:=hall e he hb
    rw [heq] at h1
    rcases Nat.lt_or_ge t listed.size with h' | h'
    ·simp [h'] at h0 h1;rw [h0] at h1;cases h1
    ·simp [Array.getElem?_eq_none h'] at h1
   have hnot:=hun i (mem_ready.1 hr).1
   have hjT : j ∉ T:=fun hjT => by
    obtain ⟨e,he,hb,h2⟩:=hT j hjT oj hoj
    rcases h2 with h2 | h2
    ·exact hnot e he hb h2
    ·exact hun e.on (hl _ h2) e he hb rfl
   have h2:=Pn hoj (hfree j oj hoj hji hjun hnot) (fun cs b => hsel i oi cs b hi) (fun cs b => hsel j oj cs b hoj) hQ hy h1
   have hfree' : ∀ k ok,ops[k]? = some ok → k ≠ i → (listed.setIfInBounds j true).getD k true = false →
     (∀ e ∈ ok.after,Region.binds md e = true → e.on ≠ i) → oi.apart ops ok = true:=fun k ok hk hki hun hno => by
    refine hfree k ok hk hki ?_ hno
    by_cases hjk : j = k
    ·subst hjk;exact hjun
    ·rw [getD_set_ne true hjk] at hun;exact hun
   have hl' : ∀ t ∈ T,(listed.setIfInBounds j true).getD t true = false:=fun t ht => by
    have hne : j ≠ t:=fun e => hjT (e ▸ ht)
    rw [getD_set_ne true hne]
    exact hl t ht
   refine wpOp_mono (fun a' w' h3 => ?_) h2
   rcases h3.2 with h4 | h4
   ·rw [Array.setIfInBounds_comm _ _ (Ne.symm hji)] at h4
    exact .inl ⟨(hk _ a' v w').1 h4.1,ih (listed.setIfInBounds j true) a' hfree' (ready_mono hr (Ne.symm hji)) hl' h3.1 h4.2⟩
   ·exact absurd h4.1 (by omega)
def TL (ops : Array Oper) (i k : Nat) : List Nat:=(List.range (k + 1)).foldl (fun T j => match ops[j]? with
 | none => T
 | some o => if (o.after.any fun e => Region.binds .any e && (e.on == i || T.contains e.on)) = true then j :: T else T) []
def Vp (ops : Array Oper) (done : List Nat) (i k : Nat) : Bool:=(TL ops i k).contains k && (TL ops i k).all fun t => decide (t < ops.size) && (!done.contains t) && match ops[t]? with
 | none => false
 | some o => o.after.any fun e => Region.binds .any e && (e.on == i || (TL ops i k).contains e.on)
variable {i d : Nat} {o : Oper} {v : Value} {L : List Value} {D : List Deferred} {done : List Nat}
theorem Au (k : Nat) (ht : Ac (JR ops m = true)) (hi : ops.toList[i]? = some o) (hok : Ga ops m done i = true) (hlate : Vp ops done i k = true) (hd : o.dst = some d) (hk : Keeps S i (some d)) (hw : Region.wanted o (yielded ops L.toArray) = true)
  (hQ : ∀ c a w,Q (.panic c) (a.put o.dst v) w → Q (.panic c) a w) (hr : ∀ l a w,l.getD k false = false → S l a w → (execOp (Act.eval ⟨L.toArray,D⟩) o).run P w = .ok (.value v) w) (h : Reg P ops Q S m (i :: done) ⟨(L.set d v).toArray,D⟩) : Reg P ops Q S m done ⟨L.toArray,D⟩:=by
 refine ⟨?_⟩
 have hi' : ops[i]? = some o:=by rw [← Array.getElem?_toList];exact hi
 simp only [Ga,Bool.and_eq_true,decide_eq_true_eq] at hok
 obtain ⟨⟨⟨hf,hr0⟩,hl⟩,hm⟩:=hok
 simp only [Vp,Bool.and_eq_true,List.contains_iff_mem,List.all_eq_true] at hlate
 obtain ⟨hkT,hall⟩:=hlate
 have hs:=(Bool.and_eq_true_iff.1 ht.out).1
 have h1:=h.out
 rw [List.length_cons, ← IL] at h1
 rw [show ops.size - done.length = (ops.size - (done.length + 1)) + 1 by omega]
 refine OJ (T:=TL ops i k) (k:=k) (v:=v) (O6 ht.out) hm hi' (by rw [hd];exact hk) (Region.noSelect_spec hs) hQ (fun t h2 o2 ho2 => ?_) hkT _ _ _ (Region.free_spec hi' hf) (by simpa using hr0) (fun t h2 => ?_) (.inl ⟨hw,fun l a w hS => ?_⟩) (by rw [hd,Cx];exact h1)
 ·have h3:=hall t h2
  rw [ho2] at h3
  obtain ⟨e,he,h4⟩:=Array.any_eq_true'.1 h3.2
  simp only [Bool.and_eq_true,Bool.or_eq_true,beq_iff_eq,List.contains_iff_mem] at h4
  exact ⟨e,he,h4.1,h4.2⟩
 ·have h3:=hall t h2
  have h5 : t < ops.size:=by simpa using h3.1.1
  have h6 : t ∉ done:=by simpa using h3.1.2
  simp [lsd,Array.getD,h5,h6]
 ·have hkf : l.getD k false = false:=by
   have h3:=hS.2
   rcases Nat.lt_or_ge k l.size with h' | h'
   ·simp [Array.getD,h'] at h3 ⊢;exact h3
   ·simp [Array.getD,Nat.not_lt.2 h'] at h3
  rw [hr l a w hkf hS.1]
  exact ⟨rfl,hS⟩
end
end Go.Proofs.YtklmhkglcfjclaaGreat
namespace Go.Proofs.YtklmhkglcfjclaaGreat
open Go.RowKit Go.Proofs.YtklmhkglcfjclaaGreatW.PrintWords Go.Proofs.YtklmhkglcfjclaaGreatW.PrintLast Go.Proofs.YtklmhkglcfjclaaGreatW.PrintMore
def Cr (w : World) (g : Nat) (v : Value) (t : Nat) : Prop:=w.heap[g]? = some (.cells #[v] t (0,0))
theorem Cr.c0 {w : World} {g t : Nat} {v : Value} (h : Cr w g v t) : w.cell? ⟨g,0,none⟩ = some v:=by unfold Cr at h;simp [World.cell?,h]
theorem Cr.frz {w : World} {g t : Nat} {v : Value} (h : Cr w g v t) (k : Nat) : w.frozen? ⟨g,k,none⟩ = false:=by unfold Cr at h;simp [World.frozen?,h]
theorem Cr.lt {w : World} {g t : Nat} {v : Value} (h : Cr w g v t) : g < w.heap.size:=(Array.getElem?_eq_some_iff.1 h).1
theorem Cr.up {w w1 : World} {g t : Nat} {v : Value} (h : Cr w g v t) (hb : Below w.heap.size w w1) : Cr w1 g v t:=(hb.block g h.lt).trans h
theorem Cr.mk1 (w : World) (v : Value) (t : Nat) : Cr (w.alloc (.cells #[v] t)) w.heap.size v t:=by
 show (w.heap.push _)[w.heap.size]? = _
 simp
theorem DI {P : Program} {ops : Array Oper} {l : List Oper} {Q : Exit → Act → World → Prop} {a : Act} {w : World} {t : Nat} (v : Value) (h : ∀ w1,Below w.heap.size w w1 → w1.heap.size = w.heap.size + 1 → Cr w1 w.heap.size v t → wpList P ops Q l a w1) : wpList P ops Q l a (w.alloc (.cells #[v] t)):=h _ ((Below.refl _ _).alloc (Nat.le_refl _) _) (BK _ _) (Cr.mk1 _ _ _)
def Ys (i : Nat) (p : World → Prop) (l : Array Bool) (_a : Act) (w : World) : Prop:=l.getD i false = true → p w
theorem Aw {j i : Nat} {d : Option Nat} {p : World → Prop} (h : (j == i) = false) : Keeps (Ys i p) j d:=fun l a v w => by
 have h : j ≠ i:=by simpa using h
 rw [Ys,Ys,getD_set_ne false h]
theorem GX {n i : Nat} {p : World → Prop} {a : Act} {w : World} : Ys i p (lsd n []) a w:=fun h => by
 rw [Kq] at h
 simp [Array.getD] at h
theorem FV {w : World} {g gm b : Nat} {q : Eng} {ud um ul : Value} {ok : Nat → Prop} {n cap : Nat} {ps : List Page} (h : Aj w g q ud um ul) (hp : CS w b ok (.slice (some ⟨gm,0,none⟩) n cap) ps) : g ≠ gm:=fun e => by
 obtain ⟨cells,hc⟩:=Kd.Fg hp gm (by simp [Value.ownBlock])
 have h1 : w.heap[g]? = _:=h
 rw [e,hc] at h1
 injection h1 with h1
 injection h1 with _ h2
 exact absurd h2 (by decide)
theorem AX.Q5 {w w1 : World} {base N : Nat} {vd vl u : Value} {e : Eng} {q : Page} {p g n cap : Nat} {okd okm : Nat → Prop} (hap : ∀ k,okd k → okm k → False) (hd : CS w base (fun k => okd k ∧ k < N) vd e.disk) (hl : OwnRs w base vl e.log) (hu : AU w N u q.vals)
  (hm : CS w1 base (fun k => okm k ∨ some k = u.ownBlock) (.slice (some ⟨g,0,none⟩) n cap) (e.mem.set p q)) (hmg : okm g) (hg : w.grownBy w1 (some g)) (hty : ∃ cells,w.heap[g]? = some (.cells cells 47 (0,0))) : AX w1 base vd (.slice (some ⟨g,0,none⟩) n cap) vl { e with mem:=e.mem.set p q }:=by
 refine ⟨⟨fun k => okd k ∧ k < N,fun k => okm k ∨ some k = u.ownBlock,fun k h1 h2 => ?_,Kd.U5 hd hg (fun k hk e2 => ?_),hm⟩,?_⟩
 ·rcases h2 with h2 | h2
  ·exact hap k h1.1 h2
  ·have:=Cm hu k h2.symm;omega
 ·injection e2 with e2
  subst e2
  exact hap k hk.1 hmg
 ·refine Kd.EB (Kd.Qt (e':=47) (v:=.slice (some ⟨g,0,none⟩) n cap) hl (fun k hk => ?_) (fun q hq => ?_) hg) (fun _ _ => trivial)
  ·simp only [Value.ownBlock,Option.some.injEq] at hk
   subst hk
   exact hty
  ·have : q = 54:=by simpa [Ca,Kd.iso,Kd.pair,Kd.int,Kd.scalar] using hq
   rw [this];decide
theorem Ux {w : World} {b g : Nat} {v u : Value} {xs : List Int} {p : Page} (h : AU w b v xs) (hp : Ba w g p u) : ∀ k,v.ownBlock = some k → k ≠ g:=fun k hk e => by
 obtain ⟨cells,hc⟩:=Du h k hk
 have h1 : w.heap[g]? = _:=hp
 rw [← e,hc] at h1
 injection h1 with h1
 injection h1 with _ h2
 exact absurd h2 (by decide)
theorem AU.XG {w : World} {b g : Nat} {v : Value} {xs : List Int} (h : AU w b v xs) (hg : ∀ k,v.ownBlock = some k → k ≠ g) (p : Page) (u : Value) : AU (Go.Proofs.YtklmhkglcfjclaaGreat.CK w g p u) b v xs:=((h.far hg _ _).far hg _ _).far hg _ _
set_option maxRecDepth 100000 in
set_option maxHeartbeats 16000000 in
theorem Ke {w0 w : World} {g : Nat} {e : Eng} (r : Rec) (hl : e.log.length + 1 ≤ 150) (hgm : geo e.mem) (hp : 0 ≤ r.page ∧ r.page < 5) (hdo : FL (pg e.mem r.page.toNat) (Dz r (Ap e.log r.tx e.log.length)) (e.log.length + 1 : Nat) = true) (h : BU w0 w g e) : Calls Tryz.prog 98 #[ptr g,r.val] w (Im w0 g (e.app r)):=by
 obtain ⟨⟨vd,vm,vl,hq,ho⟩,hb,hg⟩:=h
 obtain ⟨p,hpp⟩ : ∃ p : Nat,r.page = (p : Int):=⟨r.page.toNat,by omega⟩
 obtain ⟨r1,hr1⟩ : ∃ r1,Dz r (Ap e.log r.tx e.log.length) = r1:=⟨_,rfl⟩
 rw [hr1,hpp,Int.toNat_natCast] at hdo
 have hp5 : p < 5:=by omega
 obtain ⟨q,hqq⟩ : ∃ q,doR (pg e.mem p) r1 (e.log.length + 1 : Nat) = q:=⟨_,rfl⟩
 obtain ⟨l1,hl1⟩ : ∃ l1,e.log ++ [r1] = l1:=⟨_,rfl⟩
 have hll : l1.length = e.log.length + 1:=by rw [← hl1];simp
 have hrc : rc l1 e.log.length = r1:=by rw [← hl1];simp [rc,List.getD_eq_getElem?_getD]
 have hchg : CP r.kind = true:=by
  simp only [FL,Bool.and_eq_true] at hdo
  have:=hdo.2.2.1
  rw [← hr1] at this
  exact this
 have hE : e.app r = { e with mem:=e.mem.set p q,log:=l1 }:=by
  unfold Eng.app
  rw [if_pos hchg,show r.page.toNat = p by omega, ← hqq, ← hl1, ← hr1]
  rfl
 have HE:=As hE
 have HDO:=As hdo
 have HL:=As hl
 have HG:=As hg
 have HGM:=As hgm
 have HQQ:=As hqq
 have HRC:=As hrc
 have HLL:=As hll
 have HL1:=As hl1
 have HR1:=As hr1
 have HPP:=As hpp
 obtain ⟨w1,hw1⟩ : ∃ w1,w.alloc r.box = w1:=⟨_,rfl⟩
 have hb1 : Below w.heap.size w w1:=by rw [← hw1];exact Ah (Below.refl _ _) _
 have HW1:=As hw1
 have HRB1 : Ac (Dl w1 w.heap.size r):=⟨by rw [← hw1];exact Dl.mk1 _ _⟩
 have HO1:=As (ho.below hb1)
 have HQ1:=As (hq.up hb1)
 have HB1:=As (bj hb hb1)
 have HGL:=As hq.lt
 have HVL:=As (fun k hk => Kd.UR ho.l k hk)
 have HBS:=As hb.size
 have r0:=HRB1.out.at.c0
 clear hdo hl hg hgm hqq hl1 hr1 hrc hll hchg hE hw1 hb1 hq ho hb hpp
 go_enter Tryz.func98,Tryz.ntmps98
 go_wp2_with (go_at_call 100;go_loud (rw [HW1.out]);go_loud (refine (KD r (by have:=HL.out;omega) HB1.out HG.out HQ1.out HO1.out).mono ?_);go_loud (rw [HR1.out]);go_loud (rw [HL1.out]);rintro x w2 ⟨vl2,rfl,hq2,ho2,hb2,hk2⟩;have HQ2:=As hq2;have HO2:=As ho2;have HB2:=As hb2;have HRB2 : Ac (Dl w2 w.heap.size r):=⟨(hk2.2 _ HRB1.out.lt (fun hx => hx.elim (fun hx => by have:=HGL.out;omega) (fun hx => by have:=HVL.out _ hx.symm;omega))).trans HRB1.out⟩;clear hq2 ho2 hb2 hk2)
 have hgm5:=HGM.out.1
 obtain ⟨Ad,cd,Am,cm,Al,cl,hvd,hvm,hvl, -,hrd⟩:=HO2.out.reads
 obtain ⟨okd,okm,hap,hpd,hpm⟩:=HO2.out.ex
 obtain ⟨gm,capm,hfm, -,hgml⟩:=Cy hpm (by show 0 < e.mem.length;omega)
 subst hvd hvl hfm
 have hpl : p < e.mem.length:=by omega
 have hp5i : (p : Int) < 5:=by omega
 have hl1l : e.log.length < l1.length:=by have:=HLL.out;omega
 obtain ⟨A2,c2,p0,p1,p2,pC, -⟩:=DV hpm p hpl
 obtain ⟨adl,hal,QR⟩:=Ci hrd.l e.log.length hl1l
 subst hal
 rw [HRC.out] at QR
 obtain ⟨l0,l1',l2,l3,l4,l5,l6,l7⟩:=QR
 have x1:=HQ2.out.c1
 have x2:=HQ2.out.c2
 have z2:=HRB2.out.at.c2
 simp only [Nat.zero_add] at z2
 rw [HPP.out] at z2
 have HPC:=As pC
 have HPD:=As hpd
 have HPM:=As hpm
 have HAP:=As hap
 have HRD:=As hrd.l
 have hl0:=HL.out
 have hwr0 : IntKind.i64.wrap (e.log.length : Int) = (e.log.length : Int):=by simp (disch:=omega) only [IntWalk.i64_in]
 have hwr1 : IntKind.i64.wrap ((e.log.length : Int) + 1 - 1) = (e.log.length : Int):=by rw [show ((e.log.length : Int) + 1 - 1) = (e.log.length : Int) by omega];exact hwr0
 have HGM2 : Ac (gm < w2.heap.size):=⟨hgml⟩
 clear hvm pC hpd hpm hap hrd hgml hp
 have HCR : Ac (∀ wx,Below w2.heap.size w2 wx → Calls Tryz.prog 153 #[(pg e.mem p).val A2 c2,r1.val, .int .i64 ((e.log.length : Int) + 1)] wx (WS wx q)):=⟨fun wx hb => by
  have:=RO (c:=c2) (n:=(e.log.length : Int) + 1) (by have:=HDO.out;simpa using this) hb HPC.out
  rwa [show doR (pg e.mem p) r1 ((e.log.length : Int) + 1) = q by have:=HQQ.out;simpa using this] at this⟩
 refine AY (fun lx a wx => Below w2.heap.size w2 wx ∧ (Sl 17 28 (fun v wx => ∃ u,v = .tuple #[q.own u, .bool true] ∧ AU wx w2.heap.size u q.vals) lx a wx ∧ (Pre 22 21 5 (fun _ => True) (fun v wx => ∃ B,v = ptr B ∧ w2.heap.size ≤ B ∧ Ba wx B zp (.slice none 0 0)) lx a wx ∧ Sl 22 5 (fun v wx => ∃ B u,v = ptr B ∧ w2.heap.size ≤ B ∧ Ba wx B q u ∧ AU wx w2.heap.size u q.vals) lx a wx))) 24 rfl (by kernel_rfl) (⟨Ak (Below.refl _ _),Bb,Fz trivial,Bb⟩) (fun HT => ?_)
 refine Ae (i:=0) (v:=?_) HT rfl (by kernel_rfl) rfl (kA Aa (kA (Ab rfl rfl) (kA (Aq rfl rfl rfl) (Ab rfl rfl)))) (by rfl) (fun _ _ _ h => h) (fun lx ax wx hS => ?_) ?_;rotate_left;(have hbx:=hS.1;clear hS;replace x1:=bc hbx x1;replace x2:=bc hbx x2;replace z2:=bc hbx z2;replace p0:=bc hbx p0;replace p1:=bc hbx p1;replace p2:=bc hbx p2;replace l0:=bc hbx l0;replace l1':=bc hbx l1';replace l2:=bc hbx l2;replace l3:=bc hbx l3;replace l4:=bc hbx l4;replace l5:=bc hbx l5;replace l6:=bc hbx l6;replace l7:=bc hbx l7;go_simp;with_reducible rfl);rotate_left;simp only [sc0,sc1]
 refine Ae (i:=1) (v:=?_) HT rfl (by kernel_rfl) rfl (kA Aa (kA (Ab rfl rfl) (kA (Aq rfl rfl rfl) (Ab rfl rfl)))) (by rfl) (fun _ _ _ h => h) (fun lx ax wx hS => ?_) ?_;rotate_left;(have hbx:=hS.1;clear hS;replace x1:=bc hbx x1;replace x2:=bc hbx x2;replace z2:=bc hbx z2;replace p0:=bc hbx p0;replace p1:=bc hbx p1;replace p2:=bc hbx p2;replace l0:=bc hbx l0;replace l1':=bc hbx l1';replace l2:=bc hbx l2;replace l3:=bc hbx l3;replace l4:=bc hbx l4;replace l5:=bc hbx l5;replace l6:=bc hbx l6;replace l7:=bc hbx l7;go_simp;with_reducible rfl);rotate_left;simp only [sc0,sc1]
 refine Ae (i:=2) (v:=?_) HT rfl (by kernel_rfl) rfl (kA Aa (kA (Ab rfl rfl) (kA (Aq rfl rfl rfl) (Ab rfl rfl)))) (by rfl) (fun _ _ _ h => h) (fun lx ax wx hS => ?_) ?_;rotate_left;(have hbx:=hS.1;clear hS;replace x1:=bc hbx x1;replace x2:=bc hbx x2;replace z2:=bc hbx z2;replace p0:=bc hbx p0;replace p1:=bc hbx p1;replace p2:=bc hbx p2;replace l0:=bc hbx l0;replace l1':=bc hbx l1';replace l2:=bc hbx l2;replace l3:=bc hbx l3;replace l4:=bc hbx l4;replace l5:=bc hbx l5;replace l6:=bc hbx l6;replace l7:=bc hbx l7;go_simp;with_reducible rfl);rotate_left;simp only [sc0,sc1]
 refine Ae (i:=3) (v:=?_) HT rfl (by kernel_rfl) rfl (kA Aa (kA (Ab rfl rfl) (kA (Aq rfl rfl rfl) (Ab rfl rfl)))) (by rfl) (fun _ _ _ h => h) (fun lx ax wx hS => ?_) ?_;rotate_left;(have hbx:=hS.1;clear hS;replace x1:=bc hbx x1;replace x2:=bc hbx x2;replace z2:=bc hbx z2;replace p0:=bc hbx p0;replace p1:=bc hbx p1;replace p2:=bc hbx p2;replace l0:=bc hbx l0;replace l1':=bc hbx l1';replace l2:=bc hbx l2;replace l3:=bc hbx l3;replace l4:=bc hbx l4;replace l5:=bc hbx l5;replace l6:=bc hbx l6;replace l7:=bc hbx l7;go_simp;with_reducible rfl);rotate_left;simp only [sc0,sc1]
 refine Ae (i:=4) (v:=?_) HT rfl (by kernel_rfl) rfl (kA Aa (kA (Ab rfl rfl) (kA (Aq rfl rfl rfl) (Ab rfl rfl)))) (by rfl) (fun _ _ _ h => h) (fun lx ax wx hS => ?_) ?_;rotate_left;(have hbx:=hS.1;clear hS;replace x1:=bc hbx x1;replace x2:=bc hbx x2;replace z2:=bc hbx z2;replace p0:=bc hbx p0;replace p1:=bc hbx p1;replace p2:=bc hbx p2;replace l0:=bc hbx l0;replace l1':=bc hbx l1';replace l2:=bc hbx l2;replace l3:=bc hbx l3;replace l4:=bc hbx l4;replace l5:=bc hbx l5;replace l6:=bc hbx l6;replace l7:=bc hbx l7;go_simp;with_reducible rfl);rotate_left;simp only [sc0,sc1]
 refine Ae (i:=5) (v:=?_) HT rfl (by kernel_rfl) rfl (kA Aa (kA (Ab rfl rfl) (kA (Aq rfl rfl rfl) (Ab rfl rfl)))) (by rfl) (fun _ _ _ h => h) (fun lx ax wx hS => ?_) ?_;rotate_left;(have hbx:=hS.1;clear hS;replace x1:=bc hbx x1;replace x2:=bc hbx x2;replace z2:=bc hbx z2;replace p0:=bc hbx p0;replace p1:=bc hbx p1;replace p2:=bc hbx p2;replace l0:=bc hbx l0;replace l1':=bc hbx l1';replace l2:=bc hbx l2;replace l3:=bc hbx l3;replace l4:=bc hbx l4;replace l5:=bc hbx l5;replace l6:=bc hbx l6;replace l7:=bc hbx l7;go_simp;with_reducible rfl);rotate_left;simp only [sc0,sc1]
 refine Ae (i:=6) (v:=?_) HT rfl (by kernel_rfl) rfl (kA Aa (kA (Ab rfl rfl) (kA (Aq rfl rfl rfl) (Ab rfl rfl)))) (by rfl) (fun _ _ _ h => h) (fun lx ax wx hS => ?_) ?_;rotate_left;(have hbx:=hS.1;clear hS;replace x1:=bc hbx x1;replace x2:=bc hbx x2;replace z2:=bc hbx z2;replace p0:=bc hbx p0;replace p1:=bc hbx p1;replace p2:=bc hbx p2;replace l0:=bc hbx l0;replace l1':=bc hbx l1';replace l2:=bc hbx l2;replace l3:=bc hbx l3;replace l4:=bc hbx l4;replace l5:=bc hbx l5;replace l6:=bc hbx l6;replace l7:=bc hbx l7;go_simp;with_reducible rfl);rotate_left;simp only [sc0,sc1]
 refine Ae (i:=7) (v:=?_) HT rfl (by kernel_rfl) rfl (kA Aa (kA (Ab rfl rfl) (kA (Aq rfl rfl rfl) (Ab rfl rfl)))) (by rfl) (fun _ _ _ h => h) (fun lx ax wx hS => ?_) ?_;rotate_left;(have hbx:=hS.1;clear hS;replace x1:=bc hbx x1;replace x2:=bc hbx x2;replace z2:=bc hbx z2;replace p0:=bc hbx p0;replace p1:=bc hbx p1;replace p2:=bc hbx p2;replace l0:=bc hbx l0;replace l1':=bc hbx l1';replace l2:=bc hbx l2;replace l3:=bc hbx l3;replace l4:=bc hbx l4;replace l5:=bc hbx l5;replace l6:=bc hbx l6;replace l7:=bc hbx l7;go_simp;with_reducible rfl);rotate_left;simp only [sc0,sc1]
 refine Ae (i:=8) (v:=?_) HT rfl (by kernel_rfl) rfl (kA Aa (kA (Ab rfl rfl) (kA (Aq rfl rfl rfl) (Ab rfl rfl)))) (by rfl) (fun _ _ _ h => h) (fun lx ax wx hS => ?_) ?_;rotate_left;(have hbx:=hS.1;clear hS;replace x1:=bc hbx x1;replace x2:=bc hbx x2;replace z2:=bc hbx z2;replace p0:=bc hbx p0;replace p1:=bc hbx p1;replace p2:=bc hbx p2;replace l0:=bc hbx l0;replace l1':=bc hbx l1';replace l2:=bc hbx l2;replace l3:=bc hbx l3;replace l4:=bc hbx l4;replace l5:=bc hbx l5;replace l6:=bc hbx l6;replace l7:=bc hbx l7;go_simp;with_reducible rfl);rotate_left;simp only [sc0,sc1]
 refine Ae (i:=9) (v:=?_) HT rfl (by kernel_rfl) rfl (kA Aa (kA (Ab rfl rfl) (kA (Aq rfl rfl rfl) (Ab rfl rfl)))) (by rfl) (fun _ _ _ h => h) (fun lx ax wx hS => ?_) ?_;rotate_left;(have hbx:=hS.1;clear hS;replace x1:=bc hbx x1;replace x2:=bc hbx x2;replace z2:=bc hbx z2;replace p0:=bc hbx p0;replace p1:=bc hbx p1;replace p2:=bc hbx p2;replace l0:=bc hbx l0;replace l1':=bc hbx l1';replace l2:=bc hbx l2;replace l3:=bc hbx l3;replace l4:=bc hbx l4;replace l5:=bc hbx l5;replace l6:=bc hbx l6;replace l7:=bc hbx l7;go_simp;with_reducible rfl);rotate_left;simp only [sc0,sc1]
 refine Ae (i:=10) (v:=?_) HT rfl (by kernel_rfl) rfl (kA Aa (kA (Ab rfl rfl) (kA (Aq rfl rfl rfl) (Ab rfl rfl)))) (by rfl) (fun _ _ _ h => h) (fun lx ax wx hS => ?_) ?_;rotate_left;(have hbx:=hS.1;clear hS;replace x1:=bc hbx x1;replace x2:=bc hbx x2;replace z2:=bc hbx z2;replace p0:=bc hbx p0;replace p1:=bc hbx p1;replace p2:=bc hbx p2;replace l0:=bc hbx l0;replace l1':=bc hbx l1';replace l2:=bc hbx l2;replace l3:=bc hbx l3;replace l4:=bc hbx l4;replace l5:=bc hbx l5;replace l6:=bc hbx l6;replace l7:=bc hbx l7;go_simp;with_reducible rfl);rotate_left;simp only [sc0,sc1]
 refine Ae (i:=11) (v:=?_) HT rfl (by kernel_rfl) rfl (kA Aa (kA (Ab rfl rfl) (kA (Aq rfl rfl rfl) (Ab rfl rfl)))) (by rfl) (fun _ _ _ h => h) (fun lx ax wx hS => ?_) ?_;rotate_left;(have hbx:=hS.1;clear hS;replace x1:=bc hbx x1;replace x2:=bc hbx x2;replace z2:=bc hbx z2;replace p0:=bc hbx p0;replace p1:=bc hbx p1;replace p2:=bc hbx p2;replace l0:=bc hbx l0;replace l1':=bc hbx l1';replace l2:=bc hbx l2;replace l3:=bc hbx l3;replace l4:=bc hbx l4;replace l5:=bc hbx l5;replace l6:=bc hbx l6;replace l7:=bc hbx l7;go_simp;with_reducible rfl);rotate_left;simp only [sc0,sc1]
 refine Ae (i:=12) (v:=?_) HT rfl (by kernel_rfl) rfl (kA Aa (kA (Ab rfl rfl) (kA (Aq rfl rfl rfl) (Ab rfl rfl)))) (by rfl) (fun _ _ _ h => h) (fun lx ax wx hS => ?_) ?_;rotate_left;(have hbx:=hS.1;clear hS;replace x1:=bc hbx x1;replace x2:=bc hbx x2;replace z2:=bc hbx z2;replace p0:=bc hbx p0;replace p1:=bc hbx p1;replace p2:=bc hbx p2;replace l0:=bc hbx l0;replace l1':=bc hbx l1';replace l2:=bc hbx l2;replace l3:=bc hbx l3;replace l4:=bc hbx l4;replace l5:=bc hbx l5;replace l6:=bc hbx l6;replace l7:=bc hbx l7;go_simp;with_reducible rfl);rotate_left;simp only [sc0,sc1]
 refine Ae (i:=13) (v:=?_) HT rfl (by kernel_rfl) rfl (kA Aa (kA (Ab rfl rfl) (kA (Aq rfl rfl rfl) (Ab rfl rfl)))) (by rfl) (fun _ _ _ h => h) (fun lx ax wx hS => ?_) ?_;rotate_left;(have hbx:=hS.1;clear hS;replace x1:=bc hbx x1;replace x2:=bc hbx x2;replace z2:=bc hbx z2;replace p0:=bc hbx p0;replace p1:=bc hbx p1;replace p2:=bc hbx p2;replace l0:=bc hbx l0;replace l1':=bc hbx l1';replace l2:=bc hbx l2;replace l3:=bc hbx l3;replace l4:=bc hbx l4;replace l5:=bc hbx l5;replace l6:=bc hbx l6;replace l7:=bc hbx l7;go_simp;with_reducible rfl);rotate_left;simp only [sc0,sc1]
 refine Ae (i:=14) (v:=?_) HT rfl (by kernel_rfl) rfl (kA Aa (kA (Ab rfl rfl) (kA (Aq rfl rfl rfl) (Ab rfl rfl)))) (by rfl) (fun _ _ _ h => h) (fun lx ax wx hS => ?_) ?_;rotate_left;(have hbx:=hS.1;clear hS;replace x1:=bc hbx x1;replace x2:=bc hbx x2;replace z2:=bc hbx z2;replace p0:=bc hbx p0;replace p1:=bc hbx p1;replace p2:=bc hbx p2;replace l0:=bc hbx l0;replace l1':=bc hbx l1';replace l2:=bc hbx l2;replace l3:=bc hbx l3;replace l4:=bc hbx l4;replace l5:=bc hbx l5;replace l6:=bc hbx l6;replace l7:=bc hbx l7;go_simp;with_reducible rfl);rotate_left;simp only [sc0,sc1]
 refine Ae (i:=15) (v:=?_) HT rfl (by kernel_rfl) rfl (kA Aa (kA (Ab rfl rfl) (kA (Aq rfl rfl rfl) (Ab rfl rfl)))) (by rfl) (fun _ _ _ h => h) (fun lx ax wx hS => ?_) ?_;rotate_left;(have hbx:=hS.1;clear hS;replace x1:=bc hbx x1;replace x2:=bc hbx x2;replace z2:=bc hbx z2;replace p0:=bc hbx p0;replace p1:=bc hbx p1;replace p2:=bc hbx p2;replace l0:=bc hbx l0;replace l1':=bc hbx l1';replace l2:=bc hbx l2;replace l3:=bc hbx l3;replace l4:=bc hbx l4;replace l5:=bc hbx l5;replace l6:=bc hbx l6;replace l7:=bc hbx l7;go_simp;with_reducible rfl);rotate_left;simp only [sc0,sc1]
 refine Ae (i:=16) (v:=?_) HT rfl (by kernel_rfl) rfl (kA Aa (kA (Ab rfl rfl) (kA (Aq rfl rfl rfl) (Ab rfl rfl)))) (by rfl) (fun _ _ _ h => h) (fun lx ax wx hS => ?_) ?_;rotate_left;(have hbx:=hS.1;clear hS;replace x1:=bc hbx x1;replace x2:=bc hbx x2;replace z2:=bc hbx z2;replace p0:=bc hbx p0;replace p1:=bc hbx p1;replace p2:=bc hbx p2;replace l0:=bc hbx l0;replace l1':=bc hbx l1';replace l2:=bc hbx l2;replace l3:=bc hbx l3;replace l4:=bc hbx l4;replace l5:=bc hbx l5;replace l6:=bc hbx l6;replace l7:=bc hbx l7;go_simp;with_reducible rfl);rotate_left;simp only [sc0,sc1]
 apply reg_later2
 ·intro hrest
  refine AR [17,21] (by kernel_rfl) (fun i hi wx hS => ?_)
  rcases List.mem_cons.1 hi with rfl | hi
  ·clear hi
   refine D8 (f:=153) (args:=#[(pg e.mem p).val A2 c2,r1.val, .int .i64 ((e.log.length : Int) + 1)]) rfl rfl Tryz.func153 (by kernel_rfl) rfl rfl (by rfl) (by simp only [List.map_toArray,List.map_cons,List.map_nil];rfl) ((HCR.out wx hS.1).mono ?_)
   rintro x w6 ⟨u,rfl,ho,hb⟩
   refine ⟨_,rfl,⟨bj hS.1 hb,fun _ => ⟨u,rfl,ho.lower hS.1.size⟩,fun _ => ⟨trivial,fun h => (AA h (by kernel_rfl)).elim⟩,fun h => (AA h (by kernel_rfl)).elim⟩,?_⟩
   clear hS ho hb
   simp only [sc0,sc1]
   refine Ae (i:=18) (v:=?_) HT rfl (by kernel_rfl) rfl (kA Aa (kA (Ab rfl rfl) (kA (Aq rfl rfl rfl) (Ab rfl rfl)))) (by rfl) (fun _ _ _ h => h) (fun lx ax wx hS => ?_) ?_;rotate_left;(go_simp;with_reducible rfl);rotate_left;simp only [sc0,sc1]
   refine Ae (i:=19) (v:=?_) HT rfl (by kernel_rfl) rfl (kA Aa (kA (Ab rfl rfl) (kA (Aq rfl rfl rfl) (Ab rfl rfl)))) (by rfl) (fun _ _ _ h => h) (fun lx ax wx hS => ?_) ?_;rotate_left;(go_simp;with_reducible rfl);rotate_left;simp only [sc0,sc1]
   refine Ae (i:=20) (v:=?_) HT rfl (by kernel_rfl) rfl (kA Aa (kA (Ab rfl rfl) (kA (Aq rfl rfl rfl) (Ab rfl rfl)))) (by rfl) (fun _ _ _ h => h) (fun lx ax wx hS => ?_) ?_;rotate_left;(go_simp;with_reducible rfl);rotate_left;simp only [sc0,sc1]
   refine AR [21] (by kernel_rfl) (fun i hi wx hS => ?_)
   obtain rfl:=List.mem_singleton.1 hi
   clear hi
   refine BI (w1:=wx.alloc CO) (ptr wx.heap.size) rfl rfl (by rfl) (by go_simp) ?_
   refine ⟨⟨bj hS.1 (Ah (Below.refl _ _) _),fun _ => (hS.2.1 (by kernel_rfl)).elim fun u hu => ⟨u,hu.1,hu.2.below (Ah (Below.refl _ _) _)⟩,fun _ => ⟨trivial,fun _ => ⟨wx.heap.size,rfl,hS.1.size,Ba.mk1 wx zp _⟩⟩,fun h => (AA h (by kernel_rfl)).elim⟩,?_⟩
   obtain ⟨B,hB⟩ : ∃ B,wx.heap.size = B:=⟨_,rfl⟩
   rw [hB]
   clear hB hS
   simp only [sc0,sc1]
   exact F6 (done := [21,20,19,18,17,16,15,14,13,12,11,10,9,8,7,6,5,4,3,2,1,0]) (by kernel_rfl) (hrest u B)
  ·obtain rfl:=List.mem_singleton.1 hi
   clear hi
   refine BI (w1:=wx.alloc CO) (ptr wx.heap.size) rfl rfl (by rfl) (by go_simp) ?_
   refine ⟨⟨bj hS.1 (Ah (Below.refl _ _) _),fun h => (AA h (by kernel_rfl)).elim,fun _ => ⟨trivial,fun _ => ⟨wx.heap.size,rfl,hS.1.size,Ba.mk1 wx zp _⟩⟩,fun h => (AA h (by kernel_rfl)).elim⟩,?_⟩
   obtain ⟨B,hB⟩ : ∃ B,wx.heap.size = B:=⟨_,rfl⟩
   rw [hB]
   clear hB hS
   simp only [sc0,sc1]
   refine AR [17] (by kernel_rfl) (fun i hi wx hS => ?_)
   obtain rfl:=List.mem_singleton.1 hi
   clear hi
   refine D8 (f:=153) (args:=#[(pg e.mem p).val A2 c2,r1.val, .int .i64 ((e.log.length : Int) + 1)]) rfl rfl Tryz.func153 (by kernel_rfl) rfl rfl (by rfl) (by simp only [List.map_toArray,List.map_cons,List.map_nil];rfl) ((HCR.out wx hS.1).mono ?_)
   rintro x w6 ⟨u,rfl,ho,hb⟩
   refine ⟨_,rfl,⟨bj hS.1 hb,fun _ => ⟨u,rfl,ho.lower hS.1.size⟩,fun _ => ⟨trivial,fun _ => ((hS.2.2.1 (by kernel_rfl)).2 (by kernel_rfl)).elim fun B' hB' => ⟨B',hB'.1,hB'.2.1,hB'.2.2.up hb⟩⟩,fun h => (AA h (by kernel_rfl)).elim⟩,?_⟩
   clear hS ho hb
   simp only [sc0,sc1]
   refine Ae (i:=18) (v:=?_) HT rfl (by kernel_rfl) rfl (kA Aa (kA (Ab rfl rfl) (kA (Aq rfl rfl rfl) (Ab rfl rfl)))) (by rfl) (fun _ _ _ h => h) (fun lx ax wx hS => ?_) ?_;rotate_left;(go_simp;with_reducible rfl);rotate_left;simp only [sc0,sc1]
   refine Ae (i:=19) (v:=?_) HT rfl (by kernel_rfl) rfl (kA Aa (kA (Ab rfl rfl) (kA (Aq rfl rfl rfl) (Ab rfl rfl)))) (by rfl) (fun _ _ _ h => h) (fun lx ax wx hS => ?_) ?_;rotate_left;(go_simp;with_reducible rfl);rotate_left;simp only [sc0,sc1]
   refine Ae (i:=20) (v:=?_) HT rfl (by kernel_rfl) rfl (kA Aa (kA (Ab rfl rfl) (kA (Aq rfl rfl rfl) (Ab rfl rfl)))) (by rfl) (fun _ _ _ h => h) (fun lx ax wx hS => ?_) ?_;rotate_left;(go_simp;with_reducible rfl);rotate_left;simp only [sc0,sc1]
   exact F6 (done := [21,20,19,18,17,16,15,14,13,12,11,10,9,8,7,6,5,4,3,2,1,0]) (by kernel_rfl) (hrest u B)
 intro u B
 refine AR [22] (by kernel_rfl) (fun i hi wx hS => ?_)
 obtain rfl:=List.mem_singleton.1 hi
 clear hi
 obtain ⟨h1,h2,h3, -⟩:=hS
 obtain ⟨u1,hu1,hown⟩:=h2 (by kernel_rfl)
 have hu1 : Value.tuple #[q.own u, .bool true] = .tuple #[q.own u1, .bool true]:=hu1
 obtain rfl : u = u1:=by simpa using hu1
 obtain ⟨B',hB',hN,hP⟩:=(h3 (by kernel_rfl)).2 (by kernel_rfl)
 have hB' : ptr B = ptr B':=hB'
 obtain rfl : B = B':=by simpa using hB'
 obtain ⟨A1,c1,rfl, -, -⟩:=hown.reads
 have y0:=hP.c0
 have y1:=hP.c1
 have y2:=hP.c2
 have f0:=hP.frz 0
 have f1:=hP.frz 1
 have f2:=hP.frz 2
 refine Bv (w1:=Go.Proofs.YtklmhkglcfjclaaGreat.CK wx B q (.slice A1 q.vals.length c1)) rfl (by rfl) (by go_simp) ?_
 have hP5:=hP.CK q (.slice A1 q.vals.length c1)
 have ho5:=hown.XG (Ux hown hP) q (.slice A1 q.vals.length c1)
 have hb5 : Below w2.heap.size w2 (Go.Proofs.YtklmhkglcfjclaaGreat.CK wx B q (.slice A1 q.vals.length c1)):=CB h1 hN q (.slice A1 q.vals.length c1)
 refine ⟨⟨hb5,fun _ => ⟨_,rfl,ho5⟩,fun h => (AA (by kernel_rfl) h).elim,fun _ => ⟨B,_,rfl,hN,hP5,ho5⟩⟩,?_⟩
 clear h1 h2 h3 hu1 hown hB' hN hP f0 f1 f2 hP5 ho5 hb5 y0 y1 y2
 refine Ae (i:=23) (v:=?_) HT rfl (by kernel_rfl) rfl (kA Aa (kA (Ab rfl rfl) (kA (Aq rfl rfl rfl) (Ab rfl rfl)))) (by rfl) (fun _ _ _ h => h) (fun lx ax wx hS => ?_) ?_
 rotate_left
 ·go_simp
  with_reducible rfl
 rotate_left
 simp only [sc0,sc1]
 refine DL (by kernel_rfl) (fun w5 hS => ?_)
 obtain ⟨hb5, -, -,h4⟩:=hS
 obtain ⟨B',u',hB',hN,hP5,ho5⟩:=h4 (by kernel_rfl)
 have hB' : ptr B = ptr B':=hB'
 obtain rfl : B = B':=by simpa using hB'
 have HB5:=As hb5
 obtain ⟨A5,c5,rfl, -, -⟩:=ho5.reads
 have HO5:=As ho5
 have y0:=hP5.c0
 have y1:=hP5.c1
 have y2:=hP5.c2
 replace x1:=bc hb5 x1
 replace z2:=bc hb5 z2
 clear hB' hN hP5 ho5 hb5 h4 x2 p0 p1 p2 l0 l1' l2 l3 l4 l5 l6 l7
 go_wp2
 refine AY (fun lx a wx => Below w5.heap.size w5 wx) 8 rfl (by kernel_rfl) (Ak (Below.refl _ _)) (fun HT => ?_)
 refine Ae (i:=0) (v:=?_) HT rfl (by kernel_rfl) rfl (Aa) (by rfl) (fun _ _ _ h => h) (fun lx ax wx hS => ?_) ?_;rotate_left;(replace x1:=bc hS x1;replace z2:=bc hS z2;replace y0:=bc hS y0;replace y1:=bc hS y1;replace y2:=bc hS y2;go_simp;with_reducible rfl);rotate_left;simp only [sc0,sc1]
 refine Ae (i:=1) (v:=?_) HT rfl (by kernel_rfl) rfl (Aa) (by rfl) (fun _ _ _ h => h) (fun lx ax wx hS => ?_) ?_;rotate_left;(replace x1:=bc hS x1;replace z2:=bc hS z2;replace y0:=bc hS y0;replace y1:=bc hS y1;replace y2:=bc hS y2;go_simp;with_reducible rfl);rotate_left;simp only [sc0,sc1]
 refine Ae (i:=2) (v:=?_) HT rfl (by kernel_rfl) rfl (Aa) (by rfl) (fun _ _ _ h => h) (fun lx ax wx hS => ?_) ?_;rotate_left;(replace x1:=bc hS x1;replace z2:=bc hS z2;replace y0:=bc hS y0;replace y1:=bc hS y1;replace y2:=bc hS y2;go_simp;with_reducible rfl);rotate_left;simp only [sc0,sc1]
 refine Ae (i:=3) (v:=?_) HT rfl (by kernel_rfl) rfl (Aa) (by rfl) (fun _ _ _ h => h) (fun lx ax wx hS => ?_) ?_;rotate_left;(replace x1:=bc hS x1;replace z2:=bc hS z2;replace y0:=bc hS y0;replace y1:=bc hS y1;replace y2:=bc hS y2;go_simp;with_reducible rfl);rotate_left;simp only [sc0,sc1]
 refine Ae (i:=4) (v:=?_) HT rfl (by kernel_rfl) rfl (Aa) (by rfl) (fun _ _ _ h => h) (fun lx ax wx hS => ?_) ?_;rotate_left;(replace x1:=bc hS x1;replace z2:=bc hS z2;replace y0:=bc hS y0;replace y1:=bc hS y1;replace y2:=bc hS y2;go_simp;with_reducible rfl);rotate_left;simp only [sc0,sc1]
 refine Ae (i:=5) (v:=?_) HT rfl (by kernel_rfl) rfl (Aa) (by rfl) (fun _ _ _ h => h) (fun lx ax wx hS => ?_) ?_;rotate_left;(replace x1:=bc hS x1;replace z2:=bc hS z2;replace y0:=bc hS y0;replace y1:=bc hS y1;replace y2:=bc hS y2;go_simp;with_reducible rfl);rotate_left;simp only [sc0,sc1]
 refine Ae (i:=6) (v:=?_) HT rfl (by kernel_rfl) rfl (Aa) (by rfl) (fun _ _ _ h => h) (fun lx ax wx hS => ?_) ?_;rotate_left;(replace x1:=bc hS x1;replace z2:=bc hS z2;replace y0:=bc hS y0;replace y1:=bc hS y1;replace y2:=bc hS y2;go_simp;with_reducible rfl);rotate_left;simp only [sc0,sc1]
 refine Ae (i:=7) (v:=?_) HT rfl (by kernel_rfl) rfl (Aa) (by rfl) (fun _ _ _ h => h) (fun lx ax wx hS => ?_) ?_;rotate_left;(replace x1:=bc hS x1;replace z2:=bc hS z2;replace y0:=bc hS y0;replace y1:=bc hS y1;replace y2:=bc hS y2;go_simp;with_reducible rfl);rotate_left;simp only [sc0,sc1]
 refine Cb (i:=8) (by kernel_rfl) rfl (fun wx hS => ?_)
 have h5x:=bj HB5.out hS
 refine EI (ok:=okm) (w0:=w0) (N:=w2.heap.size) (q:=q) p rfl (.tmp 39) (.tmp 38) rfl (by rfl) rfl rfl rfl (HO5.out.below hS) HB2.out.size (Kd.EG HPM.out h5x) hpl (bj HB2.out h5x) (fun w8 hO8 hB8 hg8 => ?_)
 refine BP (by kernel_rfl) ?_
 have hd8:=Kd.EG HPD.out h5x
 have hty:=Kd.Fg (Kd.BH HPM.out h5x) gm (by simp [Value.ownBlock])
 have he8:=AX.Q5 (e:={ e with log:=l1 }) HAP.out hd8 (Kd.Cu HO2.out.l h5x) (HO5.out.below hS) hO8 (LK HPM.out gm (by simp [Value.ownBlock])) hg8 hty
 have hq8 : Aj w8 g { e with mem:=e.mem.set p q,log:=l1 } (.slice Ad e.disk.length cd) (.slice (some ⟨gm,0,none⟩) e.mem.length capm) (.slice (some adl) l1.length cl):=(hg8.block g (by have:=HQ2.out.lt;have:=h5x.size;omega) (fun e2 => by injection e2 with e2;exact FV HQ2.out HPM.out e2)).trans (HQ2.out.up h5x)
 have HX8:=As (And.intro hB8 (And.intro he8 hq8))
 clear hS h5x hO8 hB8 hg8 hd8 hty he8 hq8 x1 z2 y0 y1 y2
 go_wp2
 exact bodyPost_ret (v:=.tuple #[]) (by simp [results,Tryz.results98,go_sem]) rfl ⟨⟨_,rfl⟩,by rw [HE.out];exact ⟨⟨_,_,_,HX8.out.2.2,HX8.out.2.1⟩,HX8.out.1,HG.out⟩⟩
section
variable {ops : Array Oper} {rest : List Oper} {o : Oper} {a : Act} {Q : Exit → Act → World → Prop}
end
def NC (w : World) (b : Nat) (vd vm : Value) (ps qs : List Page) : Prop := ∃ okd okm : Nat → Prop,(∀ k,okd k → okm k → False) ∧ CS w b okd vd ps ∧ CS w b okm vm qs
theorem Gq {w : World} {b g : Nat} {ok : Nat → Prop} {v ud um ul : Value} {ps : List Page} {q : Eng} (h : CS w b ok v ps) (hq : Aj w g q ud um ul) (j : Nat) (u : Value) : CS (w.setCell ⟨g,j,none⟩ u) b ok v ps:=
 Kd.RH h hq (fun q hq => by rcases LM q hq with rfl | rfl <;> decide) j u
theorem NC.set {w : World} {b g : Nat} {vd vm ud um ul : Value} {ps qs : List Page} {q : Eng} (h : NC w b vd vm ps qs) (hq : Aj w g q ud um ul) (j : Nat) (u : Value) : NC (w.setCell ⟨g,j,none⟩ u) b vd vm ps qs:=by
 obtain ⟨okd,okm,h1,h2,h3⟩:=h
 exact ⟨okd,okm,h1,Gq h2 hq j u,Gq h3 hq j u⟩
theorem NC.below {w w1 : World} {b : Nat} {vd vm : Value} {ps qs : List Page} (h : NC w b vd vm ps qs) (hb : Below w.heap.size w w1) : NC w1 b vd vm ps qs:=by
 obtain ⟨okd,okm,h1,h2,h3⟩:=h
 exact ⟨okd,okm,h1,Kd.BH h2 hb,Kd.BH h3 hb⟩
theorem NC.mk2 {w5 w6 : World} {b : Nat} {vd vm : Value} {ps qs : List Page} (hd : EP w5 b vd ps) (hm : EP w6 w5.heap.size vm qs) (hb : Below w5.heap.size w5 w6) (hle : b ≤ w5.heap.size) : NC w6 b vd vm ps qs:=
 ⟨fun k => True ∧ k < w5.heap.size,fun k => w5.heap.size ≤ k,fun k h1 h2 => by omega,Kd.EG hd hb,Kd.Ej (Kd.Dx (Kd.DU hm) (fun k hk => hk.2.1)) hle⟩
theorem AX.FJ {w : World} {b g : Nat} {vd vm vl ud um ul : Value} {e q : Eng} (h : AX w b vd vm vl e) (hq : Aj w g q ud um ul) (j : Nat) (u : Value) : AX (w.setCell ⟨g,j,none⟩ u) b vd vm vl e:=h.set hq (by decide) (by decide) (by decide) j u
theorem Es.far {w : World} {g : Nat} {e : Eng} {vd vm vl : Value} (h : Es w g e vd vm vl) {b : Nat} (hne : b ≠ g) (j : Nat) (u : Value) : Es (w.setCell ⟨b,j,none⟩ u) g e vd vm vl:=(Below.heap_setCell w ⟨b,j,none⟩ u g (Ne.symm hne)).trans h
end Go.Proofs.YtklmhkglcfjclaaGreat
namespace Go.Proofs.YtklmhkglcfjclaaGreat
open Go.RowKit Go.Proofs.YtklmhkglcfjclaaGreatW.PrintWords Go.Proofs.YtklmhkglcfjclaaGreatW.PrintLast Go.Proofs.YtklmhkglcfjclaaGreatW.PrintMore
theorem AX.TT {w w1 : World} {base N : Nat} {vm vl u : Value} {e : Eng} {q : Page} {p g n cap : Nat} {okd okm : Nat → Prop} (hap : ∀ k,okd k → okm k → False) (hm : CS w base (fun k => okm k ∧ k < N) vm e.mem) (hl : OwnRs w base vl e.log) (hu : AU w N u q.vals)
  (hd : CS w1 base (fun k => okd k ∨ some k = u.ownBlock) (.slice (some ⟨g,0,none⟩) n cap) (e.disk.set p q)) (hdg : okd g) (hg : w.grownBy w1 (some g)) (hty : ∃ cells,w.heap[g]? = some (.cells cells 47 (0,0))) : AX w1 base (.slice (some ⟨g,0,none⟩) n cap) vm vl { e with disk:=e.disk.set p q }:=by
 refine ⟨⟨fun k => okd k ∨ some k = u.ownBlock,fun k => okm k ∧ k < N,fun k h1 h2 => ?_,hd,Kd.U5 hm hg (fun k hk e2 => ?_)⟩,?_⟩
 ·rcases h1 with h1 | h1
  ·exact hap k h1 h2.1
  ·have:=Cm hu k h1.symm;omega
 ·injection e2 with e2
  subst e2
  exact hap k hdg hk.1
 ·refine Kd.EB (Kd.Qt (e':=47) (v:=.slice (some ⟨g,0,none⟩) n cap) hl (fun k hk => ?_) (fun q hq => ?_) hg) (fun _ _ => trivial)
  ·simp only [Value.ownBlock,Option.some.injEq] at hk
   subst hk
   exact hty
  ·have : q = 54:=by simpa [Ca,Kd.iso,Kd.pair,Kd.int,Kd.scalar] using hq
   rw [this];decide
def XU (w0 w : World) (g : Nat) (vd vm vl : Value) (e : Eng) (x : Ending) (w' : World) : Prop:=(∃ v,x = .returned v) ∧ Aj w' g e vd vm vl ∧ AX w' w0.heap.size vd vm vl e ∧ Below w0.heap.size w0 w' ∧ Kept w w' (fun k => k = g ∨ some k = vd.ownBlock)
set_option maxRecDepth 100000 in
set_option maxHeartbeats 16000000 in
theorem N8 {w0 w : World} {g : Nat} {vd vm vl : Value} {e : Eng} {p : Nat} (hp : p < 5) (hgd : geo e.disk) (hgm : geo e.mem) (hb : Below w0.heap.size w0 w) (hg : w0.heap.size ≤ g) (hq : Aj w g e vd vm vl) (ho : AX w w0.heap.size vd vm vl e) : Calls Tryz.prog 174 #[ptr g, .int .i64 (p : Int)] w (XU w0 w g vd vm vl (CF e p)):=by
 have hgd5:=hgd.1
 have hgm5:=hgm.1
 obtain ⟨okd,okm, -, -,hpm⟩:=ho.ex
 obtain ⟨gm,capm,rfl, -, -⟩:=Cy hpm (by omega)
 have hpl : p < e.mem.length:=by omega
 obtain ⟨A2,c2,p0,p1,p2,pC, -⟩:=DV hpm p hpl
 have hp5i : (p : Int) < 5:=by omega
 have x1:=hq.c1
 have x3:=hq.c3
 have f3:=hq.frz 3
 have HQ:=As hq
 have HO:=As ho
 have HB:=As hb
 have HG:=As hg
 have HGD:=As hgd5
 have HGM:=As hgm
 clear hpm hq ho hb hg hgd p1 p2 pC
 go_enter Tryz.func174,Tryz.ntmps174
 go_wp2
 refine AY (fun lx a wx => Un 16 (fun wx => Below w.heap.size w wx) lx a wx ∧ Ys 16 (fun wx => ∃ wy,Below w.heap.size w wy ∧ wx = wy.setCell ⟨g,3,none⟩ (.int .i64 (max e.safe (pg e.mem p).lsn))) lx a wx) 17 rfl (by kernel_rfl) (⟨fun _ => Ak (Below.refl _ _),GX⟩) (fun HT => ?_)
 refine Au (i:=0) (v:=?_) 16 HT rfl (by kernel_rfl) (by kernel_rfl) rfl (kA (Af rfl) (Aw rfl)) (by rfl) (fun _ _ _ h => h) (fun lx ax wx hK hS => ?_) ?_;rotate_left;(have hbx:=hS.1 hK;clear hS;replace x1:=bc hbx x1;replace x3:=bc hbx x3;replace p0:=bc hbx p0;go_simp;with_reducible rfl);rotate_left;simp only [sc0,sc1]
 refine Au (i:=1) (v:=?_) 16 HT rfl (by kernel_rfl) (by kernel_rfl) rfl (kA (Af rfl) (Aw rfl)) (by rfl) (fun _ _ _ h => h) (fun lx ax wx hK hS => ?_) ?_;rotate_left;(have hbx:=hS.1 hK;clear hS;replace x1:=bc hbx x1;replace x3:=bc hbx x3;replace p0:=bc hbx p0;go_simp;with_reducible rfl);rotate_left;simp only [sc0,sc1]
 refine Au (i:=2) (v:=?_) 16 HT rfl (by kernel_rfl) (by kernel_rfl) rfl (kA (Af rfl) (Aw rfl)) (by rfl) (fun _ _ _ h => h) (fun lx ax wx hK hS => ?_) ?_;rotate_left;(have hbx:=hS.1 hK;clear hS;replace x1:=bc hbx x1;replace x3:=bc hbx x3;replace p0:=bc hbx p0;go_simp;with_reducible rfl);rotate_left;simp only [sc0,sc1]
 refine Au (i:=3) (v:=?_) 16 HT rfl (by kernel_rfl) (by kernel_rfl) rfl (kA (Af rfl) (Aw rfl)) (by rfl) (fun _ _ _ h => h) (fun lx ax wx hK hS => ?_) ?_;rotate_left;(have hbx:=hS.1 hK;clear hS;replace x1:=bc hbx x1;replace x3:=bc hbx x3;replace p0:=bc hbx p0;go_simp;with_reducible rfl);rotate_left;simp only [sc0,sc1]
 refine Au (i:=4) (v:=?_) 16 HT rfl (by kernel_rfl) (by kernel_rfl) rfl (kA (Af rfl) (Aw rfl)) (by rfl) (fun _ _ _ h => h) (fun lx ax wx hK hS => ?_) ?_;rotate_left;(have hbx:=hS.1 hK;clear hS;replace x1:=bc hbx x1;replace x3:=bc hbx x3;replace p0:=bc hbx p0;go_simp;with_reducible rfl);rotate_left;simp only [sc0,sc1]
 refine Au (i:=5) (v:=?_) 16 HT rfl (by kernel_rfl) (by kernel_rfl) rfl (kA (Af rfl) (Aw rfl)) (by rfl) (fun _ _ _ h => h) (fun lx ax wx hK hS => ?_) ?_;rotate_left;(have hbx:=hS.1 hK;clear hS;replace x1:=bc hbx x1;replace x3:=bc hbx x3;replace p0:=bc hbx p0;go_simp;with_reducible rfl);rotate_left;simp only [sc0,sc1]
 refine Au (i:=6) (v:=?_) 16 HT rfl (by kernel_rfl) (by kernel_rfl) rfl (kA (Af rfl) (Aw rfl)) (by rfl) (fun _ _ _ h => h) (fun lx ax wx hK hS => ?_) ?_;rotate_left;(have hbx:=hS.1 hK;clear hS;replace x1:=bc hbx x1;replace x3:=bc hbx x3;replace p0:=bc hbx p0;go_simp;with_reducible rfl);rotate_left;simp only [sc0,sc1]
 refine Au (i:=7) (v:=?_) 16 HT rfl (by kernel_rfl) (by kernel_rfl) rfl (kA (Af rfl) (Aw rfl)) (by rfl) (fun _ _ _ h => h) (fun lx ax wx hK hS => ?_) ?_;rotate_left;(have hbx:=hS.1 hK;clear hS;replace x1:=bc hbx x1;replace x3:=bc hbx x3;replace p0:=bc hbx p0;go_simp;with_reducible rfl);rotate_left;simp only [sc0,sc1]
 refine Au (i:=8) (v:=?_) 16 HT rfl (by kernel_rfl) (by kernel_rfl) rfl (kA (Af rfl) (Aw rfl)) (by rfl) (fun _ _ _ h => h) (fun lx ax wx hK hS => ?_) ?_;rotate_left;(have hbx:=hS.1 hK;clear hS;replace x1:=bc hbx x1;replace x3:=bc hbx x3;replace p0:=bc hbx p0;go_simp;with_reducible rfl);rotate_left;simp only [sc0,sc1]
 refine Au (i:=9) (v:=?_) 16 HT rfl (by kernel_rfl) (by kernel_rfl) rfl (kA (Af rfl) (Aw rfl)) (by rfl) (fun _ _ _ h => h) (fun lx ax wx hK hS => ?_) ?_;rotate_left;(have hbx:=hS.1 hK;clear hS;replace x1:=bc hbx x1;replace x3:=bc hbx x3;replace p0:=bc hbx p0;go_simp;with_reducible rfl);rotate_left;simp only [sc0,sc1]
 refine Au (i:=10) (v:=?_) 16 HT rfl (by kernel_rfl) (by kernel_rfl) rfl (kA (Af rfl) (Aw rfl)) (by rfl) (fun _ _ _ h => h) (fun lx ax wx hK hS => ?_) ?_;rotate_left;(have hbx:=hS.1 hK;clear hS;replace x1:=bc hbx x1;replace x3:=bc hbx x3;replace p0:=bc hbx p0;go_simp;with_reducible rfl);rotate_left;simp only [sc0,sc1]
 refine Au (i:=11) (v:=?_) 16 HT rfl (by kernel_rfl) (by kernel_rfl) rfl (kA (Af rfl) (Aw rfl)) (by rfl) (fun _ _ _ h => h) (fun lx ax wx hK hS => ?_) ?_;rotate_left;(have hbx:=hS.1 hK;clear hS;replace x1:=bc hbx x1;replace x3:=bc hbx x3;replace p0:=bc hbx p0;go_simp;with_reducible rfl);rotate_left;simp only [sc0,sc1]
 refine Au (i:=12) (v:=?_) 16 HT rfl (by kernel_rfl) (by kernel_rfl) rfl (kA (Af rfl) (Aw rfl)) (by rfl) (fun _ _ _ h => h) (fun lx ax wx hK hS => ?_) ?_;rotate_left;(have hbx:=hS.1 hK;clear hS;replace x1:=bc hbx x1;replace x3:=bc hbx x3;replace p0:=bc hbx p0;go_simp;with_reducible rfl);rotate_left;simp only [sc0,sc1]
 refine Au (i:=13) (v:=?_) 16 HT rfl (by kernel_rfl) (by kernel_rfl) rfl (kA (Af rfl) (Aw rfl)) (by rfl) (fun _ _ _ h => h) (fun lx ax wx hK hS => ?_) ?_;rotate_left;(have hbx:=hS.1 hK;clear hS;replace x1:=bc hbx x1;replace x3:=bc hbx x3;replace p0:=bc hbx p0;go_simp;with_reducible rfl);rotate_left;simp only [sc0,sc1]
 refine Au (i:=14) (v:=?_) 16 HT rfl (by kernel_rfl) (by kernel_rfl) rfl (kA (Af rfl) (Aw rfl)) (by rfl) (fun _ _ _ h => h) (fun lx ax wx hK hS => ?_) ?_;rotate_left;(have hbx:=hS.1 hK;clear hS;replace x1:=bc hbx x1;replace x3:=bc hbx x3;replace p0:=bc hbx p0;go_simp;with_reducible rfl);rotate_left;simp only [sc0,sc1]
 refine Au (i:=15) (v:=?_) 16 HT rfl (by kernel_rfl) (by kernel_rfl) rfl (kA (Af rfl) (Aw rfl)) (by rfl) (fun _ _ _ h => h) (fun lx ax wx hK hS => ?_) ?_;rotate_left;(have hbx:=hS.1 hK;clear hS;replace x1:=bc hbx x1;replace x3:=bc hbx x3;replace p0:=bc hbx p0;go_simp;with_reducible rfl);rotate_left;simp only [sc0,sc1]
 refine AR [16] (by kernel_rfl) (fun i hi wx hS => ?_)
 obtain rfl:=List.mem_singleton.1 hi
 clear hi
 have hbx:=hS.1 (by kernel_rfl)
 have q3:=bc hbx x3
 have f3':=(HQ.out.up hbx).frz 3
 refine Bv (w1:=wx.setCell ⟨g,3,none⟩ (.int .i64 (max e.safe (pg e.mem p).lsn))) rfl (by rfl) (by go_simp) ?_
 refine ⟨⟨fun h => (AA (by kernel_rfl) h).elim,fun _ => ⟨wx,hbx,rfl⟩⟩,?_⟩
 clear hS hbx q3 f3'
 refine DL (by kernel_rfl) (fun w3 hS => ?_)
 obtain ⟨wy,hbx,rfl⟩:=hS.2 (by kernel_rfl)
 obtain ⟨E,hE⟩ : ∃ E : Eng,{ e with safe:=max e.safe (pg e.mem p).lsn } = E:=⟨_,rfl⟩
 obtain ⟨w3,hw3⟩ : ∃ w3,wy.setCell ⟨g,3,none⟩ (.int .i64 (max e.safe (pg e.mem p).lsn)) = w3:=⟨_,rfl⟩
 have HQ3 : Ac (Aj w3 g E vd (.slice (some ⟨gm,0,none⟩) e.mem.length capm) vl):=⟨by rw [← hw3, ← hE];exact (HQ.out.up hbx).CK _⟩
 have ho3 : AX w3 w0.heap.size vd (.slice (some ⟨gm,0,none⟩) e.mem.length capm) vl e:=by rw [← hw3];exact (HO.out.below hbx).FJ (HQ.out.up hbx) 3 _
 have HO3 : Ac (AX w3 w0.heap.size vd (.slice (some ⟨gm,0,none⟩) e.mem.length capm) vl E):=⟨by rw [← hE];exact ⟨ho3.ex,ho3.l⟩⟩
 have HB3 : Ac (Below w0.heap.size w0 w3):=⟨by rw [← hw3];exact (bj HB.out hbx).setCell (p:=⟨g,3,none⟩) HG.out _⟩
 have HK3 : Ac (Kept w w3 (fun k => k = g ∨ some k = vd.ownBlock)):=⟨by rw [← hw3];exact (Kept.of_below hbx _).setCell (p:=⟨g,3,none⟩) (.inl (.inl rfl)) _⟩
 have HED : Ac (E.disk.length = 5):=⟨by rw [← hE];exact hgd5⟩
 have HEM : Ac (geo E.mem):=⟨by rw [← hE];exact HGM.out⟩
 have HEL : Ac (CF e p = { E with disk:=E.disk.set p (pg E.mem p) }):=⟨by rw [← hE];rfl⟩
 have hlm : e.mem.length = E.mem.length:=by rw [← hE]
 have HLM:=As hlm
 rw [hw3]
 rw [hlm] at HQ3 HO3
 clear hS hbx x1 x3 f3 p0 ho3 hw3 hE HQ HO HB HGD HGM hgd5 hgm5 hgm hpl hlm
 obtain ⟨okd,okm,hap,hpd,hpm⟩:=HO3.out.ex
 have hpl : p < E.mem.length:=by rw [HEM.out.1];exact hp
 have hpd5 : p < E.disk.length:=by rw [HED.out];exact hp
 obtain ⟨gd,capd,rfl, -,hgdl⟩:=Cy hpd (by omega)
 obtain ⟨A2,c2,p0,p1,p2,pC, -⟩:=DV hpm p hpl
 have x0:=HQ3.out.c0
 have x1:=HQ3.out.c1
 have hm5 : E.mem.length = 5:=HEM.out.1
 have hd5 : E.disk.length = 5:=HED.out
 have HPM:=As hpm
 have HPD:=As hpd
 have HAP:=As hap
 have HC:=As pC
 have HGL:=As hgdl
 have HV3:=As (show (pg E.mem p).vals.length ≤ 17592186044416 by rw [Gv HEM.out hp];omega)
 obtain ⟨q,hqq⟩ : ∃ q,pg E.mem p = q:=⟨_,rfl⟩
 rw [hqq] at p0 p1 p2 HC HV3
 have HEL2 : Ac (CF e p = { E with disk:=E.disk.set p q }):=⟨by rw [HEL.out,hqq]⟩
 clear hap hpd hpm pC hgdl hqq HEL
 go_wp2
 refine AY (fun lx a wx => Below w3.heap.size w3 wx ∧ Sl 12 32 (fun v wx => ∃ u,v = q.own u ∧ AU wx w3.heap.size u q.vals) lx a wx) 14 rfl (by kernel_rfl) (⟨Ak (Below.refl _ _),Bb⟩) (fun HT => ?_)
 refine Ae (i:=0) (v:=?_) HT rfl (by kernel_rfl) rfl (kA Aa (Ab rfl rfl)) (by rfl) (fun _ _ _ h => h) (fun lx ax wx hS => ?_) ?_;rotate_left;(have hbx:=hS.1;clear hS;replace x0:=bc hbx x0;replace x1:=bc hbx x1;replace p0:=bc hbx p0;replace p1:=bc hbx p1;replace p2:=bc hbx p2;go_simp;with_reducible rfl);rotate_left;simp only [sc0,sc1]
 refine Ae (i:=1) (v:=?_) HT rfl (by kernel_rfl) rfl (kA Aa (Ab rfl rfl)) (by rfl) (fun _ _ _ h => h) (fun lx ax wx hS => ?_) ?_;rotate_left;(have hbx:=hS.1;clear hS;replace x0:=bc hbx x0;replace x1:=bc hbx x1;replace p0:=bc hbx p0;replace p1:=bc hbx p1;replace p2:=bc hbx p2;go_simp;with_reducible rfl);rotate_left;simp only [sc0,sc1]
 refine Ae (i:=2) (v:=?_) HT rfl (by kernel_rfl) rfl (kA Aa (Ab rfl rfl)) (by rfl) (fun _ _ _ h => h) (fun lx ax wx hS => ?_) ?_;rotate_left;(have hbx:=hS.1;clear hS;replace x0:=bc hbx x0;replace x1:=bc hbx x1;replace p0:=bc hbx p0;replace p1:=bc hbx p1;replace p2:=bc hbx p2;go_simp;with_reducible rfl);rotate_left;simp only [sc0,sc1]
 refine Ae (i:=3) (v:=?_) HT rfl (by kernel_rfl) rfl (kA Aa (Ab rfl rfl)) (by rfl) (fun _ _ _ h => h) (fun lx ax wx hS => ?_) ?_;rotate_left;(have hbx:=hS.1;clear hS;replace x0:=bc hbx x0;replace x1:=bc hbx x1;replace p0:=bc hbx p0;replace p1:=bc hbx p1;replace p2:=bc hbx p2;go_simp;with_reducible rfl);rotate_left;simp only [sc0,sc1]
 refine Ae (i:=4) (v:=?_) HT rfl (by kernel_rfl) rfl (kA Aa (Ab rfl rfl)) (by rfl) (fun _ _ _ h => h) (fun lx ax wx hS => ?_) ?_;rotate_left;(have hbx:=hS.1;clear hS;replace x0:=bc hbx x0;replace x1:=bc hbx x1;replace p0:=bc hbx p0;replace p1:=bc hbx p1;replace p2:=bc hbx p2;go_simp;with_reducible rfl);rotate_left;simp only [sc0,sc1]
 refine Ae (i:=5) (v:=?_) HT rfl (by kernel_rfl) rfl (kA Aa (Ab rfl rfl)) (by rfl) (fun _ _ _ h => h) (fun lx ax wx hS => ?_) ?_;rotate_left;(have hbx:=hS.1;clear hS;replace x0:=bc hbx x0;replace x1:=bc hbx x1;replace p0:=bc hbx p0;replace p1:=bc hbx p1;replace p2:=bc hbx p2;go_simp;with_reducible rfl);rotate_left;simp only [sc0,sc1]
 refine Ae (i:=6) (v:=?_) HT rfl (by kernel_rfl) rfl (kA Aa (Ab rfl rfl)) (by rfl) (fun _ _ _ h => h) (fun lx ax wx hS => ?_) ?_;rotate_left;(have hbx:=hS.1;clear hS;replace x0:=bc hbx x0;replace x1:=bc hbx x1;replace p0:=bc hbx p0;replace p1:=bc hbx p1;replace p2:=bc hbx p2;go_simp;with_reducible rfl);rotate_left;simp only [sc0,sc1]
 refine Ae (i:=7) (v:=?_) HT rfl (by kernel_rfl) rfl (kA Aa (Ab rfl rfl)) (by rfl) (fun _ _ _ h => h) (fun lx ax wx hS => ?_) ?_;rotate_left;(have hbx:=hS.1;clear hS;replace x0:=bc hbx x0;replace x1:=bc hbx x1;replace p0:=bc hbx p0;replace p1:=bc hbx p1;replace p2:=bc hbx p2;go_simp;with_reducible rfl);rotate_left;simp only [sc0,sc1]
 refine Ae (i:=8) (v:=?_) HT rfl (by kernel_rfl) rfl (kA Aa (Ab rfl rfl)) (by rfl) (fun _ _ _ h => h) (fun lx ax wx hS => ?_) ?_;rotate_left;(have hbx:=hS.1;clear hS;replace x0:=bc hbx x0;replace x1:=bc hbx x1;replace p0:=bc hbx p0;replace p1:=bc hbx p1;replace p2:=bc hbx p2;go_simp;with_reducible rfl);rotate_left;simp only [sc0,sc1]
 refine Ae (i:=9) (v:=?_) HT rfl (by kernel_rfl) rfl (kA Aa (Ab rfl rfl)) (by rfl) (fun _ _ _ h => h) (fun lx ax wx hS => ?_) ?_;rotate_left;(have hbx:=hS.1;clear hS;replace x0:=bc hbx x0;replace x1:=bc hbx x1;replace p0:=bc hbx p0;replace p1:=bc hbx p1;replace p2:=bc hbx p2;go_simp;with_reducible rfl);rotate_left;simp only [sc0,sc1]
 refine Ae (i:=10) (v:=?_) HT rfl (by kernel_rfl) rfl (kA Aa (Ab rfl rfl)) (by rfl) (fun _ _ _ h => h) (fun lx ax wx hS => ?_) ?_;rotate_left;(have hbx:=hS.1;clear hS;replace x0:=bc hbx x0;replace x1:=bc hbx x1;replace p0:=bc hbx p0;replace p1:=bc hbx p1;replace p2:=bc hbx p2;go_simp;with_reducible rfl);rotate_left;simp only [sc0,sc1]
 refine Ae (i:=11) (v:=?_) HT rfl (by kernel_rfl) rfl (kA Aa (Ab rfl rfl)) (by rfl) (fun _ _ _ h => h) (fun lx ax wx hS => ?_) ?_;rotate_left;(have hbx:=hS.1;clear hS;replace x0:=bc hbx x0;replace x1:=bc hbx x1;replace p0:=bc hbx p0;replace p1:=bc hbx p1;replace p2:=bc hbx p2;go_simp;with_reducible rfl);rotate_left;simp only [sc0,sc1]
 refine BL (i:=12) (f:=101) (args:=#[q.val A2 c2]) (fun v => ∃ u,v = q.own u) rfl (by kernel_rfl) rfl Tryz.func101 (by kernel_rfl) rfl rfl (by rfl) (by simp only [List.map_toArray,List.map_cons,List.map_nil];rfl) (fun wx hS => (FX HV3.out hS.1 HC.out).mono (by rintro x w6 ⟨u,rfl,ho,hb⟩;exact ⟨_,rfl,⟨u,rfl⟩,bj hS.1 hb,fun _ => ⟨u,rfl,ho.lower hS.1.size⟩⟩)) (fun vx hg => ?_);simp only [sc0,sc1]
 obtain ⟨u,rfl⟩:=hg
 refine Ae (i:=13) (v:=?_) HT rfl (by kernel_rfl) rfl (kA Aa (Ab rfl rfl)) (by rfl) (fun _ _ _ h => h) (fun lx ax wx hS => ?_) ?_;rotate_left;(go_simp;with_reducible rfl);rotate_left;simp only [sc0,sc1]
 refine Cb (i:=14) (by kernel_rfl) rfl (fun wx hS => ?_)
 obtain ⟨h5x,h2⟩:=hS
 obtain ⟨u1,hu1,hown⟩:=h2 (by kernel_rfl)
 have hu1 : q.own u = q.own u1:=hu1
 obtain rfl : u = u1:=by simpa using hu1
 refine EI (ok:=okd) (w0:=w0) (N:=w3.heap.size) (q:=q) p rfl (.tmp 33) (.tmp 32) rfl (by rfl) rfl rfl rfl hown HB3.out.size (Kd.EG HPD.out h5x) hpd5 (bj HB3.out h5x) (fun w8 hO8 hB8 hg8 => ?_)
 refine BP (by kernel_rfl) ?_
 have hm8:=Kd.EG HPM.out h5x
 have hty:=Kd.Fg (Kd.BH HPD.out h5x) gd (by simp [Value.ownBlock])
 have he8:=AX.TT (e:=E) HAP.out hm8 (Kd.Cu HO3.out.l h5x) hown hO8 (LK HPD.out gd (by simp [Value.ownBlock])) hg8 hty
 have hq8 : Aj w8 g { E with disk:=E.disk.set p q } (.slice (some ⟨gd,0,none⟩) E.disk.length capd) (.slice (some ⟨gm,0,none⟩) E.mem.length capm) vl:=(hg8.block g (by have:=HQ3.out.lt;have:=h5x.size;omega) (fun e2 => by injection e2 with e2;exact FV HQ3.out HPD.out e2)).trans (HQ3.out.up h5x)
 have hk8:=Kept.Ho hg8 (HK3.out.below h5x) (fun k hk => .inl (.inr (by rw [← hk];rfl)))
 have HX8:=As (And.intro hB8 (And.intro he8 (And.intro hq8 hk8)))
 clear h5x h2 hu1 hown hO8 hB8 hg8 hm8 hty he8 hq8 hk8 x0 x1 p0 p1 p2
 go_wp2
 have h1:=HX8.out.2.2.1
 have h2:=HX8.out.2.1
 have h4:=HX8.out.2.2.2
 rw [HED.out, ← HLM.out] at h1 h2
 exact bodyPost_ret (v:=.tuple #[]) (by simp [results,Tryz.results174,go_sem]) rfl ⟨⟨_,rfl⟩,by rw [HEL2.out];exact ⟨h1,h2,HX8.out.1,h4⟩⟩
theorem UK {r : Rec} (h : D6 r = true) (hc : CP r.kind = true) : 0 ≤ r.page ∧ r.page < 5:=by
 have:=Hz h hc
 omega
set_option maxRecDepth 100000 in
set_option maxHeartbeats 16000000 in
theorem O3 {w0 w : World} {g : Nat} {e : Eng} {tx : Int} (hs : Jt e tx) (h : BU w0 w g e) : Calls Tryz.prog 46 #[ptr g, .int .i64 tx] w (Im w0 g (BA e tx)):=by
 obtain ⟨⟨vd,vm,vl,hq,ho⟩,hb,hg⟩:=h
 obtain ⟨Ad,cd,Am,cm,Al,cl,rfl,rfl,rfl, -,hrd⟩:=ho.reads
 have hlg:=Bg hs.log
 have hl1:=hs.Ws
 obtain ⟨ln,hln⟩ : ∃ ln : Nat,Ap e.log tx e.log.length = ln:=⟨_,rfl⟩
 have hlnl : ln ≤ e.log.length:=by rw [← hln];exact Bf _ _ _
 obtain ⟨k,hk⟩ : ∃ k : Nat,BG e.log ln = k:=⟨_,rfl⟩
 have hkl : k ≤ e.log.length:=by rw [← hk];exact Nat.le_trans GZ hlnl
 have HS:=As hs
 have HQ:=As hq
 have HO:=As ho
 have HB:=As hb
 have HG:=As hg
 have HC:=As hrd
 have HLN:=As hln
 have HLL:=As hlnl
 have HK:=As hk
 have HNX : Ac (DN e tx = if k = 0 then ⟨5,tx,0,0,0,0,0,0⟩ else BD (rc e.log (k - 1)) 0):=⟨by unfold DN;rw [show lastT e tx = ln from hln,hk]⟩
 have x2:=hq.c2
 clear hs hq ho hb hg hrd hln hlnl hk hlg
 have hcu : ∀ wx,Below w.heap.size w wx → Calls Tryz.prog 97 #[.slice Al e.log.length cl, .int .i64 ln] wx fun x w' => x = .returned (.int .i64 k) ∧ Below w.heap.size w w':=fun wx hb => by
  have:=J8 (c:=cl) HLL.out hb HC.out.l HS.out.log
  rw [HK.out] at this
  exact this
 have HCU:=As hcu
 clear hcu
 go_enter Tryz.func46,Tryz.ntmps46
 go_wp2
 refine Bo (fun w' => Below w.heap.size w w') rfl rfl (by kernel_rfl) (Ak (Below.refl _ _)) (fun HT => ?_)
 repeat (first
  | (refine BZ (fun wx hS => ?_))
  | ((with_reducible refine Bw (f:=96) rfl ?_);refine Bz (v:=.int .i64 ln) (args:=#[.slice Al e.log.length cl, .int .i64 tx]) HT rfl Tryz.func96 (by kernel_rfl) rfl rfl (by rfl) (fun _ _ _ h => h) (by simp only [List.map_toArray,List.map_cons,List.map_nil];rfl) (fun wx hS => (GK (c:=cl) HLN.out hS HC.out.l).mono fun _ _ h => ⟨h.1,bj hS h.2⟩) ?_;simp only [sc0,sc1])
  | ((with_reducible refine Bw (f:=97) rfl ?_);refine Bz (v:=.int .i64 k) (args:=#[.slice Al e.log.length cl, .int .i64 ln]) HT rfl Tryz.func97 (by kernel_rfl) rfl rfl (by rfl) (fun _ _ _ h => h) (by simp only [List.map_toArray,List.map_cons,List.map_nil];rfl) (fun wx hS => HCU.out wx hS) ?_;simp only [sc0,sc1])
  | (refine BJ HT rfl (by rfl) (fun _ _ _ h => h) ?_;simp only [sc0,sc1])
  | (refine BX (v:=?_) HT rfl (by rfl) (fun _ _ _ h => h) (fun wx hS => ?_) ?_;rotate_left;(have x2:=bc hS x2;go_simp;with_reducible rfl);rotate_left;simp only [sc0,sc1]))
 have HX:=As hS
 have hq3:=HQ.out.up hS
 have x2:=hq3.c2
 clear hS hq3
 rcases k with _ | k
 ·have hE : BA e tx = { e with log:=e.log ++ [Dz ⟨5,tx,0,0,0,0,0,0⟩ (Ap e.log tx e.log.length)] }:=by
   unfold BA
   rw [HNX.out,if_pos rfl]
   unfold Eng.app
   rw [if_neg (by simp [CP])]
   rfl
  have HE:=As hE
  clear hE
  go_wp2_with (go_at_call 100;refine (KD ⟨5,tx,0,0,0,0,0,0⟩ (by omega) (bj HB.out HX.out) HG.out (HQ.out.up HX.out) (HO.out.below HX.out)).mono ?_;rintro x w4 ⟨vl2,rfl,hq4,ho4,hb4, -⟩;have HX4:=As (And.intro hq4 (And.intro ho4 hb4));clear hq4 ho4 hb4)
  exact bodyPost_ret (v:=.tuple #[]) (by simp [results,Tryz.results46,go_sem]) rfl ⟨⟨_,rfl⟩,by rw [HE.out];exact ⟨⟨_,_,_,HX4.out.1,HX4.out.2.1⟩,HX4.out.2.2,HG.out⟩⟩
 ·have hkk : k < e.log.length:=by omega
  obtain ⟨ad,rfl,QR⟩:=Ci (HC.out.l) k hkk
  obtain ⟨z0,z1,z2,z3,z4,z5,z6,z7⟩:=QR.up HX.out
  obtain ⟨rb,hrb⟩ : ∃ rb,BD (rc e.log k) 0 = rb:=⟨_,rfl⟩
  have hnx : DN e tx = rb:=by rw [HNX.out,if_neg (by omega),Nat.add_sub_cancel,hrb]
  have hkd : CP rb.kind = true:=by rw [← hrb];rfl
  have hst : CX e tx = Dz rb (Ap e.log rb.tx e.log.length):=by unfold CX;rw [hnx];rfl
  have hmay:=HS.out.may (by rw [hst];exact hkd)
  rw [hst] at hmay
  have hpr : 0 ≤ rb.page ∧ rb.page < 5:=by
   have h1:=hmay
   simp only [FL,Bool.and_eq_true] at h1
   exact UK (r:=Dz rb (Ap e.log rb.tx e.log.length)) h1.2.1 hkd
  have hE : BA e tx = e.app rb:=by unfold BA;rw [hnx]
  have HE:=As hE
  have HRB:=As hrb
  have HMAY:=As hmay
  have HPR:=As hpr
  have hwr0 : IntKind.i64.wrap (k : Int) = (k : Int):=by simp (disch:=omega) only [IntWalk.i64_in]
  have hwr1 : IntKind.i64.wrap ((k : Int) + 1 - 1) = (k : Int):=by rw [show ((k : Int) + 1 - 1) = (k : Int) by omega];exact hwr0
  have hwr2 : IntKind.i64.wrap (((k + 1 : Nat) : Int) - 1) = (k : Int):=by rw [show (((k + 1 : Nat) : Int) - 1) = (k : Int) by omega];exact hwr0
  have hEg:=As (BU.up ⟨⟨_,_,_,HQ.out,HO.out⟩,HB.out,HG.out⟩ HX.out)
  clear hE hrb hmay hpr QR hnx hkd hst
  go_wp2_with (first
   | (go_at_call 99;refine (OA (rc e.log k) 0 _).mono ?_;rw [HRB.out];rintro x w4 ⟨rfl,hb4⟩;have HG4:=As (hEg.out.up hb4);clear hb4)
   | (go_at_call 98;refine (Ke rb (by omega) HS.out.geo HPR.out HMAY.out HG4.out).mono ?_;rintro x w5 ⟨⟨v,rfl⟩,hg5⟩;have HG5:=As hg5;clear hg5))
  exact bodyPost_ret (v:=.tuple #[]) (by simp [results,Tryz.results46,go_sem]) rfl ⟨⟨_,rfl⟩,by rw [HE.out];exact HG5.out⟩
theorem O7 {w : World} {b g : Nat} {v ud um ul : Value} {l : List Rec} {q : Eng} (h : OwnRs w b v l) (hq : Aj w g q ud um ul) (j : Nat) (u : Value) : OwnRs (w.setCell ⟨g,j,none⟩ u) b v l:=
 Kd.WW h hq (fun q hq => by have : q = 54:=(by simpa [Ca,Kd.iso,Kd.pair,Kd.int,Kd.scalar] using hq);rw [this];decide) j u
theorem AX.Vj {w4 w5 : World} {b b2 : Nat} {okd : Nat → Prop} {vd vm vl : Value} {ps qs : List Page} {l : List Rec} {s : Int} {d : Bool} (hd : CS w4 b okd vd ps) (hm : EP w5 w4.heap.size vm qs) (hb : Below w4.heap.size w4 w5) (hl : OwnRs w4 b2 vl l) (hle : b ≤ w4.heap.size) (hb2 : b ≤ b2) : AX w5 b vd vm vl ⟨ps,qs,l,s,d⟩:=
 ⟨⟨fun k => okd k ∧ k < w4.heap.size,fun k => w4.heap.size ≤ k,fun k h1 h2 => by omega,Kd.EG hd hb,Kd.Ej (Kd.Dx (Kd.DU hm) (fun k hk => hk.2.1)) hle⟩,Kd.GU (Kd.Cu hl hb) hb2⟩
section
variable {w w1 : World} {b g n cap : Nat} {ok : Nat → Prop} {ps : List Page}
theorem XJ (h : CS w b ok (.slice (some ⟨g,0,none⟩) n cap) ps) {i : Nat} (hi : i < n) :
  ∃ (oki : Nat → Prop) (v : Value),(∀ k,oki k → ok k ∧ k ≠ g) ∧ ok g ∧ RI w b oki v (pg ps i).vals ∧ (w.cell? ⟨g,i * 3,none⟩ = some (.int .i64 (pg ps i).lsn) ∧ w.cell? ⟨g,i * 3 + 1,none⟩ = some (.int .i64 (pg ps i).owner) ∧ w.cell? ⟨g,i * 3 + 2,none⟩ = some v) ∧ (∀ j,w.frozen? ⟨g,i * 3 + j,none⟩ = false) ∧
   Kd.H Dc 47 w b ok (.slice (some ⟨g,0,none⟩) n cap) ps (i : Int) oki [.int .i64 (pg ps i).lsn, .int .i64 (pg ps i).owner,v]:=by
 obtain ⟨oki,c,hcl,hM,hcc,hfr,hok,hH⟩:=Kd.Xr h z0 (i : Int) (by omega) (by omega)
 rw [Int.toNat_natCast] at hM hcc hfr
 obtain ⟨v,rfl,hv⟩:=Ns hM
 have hg : ok g:=by
  obtain ⟨f,h0,_⟩:=h
  exact h0 g (by simp [Value.ownBlock])
 exact ⟨oki,v,hok,hg,hv,⟨hcc 0 _ rfl,hcc 1 _ rfl,hcc 2 _ rfl⟩,fun j => hfr j,hH⟩
theorem X9 (h : CS w b ok (.slice (some ⟨g,0,none⟩) n cap) ps) {i : Nat} (hi : i < n) (x : Int) : CS (w.setCell ⟨g,i * 3,none⟩ (.int .i64 x)) b ok (.slice (some ⟨g,0,none⟩) n cap) (ps.set i { pg ps i with lsn:=x }):=by
 obtain ⟨oki,v,hok,hg,hv, -, -,hH⟩:=XJ h hi
 have:=(Kd.Xo (seg := [.int .i64 x]) (j:=0) (x':={ pg ps i with lsn:=x }) (okp:=oki) hH (by omega) (by omega) (by show 0 + 1 ≤ 3;decide) (IW w b oki { pg ps i with lsn:=x } hv) (fun _ hk => hk)).1
 rw [Int.toNat_natCast] at this
 exact this
end
end Go.Proofs.YtklmhkglcfjclaaGreat
namespace Go.Proofs.YtklmhkglcfjclaaGreat
open Go.RowKit Go.Proofs.YtklmhkglcfjclaaGreatW.PrintWords Go.Proofs.YtklmhkglcfjclaaGreatW.PrintLast Go.Proofs.YtklmhkglcfjclaaGreatW.PrintMore
theorem Dn.d' {w : World} {e : Eng} {Ad Am Al : Option Addr} (h : Dn w e Ad Am Al) : Kd.C Dc w Ad e.disk.length e.disk:=h.d
theorem Eng.val_inj {e : Eng} {A B C A' B' C' : Option Addr} {a b c a' b' c' : Nat} (h : e.val A B C a b c = e.val A' B' C' a' b' c') : A = A' ∧ B = B' ∧ C = C' ∧ a = a' ∧ b = b' ∧ c = c':=by
 simp only [Eng.val,Eng.ag,Value.agg.injEq,Array.mk.injEq,List.cons.injEq,Value.slice.injEq,and_true,true_and] at h
 exact ⟨h.1.1,h.2.1.1,h.2.2.1,h.1.2,h.2.1.2,h.2.2.2⟩
structure G6 (w : World) (b : Nat) (ok : Nat → Prop) (vd vm vl : Value) (e : Eng) : Prop where
 ex : ∃ okd okm : Nat → Prop,(∀ k,okd k → okm k → False) ∧ (∀ k,okd k → ok k) ∧ (∀ k,okm k → ok k) ∧ CS w b okd vd e.disk ∧ CS w b okm vm e.mem
 l : OwnRs w b vl e.log
 lk : ∀ k,vl.ownBlock = some k → ok k
section
variable {w w1 : World} {b : Nat} {ok : Nat → Prop} {vd vm vl : Value} {e : Eng}
theorem G6.E (h : G6 w b ok vd vm vl e) : AX w b vd vm vl e:=by
 obtain ⟨okd,okm,h1, -, -,h4,h5⟩:=h.ex
 exact ⟨⟨okd,okm,h1,h4,h5⟩,h.l⟩
theorem AX.toK (h : AX w b vd vm vl e) : G6 w b (fun k => b ≤ k ∧ k < w.heap.size) vd vm vl e:=by
 obtain ⟨⟨okd,okm,h1,h2,h3⟩,h4⟩:=h
 exact ⟨⟨fun k => okd k ∧ (b ≤ k ∧ k < w.heap.size),fun k => okm k ∧ (b ≤ k ∧ k < w.heap.size),fun k ha hb => h1 k ha.1 hb.1,fun k hk => hk.2,fun k hk => hk.2,Kd.Dx (Kd.DU h2) (fun k hk => ⟨hk.1,hk.2.1,hk.2.2.1⟩),Kd.Dx (Kd.DU h3) (fun k hk => ⟨hk.1,hk.2.1,hk.2.2.1⟩)⟩,h4,fun k hk => ⟨Kd.Tj h4 k hk,Kd.UR h4 k hk⟩⟩
theorem G6.kept {S : Nat → Prop} (h : G6 w b ok vd vm vl e) (hk : Kept w w1 S) (hne : ∀ k,ok k → ¬ S k) : G6 w1 b ok vd vm vl e:=by
 obtain ⟨⟨okd,okm,h1,h2,h3,h4,h5⟩,hl,hlk⟩:=h
 exact ⟨⟨okd,okm,h1,h2,h3,Kd.Ju h4 hk (fun k hx => hne k (h2 k hx)),Kd.Ju h5 hk (fun k hx => hne k (h3 k hx))⟩,Kd.EB (Kd.Ls (Kd.NU rfl hl) hk (fun k hx => hne k (hlk k hx.symm))) (fun _ _ => trivial),hlk⟩
theorem G6.below (h : G6 w b ok vd vm vl e) (hb : Below w.heap.size w w1) : G6 w1 b ok vd vm vl e:=h.kept (S:=fun _ => False) (Kept.of_below hb _) (fun _ _ h => h)
theorem G6.lower {b' : Nat} (h : G6 w b ok vd vm vl e) (hb : b' ≤ b) : G6 w b' ok vd vm vl e:=by
 obtain ⟨⟨okd,okm,h1,h2,h3,h4,h5⟩,hl,hlk⟩:=h
 exact ⟨⟨okd,okm,h1,h2,h3,Kd.Ej h4 hb,Kd.Ej h5 hb⟩,Kd.GU hl hb,hlk⟩
theorem G6.mono {ok' : Nat → Prop} (h : G6 w b ok vd vm vl e) (hok : ∀ k,ok k → ok' k) : G6 w b ok' vd vm vl e:=by
 obtain ⟨⟨okd,okm,h1,h2,h3,h4,h5⟩,hl,hlk⟩:=h
 exact ⟨⟨okd,okm,h1,fun k hk => hok k (h2 k hk),fun k hk => hok k (h3 k hk),h4,h5⟩,hl,fun k hk => hok k (hlk k hk)⟩
theorem G6.C {A B C : Option Addr} {n m l a b' c : Nat} (h : G6 w b ok (.slice A n a) (.slice B m b') (.slice C l c) e) : Dn w e A B C:=by
 obtain ⟨A',a',B',b2,C',c',h1,h2,h3, -,hc⟩:=h.E.reads
 injection h1 with h1
 injection h2 with h2
 injection h3 with h3
 subst h1 h2 h3
 exact hc
theorem Dn.kept {Ad Am Al : Option Addr} {cd cm cl : Nat} {S : Nat → Prop} (h : G6 w b ok (.slice Ad e.disk.length cd) (.slice Am e.mem.length cm) (.slice Al e.log.length cl) e) (hk : Kept w w1 S) (hne : ∀ k,ok k → ¬ S k) : Dn w1 e Ad Am Al:=by
 obtain ⟨A,a,B,b',C,c,h1,h2,h3, -,hc⟩:=(h.kept hk hne).E.reads
 injection h1 with h1
 injection h2 with h2
 injection h3 with h3
 subst h1 h2 h3
 exact hc
end
end Go.Proofs.YtklmhkglcfjclaaGreat
namespace Go.Proofs.YtklmhkglcfjclaaGreat
open Go.RowKit Go.Proofs.YtklmhkglcfjclaaGreatW.PrintWords Go.Proofs.YtklmhkglcfjclaaGreatW.PrintLast Go.Proofs.YtklmhkglcfjclaaGreatW.PrintMore
theorem Jb {w w1 : World} {b : Nat} {vd vm vl v : Value} {e : Eng} {qs : List Page} (h : AX w b vd vm vl e) (hb : Below w.heap.size w w1) (hv : EP w1 w.heap.size v qs) (hle : b ≤ w.heap.size) : AX w1 b vd v vl { e with mem:=qs }:=by
 obtain ⟨⟨okd,okm, -,h2, -⟩,h4⟩:=h
 exact ⟨⟨fun k => okd k ∧ k < w.heap.size,fun k => w.heap.size ≤ k,fun k h1 h2 => by omega,Kd.EG h2 hb,Kd.Ej (Kd.Dx (Kd.DU hv) (fun k hk => hk.2.1)) hle⟩,Kd.Cu h4 hb⟩
theorem AX.reads' {w : World} {b : Nat} {A B C : Option Addr} {n m l a b' c : Nat} {e : Eng} (h : AX w b (.slice A n a) (.slice B m b') (.slice C l c) e) : Dn w e A B C:=by
 obtain ⟨A',a',B',b2,C',c',h1,h2,h3, -,hc⟩:=h.reads
 injection h1 with h1
 injection h2 with h2
 injection h3 with h3
 subst h1 h2 h3
 exact hc
theorem UB {x : Eng} (h : AO x = 0) : Cg x.log 3 = []:=by
 obtain ⟨h1,h2,h3⟩:=K9 h
 rw [Ig,if_pos h1,if_pos h2,if_pos h3]
 rfl
theorem Uz {x : Eng} (h : AO x ≠ 0) : ∃ l,Cg x.log 3 = AO x :: l:=by
 rw [Ig]
 by_cases h1 : lastT x 1 = 0
 ·by_cases h2 : lastT x 2 = 0
  ·by_cases h3 : lastT x 3 = 0
   ·exact absurd (show AO x = 0 by unfold AO;rw [if_neg (by simpa using h1),if_neg (by simpa using h2),if_neg (by simpa using h3)]) h
   ·have hf : AO x = 3:=by unfold AO;rw [if_neg (by simpa using h1),if_neg (by simpa using h2),if_pos h3]
    exact ⟨[],by rw [if_pos h1,if_pos h2,if_neg h3,hf];rfl⟩
  ·have hf : AO x = 2:=by unfold AO;rw [if_neg (by simpa using h1),if_pos h2]
   exact ⟨_,by rw [if_pos h1,if_neg h2,hf];rfl⟩
 ·have hf : AO x = 1:=by unfold AO;rw [if_pos h1]
  exact ⟨_,by rw [if_neg h1,hf];rfl⟩
theorem O8 {x : Eng} (h : AO x = 0) : ∀ k,Da k x = x
 | 0 => rfl
 | k + 1 => by rw [Da,if_pos h]
theorem JS : ∀ (k : Nat) (x : Eng),(Da k x).disk = x.disk ∧ (Da k x).safe = x.safe ∧ (Da k x).down = x.down
 | 0,x => ⟨rfl,rfl,rfl⟩
 | k + 1,x => by
  rw [Da]
  split
  ·exact ⟨rfl,rfl,rfl⟩
  ·exact JS k (BA x (AO x))
def Fj (e : Eng) : Eng:={ e with mem:=Cs e.disk e.log e.log.length }
def upE (x : Eng) : Eng:=if AO x = 0 then { x with down:=false } else { x with mem:=x.disk }
def upR (e : Eng) (steps : Int) : Eng × Bool:=if eOk e = true ∧ 0 ≤ steps then (if e.down = true then (upE (Da steps.toNat (Fj e)),decide (AO (Da steps.toNat (Fj e)) = 0)) else (e,false)) else (zE,false)
theorem QI (e : Eng) (n : Nat) : LH e n = upE (Da n (Fj e)):=rfl
theorem Fw.room' {x : Eng} (h : Fw x) : x.log.length + Bu x.log x.log.length ≤ 150:=Qo.room h
theorem Fw.all : ∀ (k : Nat) (x : Eng),Fw x → Fw (Da k x)
 | 0,x,h => h
 | k + 1,x,h => by
  rw [Da]
  split
  ·exact h
  ·rename_i h0
   exact Fw.all k _ (h.step h0).2.1
set_option maxRecDepth 100000 in
set_option maxHeartbeats 6000000 in
theorem Qs {w0 w : World} {e : Eng} {Ad Am Al : Option Addr} {cd cm cl : Nat} (steps : Int) (hcl : e.log.length ≤ cl) (hb : Below w0.heap.size w0 w) (hr : Dn w0 e Ad Am Al) : Calls Tryz.prog 15 #[e.val Ad Am Al cd cm cl, .int .i64 steps] w (D7 w (upR e steps).1 (upR e steps).2):=by
 have HR:=As (hr.up hb)
 clear hr hb
 obtain ⟨w1,hw1⟩ : ∃ w1,w.alloc (e.obox (.slice Ad e.disk.length cd) (.slice Am e.mem.length cm) (.slice Al e.log.length cl)) = w1:=⟨_,rfl⟩
 obtain ⟨w2,hw2⟩ : ∃ w2,w1.alloc (zE.obox (.slice none 0 0) (.slice none 0 0) (.slice none 0 0)) = w2:=⟨_,rfl⟩
 have hz1 : w1.heap.size = w.heap.size + 1:=by rw [← hw1];exact BK _ _
 have hz2 : w2.heap.size = w.heap.size + 2:=by rw [← hw2,BK,hz1]
 have hb12 : Below w1.heap.size w1 w2:=by rw [← hw2];exact Ah (Below.refl _ _) _
 have HB2 : Ac (Below w.heap.size w w2):=⟨by rw [← hw2, ← hw1];exact Ah (Ah (Below.refl _ _) _) _⟩
 have HQ2 : Ac (Aj w2 w.heap.size e (.slice Ad e.disk.length cd) (.slice Am e.mem.length cm) (.slice Al e.log.length cl)):=⟨Aj.up (by rw [← hw1];exact Aj.mk1 _ _ _ _ _) hb12⟩
 have HP2 : Ac (Aj w2 (w.heap.size + 1) zE (.slice none 0 0) (.slice none 0 0) (.slice none 0 0)):=⟨by rw [← hw2, ← hz1];exact Aj.mk1 _ _ _ _ _⟩
 have HW2 : Ac ((w.alloc (e.obox (.slice Ad e.disk.length cd) (.slice Am e.mem.length cm) (.slice Al e.log.length cl))).alloc (zE.obox (.slice none 0 0) (.slice none 0 0) (.slice none 0 0)) = w2):=⟨by rw [hw1,hw2]⟩
 have HZ2:=As hz2
 clear hw1 hw2 hz1 hz2 hb12
 have x0:=HQ2.out.c0
 have x1:=HQ2.out.c1
 have x2:=HQ2.out.c2
 have x3:=HQ2.out.c3
 have x4:=HQ2.out.c4
 cases hv : eOk e
 ·have HV:=As hv
  have hE : upR e steps = (zE,false):=by rw [upR,if_neg (by rw [hv];simp)]
  rw [hE]
  clear hv hE
  go_enter Tryz.func15,Tryz.ntmps15
  go_wp2_with (go_at_call 26;rw [show (w.alloc (Obj.cells #[Value.slice Ad e.disk.length cd,Value.slice Am e.mem.length cm,Value.slice Al e.log.length cl,Value.int IntKind.i64 e.safe,Value.bool e.down] 30)).alloc (Obj.cells #[Value.slice none 0 0,Value.slice none 0 0,Value.slice none 0 0,Value.int IntKind.i64 0,Value.bool false] 30) = w2 from HW2.out];refine (AB (cd:=cd) (cm:=cm) HV.out hcl HB2.out HR.out).mono ?_;rintro x w3 ⟨rfl,hb3⟩;have HB3:=As (bj HB2.out hb3);have HP3:=As (HP2.out.up hb3);have y0:=HP3.out.c0;have y1:=HP3.out.c1;have y2:=HP3.out.c2;have y3:=HP3.out.c3;have y4:=HP3.out.c4;have f0:=HP3.out.frz 0;have f1:=HP3.out.frz 1;have f2:=HP3.out.frz 2;have f3:=HP3.out.frz 3;have f4:=HP3.out.frz 4;clear hb3)
  obtain ⟨z0,z1,z2,z3,z4⟩:=HP3.out.empty
  exact bodyPost_ret (v:=.tuple #[zEv, .bool false]) (by simp [results,Tryz.results15,go_sem,z0,z1,z2,z3,z4]) rfl ⟨_,_,_,rfl,Iu _ _,Ao (g:=w.heap.size + 1) HB3.out (by omega) zE _ _ _⟩
 ·have HV:=As hv
  have HF:=As (ED.1 hv)
  clear hv
  rcases lts steps 0 with ⟨e1,b1,c1⟩ | ⟨e1,b1,c1⟩
  ·have hE : upR e steps = (zE,false):=by rw [upR,if_neg (by have:=e1.out;omega)]
   rw [hE]
   clear hE
   have hl0:=e1.out
   go_enter Tryz.func15,Tryz.ntmps15
   go_wp2_with (go_at_call 26;rw [show (w.alloc (Obj.cells #[Value.slice Ad e.disk.length cd,Value.slice Am e.mem.length cm,Value.slice Al e.log.length cl,Value.int IntKind.i64 e.safe,Value.bool e.down] 30)).alloc (Obj.cells #[Value.slice none 0 0,Value.slice none 0 0,Value.slice none 0 0,Value.int IntKind.i64 0,Value.bool false] 30) = w2 from HW2.out];refine (AB (cd:=cd) (cm:=cm) HV.out hcl HB2.out HR.out).mono ?_;rintro x w3 ⟨rfl,hb3⟩;have HB3:=As (bj HB2.out hb3);have HP3:=As (HP2.out.up hb3);have y0:=HP3.out.c0;have y1:=HP3.out.c1;have y2:=HP3.out.c2;have y3:=HP3.out.c3;have y4:=HP3.out.c4;have f0:=HP3.out.frz 0;have f1:=HP3.out.frz 1;have f2:=HP3.out.frz 2;have f3:=HP3.out.frz 3;have f4:=HP3.out.frz 4;clear hb3)
   obtain ⟨z0,z1,z2,z3,z4⟩:=HP3.out.empty
   exact bodyPost_ret (v:=.tuple #[zEv, .bool false]) (by simp [results,Tryz.results15,go_sem,z0,z1,z2,z3,z4]) rfl ⟨_,_,_,rfl,Iu _ _,Ao (g:=w.heap.size + 1) HB3.out (by omega) zE _ _ _⟩
  ·obtain ⟨n,hn⟩ : ∃ n : Nat,steps = (n : Int):=⟨steps.toNat,by have:=e1.out;omega⟩
   subst hn
   have HLG:=As (Bg HF.out.log)
   have hn0 : (0 : Int) ≤ (n : Int):=by omega
   cases hdn : e.down
   ·have hE : upR e (n : Int) = (e,false):=by rw [upR,if_pos ⟨HV.out,e1.out⟩,if_neg (by rw [hdn];simp)]
    rw [hE]
    have HDN:=As hdn
    clear hE hdn
    go_enter Tryz.func15,Tryz.ntmps15
    go_wp2_with (first
     | (go_at_call 26;rw [show (w.alloc (Obj.cells #[Value.slice Ad e.disk.length cd,Value.slice Am e.mem.length cm,Value.slice Al e.log.length cl,Value.int IntKind.i64 e.safe,Value.bool e.down] 30)).alloc (Obj.cells #[Value.slice none 0 0,Value.slice none 0 0,Value.slice none 0 0,Value.int IntKind.i64 0,Value.bool false] 30) = w2 from HW2.out];refine (AB (cd:=cd) (cm:=cm) HV.out hcl HB2.out HR.out).mono ?_;rintro x w3 ⟨rfl,hb3⟩;have HX3:=As hb3;replace x0:=bc hb3 x0;replace x1:=bc hb3 x1;replace x2:=bc hb3 x2;replace x3:=bc hb3 x3;replace x4:=bc hb3 x4;clear hb3)
     | (go_at_call 43;refine (AZ (cd:=cd) (cm:=cm) (cl:=cl) (Ay HF.out.disk) (Ay HF.out.mem) HLG.out (bj HB2.out HX3.out) HR.out).mono ?_;rintro x w4 ⟨vd,vm,vl,rfl,ho,hb4⟩;obtain ⟨Bd,dd,Bm,dm,Bl,dl,rfl,rfl,rfl, -, -⟩:=ho.reads;have HO4:=As ho;have HX4:=As (bj HX3.out hb4);have HN4:=As (Nat.le_trans HX3.out.size (Nat.le_refl _));clear ho hb4 x0 x1 x2 x3 x4)
     | (refine Ai (vd:=.slice Bd e.disk.length dd) (vm:=.slice Bm e.mem.length dm) (vl:=.slice Bl e.log.length dl) e ?_;intro w5 hb5 _ hq5;have HO5:=As (HO4.out.below hb5);have HX5:=As (bj HX4.out hb5);have x0:=hq5.c0;have x1:=hq5.c1;have x2:=hq5.c2;have x3:=hq5.c3;have x4:=hq5.c4;rw [HDN.out] at x4;have HP5:=As (HP2.out.up HX5.out);have y0:=HP5.out.c0;have y1:=HP5.out.c1;have y2:=HP5.out.c2;have y3:=HP5.out.c3;have y4:=HP5.out.c4;have f0:=HP5.out.frz 0;have f1:=HP5.out.frz 1;have f2:=HP5.out.frz 2;have f3:=HP5.out.frz 3;have f4:=HP5.out.frz 4;clear hb5 hq5))
    have hz:=HZ2.out
    have hn3:=HX3.out.size
    have hy:=HP5.out.Az ⟨e.disk,e.mem,e.log,e.safe,false⟩ (.slice Bd e.disk.length dd) (.slice Bm e.mem.length dm) (.slice Bl e.log.length dl)
    have h1:=HO5.out.Az (f:=⟨e.disk,e.mem,e.log,e.safe,false⟩) (xd:=.slice Bd e.disk.length dd) (xm:=.slice Bm e.mem.length dm) (xl:=.slice Bl e.log.length dl) HP5.out
    have h2:=Ao (g:=w.heap.size + 1) (bj HB2.out HX5.out) (by omega) ⟨e.disk,e.mem,e.log,e.safe,false⟩ (.slice Bd e.disk.length dd) (.slice Bm e.mem.length dm) (.slice Bl e.log.length dl)
    have z0:=hy.c0
    have z1:=hy.c1
    have z2:=hy.c2
    have z3:=hy.c3
    have z4:=hy.c4
    simp only at z0 z1 z2 z3 z4
    exact bodyPost_ret (v:=.tuple #[.agg #[.slice Bd e.disk.length dd, .slice Bm e.mem.length dm, .slice Bl e.log.length dl, .int .i64 e.safe, .bool false], .bool false]) (by simp [results,Tryz.results15,go_sem,z0,z1,z2,z3,z4]) rfl ⟨.slice Bd e.disk.length dd, .slice Bm e.mem.length dm, .slice Bl e.log.length dl,by unfold Eng.ag;rw [HDN.out],h1.lower (by omega),h2⟩
   ·obtain ⟨X,hX⟩ : ∃ X,Da n (Fj e) = X:=⟨_,rfl⟩
    have hE : upR e (n : Int) = (upE X,decide (AO X = 0)):=by rw [upR,if_pos ⟨HV.out,e1.out⟩,if_pos hdn,Int.toNat_natCast,hX]
    rw [hE]
    obtain ⟨R,hR⟩ : ∃ R,Cs e.disk e.log e.log.length = R:=⟨_,rfl⟩
    have HRR:=As hR
    have hst : Fj e = { e with mem:=R }:=by rw [Fj,hR]
    have hro : Fw { e with mem:=R }:=by rw [← hst];exact HF.out.rise
    have HRO:=As hro
    have HRX:=As (show Da n { e with mem:=R } = X by rw [← hst];exact hX)
    have HDN:=As hdn
    have HGD:=As (Ay HF.out.disk)
    clear hE hdn hX hR hst hro
    go_enter Tryz.func15,Tryz.ntmps15
    go_wp2_with (first
     | (go_at_call 26;rw [show (w.alloc (Obj.cells #[Value.slice Ad e.disk.length cd,Value.slice Am e.mem.length cm,Value.slice Al e.log.length cl,Value.int IntKind.i64 e.safe,Value.bool e.down] 30)).alloc (Obj.cells #[Value.slice none 0 0,Value.slice none 0 0,Value.slice none 0 0,Value.int IntKind.i64 0,Value.bool false] 30) = w2 from HW2.out];refine (AB (cd:=cd) (cm:=cm) HV.out hcl HB2.out HR.out).mono ?_;rintro x w3 ⟨rfl,hb3⟩;have HX3:=As hb3;replace x0:=bc hb3 x0;replace x1:=bc hb3 x1;replace x2:=bc hb3 x2;replace x3:=bc hb3 x3;replace x4:=bc hb3 x4;clear hb3)
     | (go_at_call 43;refine (AZ (cd:=cd) (cm:=cm) (cl:=cl) (Ay HF.out.disk) (Ay HF.out.mem) HLG.out (bj HB2.out HX3.out) HR.out).mono ?_;rintro x w4 ⟨vd,vm,vl,rfl,ho,hb4⟩;obtain ⟨Bd,dd,Bm,dm,Bl,dl,rfl,rfl,rfl, -,hc⟩:=ho.reads;have HO4:=As ho;have HX4:=As (bj HX3.out hb4);have HN4:=As (Nat.le_trans HX3.out.size (Nat.le_refl _));have HC4:=As hc;have HN34:=As hb4.size;have HX43:=As hb4;clear ho hb4 hc x0 x1 x2 x3 x4)
     | (refine Ai (vd:=.slice Bd e.disk.length dd) (vm:=.slice Bm e.mem.length dm) (vl:=.slice Bl e.log.length dl) e ?_;intro w5 hb5 hz5 hq5;have HO5:=As (HO4.out.below hb5);have HX5:=As (bj HX4.out hb5);have HC5:=As (HC4.out.up hb5);have HQ5:=As hq5;have x0:=hq5.c0;have x1:=hq5.c1;have x2:=hq5.c2;have x3:=hq5.c3;have x4:=hq5.c4;rw [HDN.out] at x4;have HB35:=As (bj HX43.out hb5);clear hb5 hq5)
     | (go_at_call 44;refine (La (w0:=w5) (c:=dd) (d:=dl) HGD.out (fun k hk => (AJ HF.out.log hk).ok) HLG.out (Below.refl _ _) HC5.out.d HC5.out.l).mono ?_;rw [HRR.out];rintro x w6 ⟨v,rfl,ho,hb6⟩;obtain ⟨Bn,dn,rfl, -, -⟩:=Kd.Cj ho;have HO6:=As (Jb HO5.out hb6 ho HB35.out.size);have hq6:=HQ5.out.up hb6;have HQ6:=As hq6;have HB36:=As (bj HB35.out hb6);have g1:=hq6.frz 1;have x1':=hq6.c1;have x2':=hq6.c2;clear ho hb6 hq6 x0 x1 x2 x3 x4)
     | (go_at_call 45;obtain ⟨w7,hw7⟩ : ∃ w7,w6.setCell ⟨w4.heap.size,1,none⟩ (.slice Bn R.length dn) = w7:=⟨_,rfl⟩;have hq7 : Aj w7 w4.heap.size { e with mem:=R } (.slice Bd e.disk.length dd) (.slice Bn R.length dn) (.slice Bl e.log.length dl):=(by rw [← hw7];exact HQ6.out.set1 _);have ho7 : AX w7 w3.heap.size (.slice Bd e.disk.length dd) (.slice Bn R.length dn) (.slice Bl e.log.length dl) { e with mem:=R }:=(by rw [← hw7];exact HO6.out.FJ HQ6.out 1 _);have hb7 : Below w3.heap.size w3 w7:=(by rw [← hw7];exact HB36.out.setCell (p:=⟨w4.heap.size,1,none⟩) HN34.out _);have hc7:=ho7.reads';rw [hw7];refine (Fs (w0:=w7) (c:=dl) (Below.refl _ _) hc7.l).mono ?_;rintro x w8 ⟨v,rfl,ho,hb8⟩;obtain ⟨Av,cv,rfl, -,hvc⟩:=ho.reads;have HEG0:=As (BU.up ⟨⟨_,_,_,hq7,ho7⟩,hb7,HN34.out⟩ hb8);have HVC:=As hvc;clear hw7 hq7 ho7 hb7 hc7 ho hb8 hvc x1' x2' g1))
    have HX4G : Ac (w3.heap.size ≤ w4.heap.size):=HN34
    have hroom:=HRO.out.room'
    go_loopw [7,8] (fun l i wr => ∃ (k : Nat) (x : Eng) (A : Option Addr) (c : Nat),k ≤ n ∧ l = .slice A (Cg x.log 3).length c ∧ i = .int .i64 (k : Int) ∧ Ac (Kd.C (Kd.int .i64) wr A (Cg x.log 3).length (Cg x.log 3)) ∧ Ac (BU w3 wr w4.heap.size x) ∧ Ac (Fw x ∧ Da (n - k) x = X) ∧ k + Bu x.log x.log.length ≤ 150) (fun _ i _ => (n - intOf i).toNat)
    case atStart => exact ⟨0,{ e with mem:=R },Av,cv,Nat.zero_le _,rfl,rfl,HVC,HEG0,⟨HRO.out,HRX.out⟩,by show 0 + Bu e.log e.log.length ≤ 150;have : e.log.length + Bu e.log e.log.length ≤ 150:=hroom;omega⟩
    case round =>
     obtain ⟨k,x,A,c,hk,rfl,rfl,HVl,HEG,HRK,hkn⟩:=hrel
     by_cases h0 : AO x = 0
     ·have hXx : X = x:=by rw [← HRK.out.2,O8 h0]
      have hU1 : upE X = { x with down:=false }:=by rw [hXx,upE,if_pos h0]
      have hU2 : decide (AO X = 0) = true:=by rw [hXx];simp [h0]
      have hol : Cg x.log 3 = []:=UB h0
      rw [hol]
      have HU:=As (And.intro hU1 hU2)
      clear hXx hol hU1 hU2 h0 hkn hroom
      by_cases hlt : k < n
      all_goals
       have hx2:=bj HX3.out HEG.out.bel
       obtain ⟨vd,vm,vl,hq,ho⟩:=HEG.out.ex
       obtain ⟨Ed,n1,Em,n2,El,n3,rfl,rfl,rfl, -, -⟩:=ho.reads
       have q0:=hq.c0
       have q1:=hq.c1
       have q2:=hq.c2
       have q3:=hq.c3
       have q4:=hq.c4
       have g4:=hq.frz 4
       have hp:=HP2.out.up hx2
       have y0:=hp.c0
       have y1:=hp.c1
       have y2:=hp.c2
       have y3:=hp.c3
       have y4:=hp.c4
       have f0:=hp.frz 0
       have f1:=hp.frz 1
       have f2:=hp.frz 2
       have f3:=hp.frz 3
       have f4:=hp.frz 4
       have HQ:=As hq
       have HO:=As ho
       have HP:=As hp
       have HX:=As hx2
       have HG:=As HEG.out.ge
       clear hq ho hp hx2
       have hne1 : ¬ w4.heap.size = w.heap.size + 1:=by have:=HZ2.out;have:=HX3.out.size;have:=HX4G.out;omega
       have hne2 : ¬ w.heap.size + 1 = w4.heap.size:=fun e => hne1 e.symm
       go_wp2
       have hz:=HZ2.out
       have hn3:=HX3.out.size
       have hge:=HG.out
       have hgl:=HX4G.out
       have r1:=HO.out.FJ HQ.out 4 (.bool false)
       have p1:=HP.out.far (b:=w4.heap.size) (by omega) 4 (.bool false)
       have b1:=(bj HB2.out HX.out).setCell (p:=⟨w4.heap.size,4,none⟩) (by show w.heap.size ≤ w4.heap.size;omega) (.bool false)
       have hy:=p1.Az { x with down:=false } (.slice Ed x.disk.length n1) (.slice Em x.mem.length n2) (.slice El x.log.length n3)
       have h1:=r1.Az (f:={ x with down:=false }) (xd:=.slice Ed x.disk.length n1) (xm:=.slice Em x.mem.length n2) (xl:=.slice El x.log.length n3) p1
       have h2:=Ao (g:=w.heap.size + 1) b1 (by omega) { x with down:=false } (.slice Ed x.disk.length n1) (.slice Em x.mem.length n2) (.slice El x.log.length n3)
       have z0:=hy.c0
       have z1:=hy.c1
       have z2:=hy.c2
       have z3:=hy.c3
       have z4:=hy.c4
       simp only at z0 z1 z2 z3 z4
       have hd1 : AX (Go.Proofs.YtklmhkglcfjclaaGreat.Az (wr.setCell ⟨w4.heap.size,4,none⟩ (.bool false)) (w.heap.size + 1) { x with down:=false } (.slice Ed x.disk.length n1) (.slice Em x.mem.length n2) (.slice El x.log.length n3)) w3.heap.size (.slice Ed x.disk.length n1) (.slice Em x.mem.length n2) (.slice El x.log.length n3) { x with down:=false }:=⟨h1.ex,h1.l⟩
       exact bodyPost_ret (v:=.tuple #[.agg #[.slice Ed x.disk.length n1, .slice Em x.mem.length n2, .slice El x.log.length n3, .int .i64 x.safe, .bool false], .bool true]) (by simp [results,Tryz.results15,go_sem,z0,z1,z2,z3,z4]) rfl ⟨.slice Ed x.disk.length n1, .slice Em x.mem.length n2, .slice El x.log.length n3,by rw [HU.out.1,HU.out.2],by rw [HU.out.1];exact hd1.lower (by omega),h2⟩
     ·obtain ⟨rest,hopen⟩:=Uz h0
      have hlen : (Cg x.log 3).length = rest.length + 1:=by rw [hopen];rfl
      have hv0 : iv (Cg x.log 3) 0 = AO x:=by rw [hopen];rfl
      have HV0:=As hv0
      have HLN:=As hlen
      by_cases hlt : k < n
      ·obtain ⟨hso,hro',hnd⟩:=HRK.out.1.step h0
       have hrk : Da (n - (k + 1)) (BA x (AO x)) = X:=by
        have h:=HRK.out.2
        rw [show n - k = (n - (k + 1)) + 1 by omega,Da,if_neg h0] at h
        exact h
       obtain ⟨t,ht⟩ : ∃ t,AO x = t:=⟨_,rfl⟩
       rw [ht] at hso hro' hnd hrk hv0
       have HSO:=As hso
       have HNX:=As (And.intro hro' hrk)
       have HND:=As (show k + 1 + Bu (BA x t).log (BA x t).log.length ≤ 150 by omega)
       have hk150 : k ≤ 150:=by omega
       obtain ⟨ad,rfl,g0⟩:=DC HVl.out 0 (by omega)
       rw [hv0] at g0
       have e0 : ad.add 0 = ad:=by simp [Addr.add]
       have g0' : wr.cell? ad = some (.int .i64 t):=by rw [← e0];exact g0
       have hwr : IntKind.i64.wrap ((k : Int) + 1) = (k : Int) + 1:=by simp (disch:=omega) only [IntWalk.i64_in]
       rw [hlen]
       clear hso hro' hnd hrk hv0 hopen h0 hkn hroom ht hlen HV0 HLN e0
       go_wp2_with (first
        | (go_at_call 46;refine (O3 HSO.out HEG.out).mono ?_;rintro x1 w9 ⟨⟨v1,rfl⟩,hg9⟩;have HG9:=As hg9;obtain ⟨ud,um,ul,hq9,ho9⟩:=hg9.ex;obtain ⟨Ud,u1,Um,u2,Ul,u3,rfl,rfl,rfl, -,hc9⟩:=ho9.reads;have x2':=hq9.c2;have HC9:=As hc9;clear hg9 hq9 ho9 hc9 g0 g0')
        | (go_at_call 45;refine (Fs (w0:=w9) (c:=u3) (Below.refl _ _) HC9.out.l).mono ?_;rintro x1 w10 ⟨v2,rfl,ho,hb10⟩;obtain ⟨Av2,cv2,rfl, -,hvc⟩:=ho.reads;have HEG2:=As (HG9.out.up hb10);have HVC2:=As hvc;clear ho hb10 hvc x2'))
       go_roundw
       case rel => exact ⟨k + 1,BA x t,Av2,cv2,by omega,rfl,by go_num,HVC2,HEG2,HNX,HND.out⟩
       case measure => simp [intOf];omega
      ·have hkn' : k = n:=by omega
       have hXx : X = x:=by
        have h:=HRK.out.2
        rw [hkn',Nat.sub_self] at h
        exact h.symm
       have HU:=As (show upE X = { x with mem:=x.disk } ∧ decide (AO X = 0) = false from ⟨by rw [hXx,upE,if_neg h0],by rw [hXx];simp [h0]⟩)
       have HGX:=As (show geo x.disk from by
        have h1:=(JS n { e with mem:=R }).1
        rw [HRX.out,hXx] at h1
        rw [h1]
        exact HGD.out)
       have hx2:=bj HX3.out HEG.out.bel
       obtain ⟨vd,vm,vl,hq,ho⟩:=HEG.out.ex
       obtain ⟨Ed,n1,Em,n2,El,n3,rfl,rfl,rfl, -,hc⟩:=ho.reads
       have q0:=hq.c0
       have HQ:=As hq
       have HO:=As ho
       have HC:=As hc
       have HEB:=As HEG.out.bel
       rw [hlen]
       clear hq ho hc hx2 hXx h0 hkn hroom hopen hv0 hlen HV0 HLN hkn'
       have hne1 : ¬ w4.heap.size = w.heap.size + 1:=by have:=HZ2.out;have:=HX3.out.size;have:=HX4G.out;omega
       have hne2 : ¬ w.heap.size + 1 = w4.heap.size:=fun e => hne1 e.symm
       go_wp2_with (go_at_call 47;refine (ET (w0:=wr) (c:=n1) (FU HGX.out) (by have:=HGX.out.1;omega) (Below.refl _ _) HC.out.d).mono ?_;rintro x1 w9 ⟨v1,rfl,ho9,hb9⟩;obtain ⟨Cd,k1,rfl, -, -⟩:=Kd.Cj ho9;have HO9:=As (Jb HO.out hb9 ho9 HEB.out.size);have hq9:=HQ.out.up hb9;have HQ9:=As hq9;have HB9:=As (bj HEB.out hb9);have hp9:=HP2.out.up (bj HX3.out HB9.out);have HP9:=As hp9;have g1:=hq9.frz 1;have q0':=hq9.c0;have q1':=hq9.c1;have q2':=hq9.c2;have q3':=hq9.c3;have q4':=hq9.c4;have y0:=hp9.c0;have y1:=hp9.c1;have y2:=hp9.c2;have y3:=hp9.c3;have y4:=hp9.c4;have f0:=hp9.frz 0;have f1:=hp9.frz 1;have f2:=hp9.frz 2;have f3:=hp9.frz 3;have f4:=hp9.frz 4;clear ho9 hb9 hq9 hp9 q0)
       have hz:=HZ2.out
       have hn3:=HX3.out.size
       have hgl:=HX4G.out
       have r1:=HO9.out.FJ HQ9.out 1 (.slice Cd x.disk.length k1)
       have p1:=HP9.out.far (b:=w4.heap.size) (by omega) 1 (.slice Cd x.disk.length k1)
       have b1:=(bj HB2.out (bj HX3.out HB9.out)).setCell (p:=⟨w4.heap.size,1,none⟩) (by show w.heap.size ≤ w4.heap.size;omega) (.slice Cd x.disk.length k1)
       have hy:=p1.Az { x with mem:=x.disk } (.slice Ed x.disk.length n1) (.slice Cd x.disk.length k1) (.slice El x.log.length n3)
       have h1:=r1.Az (f:={ x with mem:=x.disk }) (xd:=.slice Ed x.disk.length n1) (xm:=.slice Cd x.disk.length k1) (xl:=.slice El x.log.length n3) p1
       have h2:=Ao (g:=w.heap.size + 1) b1 (by omega) { x with mem:=x.disk } (.slice Ed x.disk.length n1) (.slice Cd x.disk.length k1) (.slice El x.log.length n3)
       have z0:=hy.c0
       have z1:=hy.c1
       have z2:=hy.c2
       have z3:=hy.c3
       have z4:=hy.c4
       simp only at z0 z1 z2 z3 z4
       exact bodyPost_ret (v:=.tuple #[.agg #[.slice Ed x.disk.length n1, .slice Cd x.disk.length k1, .slice El x.log.length n3, .int .i64 x.safe, .bool x.down], .bool false]) (by simp [results,Tryz.results15,go_sem,z0,z1,z2,z3,z4]) rfl ⟨.slice Ed x.disk.length n1, .slice Cd x.disk.length k1, .slice El x.log.length n3,by rw [HU.out.1,HU.out.2],by rw [HU.out.1];exact h1.lower (by omega),h2⟩
open Go.RowKit Go.Proofs.YtklmhkglcfjclaaGreatW.PrintWords Go.Proofs.YtklmhkglcfjclaaGreatW.PrintLast Go.Proofs.YtklmhkglcfjclaaGreatW.PrintMore Go.ChangeShapes Go.WideShapes Go.Deep
section
variable {H : Type} {enc : TypeId × Value → H} {P : Program} {w : World} {spare : Nat → Bool} {held : Bool}
def Opens (P : Program) (enc : TypeId × Value → H) (w : World) (spare : Nat → Bool) (held : Bool) {α : Type} (d : Kd α) (t : TypeId) : Prop:=
 ∀ fuel cs x,DataW.trod enc P w 0 spare held fuel t cs = some x → ∃ a,d.K w a cs
theorem FB {t : TypeId} {k : IntKind} (ht : P.underlying t = some (.int k)) : Opens P enc w spare held (Kd.int k) t:=by
 intro fuel cs x h
 obtain ⟨n,rfl, -⟩:=DataW.trod_int ht h
 exact ⟨n,rfl⟩
theorem VG {a : Addr} {n : Nat} {cs : List Value} (h : w.cells? 0 a n = some cs) (i : Nat) (u : Value) (hi : cs[i]? = some u) : w.cell? (a.add i) = some u:=by
 unfold World.cells? at h
 rw [if_pos (Nat.zero_le _)] at h
 have hl:=mapM_some_length h
 have hlt : i < n:=by have:=(List.getElem?_eq_some_iff.1 hi).1;simp at hl;omega
 rw [mapM_some_get h i i (by simp [hlt]),hi]
theorem E9 {α : Type} {d : Kd α} {t e : TypeId} (ht : P.underlying t = some (.slice e)) (hsz : P.cellsOf e = d.sz) (hd : Opens P enc w (fun _ => true) held d e) : Opens P enc w (fun _ => true) held (Kd.slice e d) t:=by
 intro fuel cs x h
 rcases open_slice ht h with ⟨rfl, -⟩ | ⟨a,len,cap,m,n,D,Pl,rfl, -,hl,hc,hm, -,hel⟩
 ·exact ⟨[],none,0,rfl,Nat.le_refl _,rfl,by simp,fun h0 => by simp at h0⟩
 ·rw [if_pos rfl] at hm
  subst hm
  have key : ∀ j,j ≤ len → ∃ xs : List α,xs.length = j ∧ ∀ i p,xs[i]? = some p → ∃ c,c.length = d.sz ∧ d.K w p c ∧ ∀ k u,c[k]? = some u → w.cell? (a.add (i * d.sz + k)) = some u:=by
   intro j
   induction j with
   | zero => exact fun _ => ⟨[],rfl,fun i p hp => by simp at hp⟩
   | succ j ih =>
    intro hj
    obtain ⟨xs,h1,h2⟩:=ih (by omega)
    obtain ⟨cs',h3,h4⟩:=hel j (by omega)
    obtain ⟨p,hp⟩:=hd _ _ _ h4
    refine ⟨xs ++ [p],by simp [h1],fun i q hq => ?_⟩
    by_cases hi : i < j
    ·exact h2 i q (by rwa [List.getElem?_append_left (by omega)] at hq)
    ·have hlt:=(List.getElem?_eq_some_iff.1 hq).1
     have hij : i = j:=by simp [h1] at hlt;omega
     subst hij
     rw [List.getElem?_append_right (by omega),h1,Nat.sub_self] at hq
     cases hq
     refine ⟨cs',d.K_len hp,hp,fun k u hk => ?_⟩
     rw [hsz] at h3
     rw [← Go.Deep.add_add]
     exact VG h3 k u hk
  obtain ⟨xs,h1,h2⟩:=key len (Nat.le_refl _)
  exact ⟨xs,some a,m,by rw [h1],by rw [h1];exact hl,rfl,by rw [h1];have : maxLen = 9223372036854775807:=rfl;omega,fun _ => ⟨a,rfl,h2⟩⟩
end
section
variable {H : Type} {enc : TypeId × Value → H} {w : World} {held : Bool}
end
end Go.Proofs.YtklmhkglcfjclaaGreat
namespace Go.Proofs.YtklmhkglcfjclaaGreat
open Go.RowKit Go.Proofs.YtklmhkglcfjclaaGreatW.PrintWords Go.Proofs.YtklmhkglcfjclaaGreatW.PrintLast Go.Proofs.YtklmhkglcfjclaaGreatW.PrintMore
set_option maxRecDepth 100000 in
set_option maxHeartbeats 4000000 in
theorem OD {w0 w : World} {e : Eng} {Ad Am Al : Option Addr} {cd cm cl : Nat} (hcl : e.log.length ≤ cl) (hb : Below w0.heap.size w0 w) (hr : Dn w0 e Ad Am Al) : Calls Tryz.prog 31 #[e.val Ad Am Al cd cm cl] w fun x w' => x = .returned (.int .i64 (if eOk e = true then (need e.log : Int) else -1)) ∧ Below w.heap.size w w':=by
 have HR:=As (hr.up hb)
 clear hr hb
 obtain ⟨w1,hw1⟩ : ∃ w1,w.alloc (e.obox (.slice Ad e.disk.length cd) (.slice Am e.mem.length cm) (.slice Al e.log.length cl)) = w1:=⟨_,rfl⟩
 have HW1:=As hw1
 have HB1 : Ac (Below w.heap.size w w1):=⟨by rw [← hw1];exact Ah (Below.refl _ _) _⟩
 have HQ1 : Ac (Aj w1 w.heap.size e (.slice Ad e.disk.length cd) (.slice Am e.mem.length cm) (.slice Al e.log.length cl)):=⟨by rw [← hw1];exact Aj.mk1 _ _ _ _ _⟩
 clear hw1
 have x2:=HQ1.out.c2
 cases hv : eOk e
 all_goals
  have HV:=As hv
  clear hv
  go_enter Tryz.func31,Tryz.ntmps31
  go_wp2_with (first | (go_at_call 26;rw [HW1.out];refine (AB (cd:=cd) (cm:=cm) HV.out hcl HB1.out HR.out).mono ?_;rintro x w2 ⟨rfl,hb2⟩;have HB2:=As (bj HB1.out hb2);replace x2:=bc hb2 x2;clear hb2) | (go_at_call 73;refine (Ox (c:=cl) HB2.out HR.out.l (ED.1 HV.out).log).mono ?_;rintro x w3 ⟨rfl,hb3⟩;have HB3:=As (bj HB2.out hb3);clear hb3))
  go_ret
 ·exact ⟨rfl,HB2.out⟩
 ·exact ⟨rfl,HB3.out⟩
end Go.Proofs.YtklmhkglcfjclaaGreat
