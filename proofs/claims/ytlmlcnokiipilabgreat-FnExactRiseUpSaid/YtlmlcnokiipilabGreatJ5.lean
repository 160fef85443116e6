/- Proved here: for every engine and every number that are handed in, laws.FnExactRiseUp returns true (the program's RiseUp returns what the reference's returns, leaves its argument as it was, and hands back memory of its own). Conditions: none beyond those that the given statement itself bears. -/
import Derived.Test.YtlmlcnokiipilabGreatJ4
import Derived.Deep.Slices
import Derived.OpenShut
import Derived.Deep.Strs
import Derived.WalkKit
import Derived.ProofKit
import Derived.ShutString
import Derived.ChangeOld
import Derived.Below
import Derived.SizedLaws
/- The reference's l12Add: a record goes behind an engine's log, and does what it says. -/
namespace Go.Proofs.YtlmlcnokiipilabGreat
open Go.RowKit Go.Proofs.YtlmlcnokiipilabGreatW.PrintWords Go.Proofs.YtlmlcnokiipilabGreatW.PrintLast Go.Proofs.YtlmlcnokiipilabGreatW.PrintMore
/-- Two slots lead to two blocks, as long as operation i3 did not come up. -/
def Ap3 (i3 i0 s0 i5 s5 : Nat) (l : Array Bool) (a : Act) (_w : World) : Prop:=l.getD i3 false = false → l.getD i0 false = true → l.getD i5 false = true → (a.tmps.getD s0 undef).ownBlock ≠ (a.tmps.getD s5 undef).ownBlock
theorem keeps_ap {k i3 i0 s0 i5 s5 d : Nat} (h1 : (d == s0) = false) (h2 : (d == s5) = false) (h3 : (k == i3) = false) (h4 : (k == i0) = false) (h5 : (k == i5) = false) : Keeps (Ap3 i3 i0 s0 i5 s5) k (some d):=fun l a v w => by
  have h1 : d ≠ s0:=by simpa using h1
  have h2 : d ≠ s5:=by simpa using h2
  have h3 : k ≠ i3:=by simpa using h3
  have h4 : k ≠ i0:=by simpa using h4
  have h5 : k ≠ i5:=by simpa using h5
  have e1 : (a.put (some d) v).tmps.getD s0 undef = a.tmps.getD s0 undef:=by simp [Act.put,h1]
  have e2 : (a.put (some d) v).tmps.getD s5 undef = a.tmps.getD s5 undef:=by simp [Act.put,h2]
  have e3 : (l.setIfInBounds k true).getD i3 false = l.getD i3 false:=getD_set_ne false h3
  have e4 : (l.setIfInBounds k true).getD i0 false = l.getD i0 false:=getD_set_ne false h4
  have e5 : (l.setIfInBounds k true).getD i5 false = l.getD i5 false:=getD_set_ne false h5
  rw [Ap3,Ap3,e1,e2,e3,e4,e5]
theorem ap_start {n i3 i0 s0 i5 s5 : Nat} {a : Act} {w : World} : Ap3 i3 i0 s0 i5 s5 (lsd n []) a w:=fun _ h => by
  rw [lsd_nil] at h
  simp [Array.getD] at h
theorem C_rec_lt {w : World} {B n : Nat} {l : List Rec} (hC : Kd.C kRec w (some ⟨B,0,none⟩) n l) (hn : 0 < n) : B < w.heap.size:=by
  obtain ⟨ad,e,q⟩:=at_rec hC 0 hn
  injection e with e
  subst e
  exact World.block_lt_of_cell? _ _ q.c0
theorem apart_new {w : World} {B : Nat} {l : List Rec} {v : Value} (hC : Kd.C kRec w (some ⟨B,0,none⟩) 1 l) (hv : v = .slice (some ⟨B,0,none⟩) 1 1) : (Value.slice (some ⟨w.heap.size,0,none⟩) 0 0).ownBlock ≠ v.ownBlock:=fun e => by
  have:=C_rec_lt hC (by omega)
  subst hv
  simp only [Value.ownBlock,Option.some.injEq] at e
  omega
theorem apart_new2 {w : World} {b : Nat} {l : List Rec} {v : Value} (h : OwnRs w b v l) : v.ownBlock ≠ (Value.slice (some ⟨w.heap.size,0,none⟩) 1 1).ownBlock:=fun e => by
  have:=Kd.R_lt h w.heap.size (by rw [e];simp [Value.ownBlock])
  omega
theorem C_grown {w w1 : World} {B : Nat} {r : Rec} {u : Value} (hC : Kd.C kRec w (some ⟨B,0,none⟩) 1 [r]) (hg : w.grownBy w1 u.ownBlock) (hne : u.ownBlock ≠ (Value.slice (some ⟨B,0,none⟩) 1 1).ownBlock) : Kd.C kRec w1 (some ⟨B,0,none⟩) 1 [r]:=by
  have hlt:=C_rec_lt hC (by omega)
  have hb : w1.heap[B]? = w.heap[B]?:=hg.block B hlt (fun e => hne (by rw [← e];simp [Value.ownBlock]))
  obtain ⟨ad,e,q⟩:=at_rec hC 0 (by omega)
  injection e with e
  subst e
  have hc : ∀ j : Nat,w1.cell? ⟨B,j,none⟩ = w.cell? ⟨B,j,none⟩:=fun j => World.cell?_of_block (w:=w) hb
  have e0 : (⟨B,0,none⟩ : Addr).add (0 * 8) = ⟨B,0,none⟩:=by simp [Addr.add]
  rw [e0] at q
  obtain ⟨q0,q1,q2,q3,q4,q5,q6,q7⟩:=q
  have hr : rc [r] 0 = r:=rfl
  rw [hr] at q0 q1 q2 q3 q4 q5 q6 q7
  exact C_one ⟨by rw [hc];exact q0,by rw [hc];exact q1,by rw [hc];exact q2,by rw [hc];exact q3,by rw [hc];exact q4,by rw [hc];exact q5,by rw [hc];exact q6,by rw [hc];exact q7⟩
theorem own_recset {w : World} {b g : Nat} {vd vm vl : Value} {e : Eng} {r : Rec} (h : OwnE w b vd vm vl e) (hr : RcBox w g r) (j : Nat) (u : Value) (hn : ∀ k,vl.ownBlock = some k → k ≠ g) : OwnE (w.setCell ⟨g,j,none⟩ u) b vd vm vl e:=by
  obtain ⟨⟨okd,okm,ha,hx,hy⟩,hz⟩:=h
  refine ⟨⟨okd,okm,ha,Kd.S_set hx hr (fun q hq => by rcases pk_kinds q hq with rfl | rfl <;> decide) j u,Kd.S_set hy hr (fun q hq => by rcases pk_kinds q hq with rfl | rfl <;> decide) j u⟩,?_⟩
  exact Kd.R_mono (Kd.R_far (p:=⟨g,j,none⟩) (Kd.R_tight rfl hz) (fun k hk => hn k hk.symm) u) (fun _ _ => trivial)
theorem RcBox.far {w : World} {g : Nat} {r : Rec} (h : RcBox w g r) {b : Nat} (hne : b ≠ g) (j : Nat) (u : Value) : RcBox (w.setCell ⟨b,j,none⟩ u) g r:=(Below.heap_setCell w ⟨b,j,none⟩ u g (Ne.symm hne)).trans h
theorem reg_later4 {R : Option Addr → Nat → Nat → Nat → Prop} {G : Prop} (h1 : (∀ a b c d,R a b c d) → G) (h2 : ∀ a b c d,R a b c d) : G:=h1 h2
theorem kept_set5 {w W : World} {S : Nat → Prop} {g : Nat} (h : Kept w W S) (hg : w.heap.size ≤ g) (e : Eng) (a b c : Value) : Kept w (Go.Proofs.YtlmlcnokiipilabGreat.set5 W g e a b c) S:=((((h.setCell (p:=⟨g,0,none⟩) (.inr hg) _).setCell (p:=⟨g,1,none⟩) (.inr hg) _).setCell (p:=⟨g,2,none⟩) (.inr hg) _).setCell (p:=⟨g,3,none⟩) (.inr hg) _).setCell (p:=⟨g,4,none⟩) (.inr hg) _
/-- Of what was there the row of pages in memory alone may have been written. -/
abbrev KeptM (w : World) (vm : Value) (w' : World) : Prop:=Kept w w' (fun k => some k = vm.ownBlock)
theorem EgBox.keptM {w w1 : World} {b g : Nat} {vd vm vl ud um ul : Value} {e q : Eng} (h : EgBox w g q ud um ul) (ho : OwnE w b vd vm vl e) (hk : KeptM w vm w1) : EgBox w1 g q ud um ul:=by
  refine (hk.2 g h.lt (fun e2 => ?_)).trans h
  obtain ⟨okd,okm, -, -,hm⟩:=ho.ex
  obtain ⟨cells,hc⟩:=Kd.S_typed hm g e2.symm
  have h1 : w.heap[g]? = _:=h
  rw [hc] at h1
  injection h1 with h1
  injection h1 with _ h2
  exact absurd h2 (by decide)
/-- An engine of the call's own, and a yes or no. -/
def RetEBb (w0 w : World) (vm : Value) (e : Eng) (b : Bool) (x : Ending) (w' : World) : Prop := ∃ vd' vm' vl',x = .returned (.tuple #[e.ag vd' vm' vl', .bool b]) ∧ OwnE w' w0.heap.size vd' vm' vl' e ∧ Below w0.heap.size w0 w' ∧ KeptM w vm w'
set_option maxRecDepth 100000 in
set_option maxHeartbeats 8000000 in
theorem l12Add_calls {w0 w : World} {e : Eng} {vd vm vl : Value} (r : Rec) (hgm : geo e.mem) (hlog : logOk (e.log ++ [prevR r (lastN e.log r.tx e.log.length)]) = true) (hroom : e.log.length + 1 + needAt (e.log ++ [prevR r (lastN e.log r.tx e.log.length)]) (e.log.length + 1) ≤ 150) (hrt : chgB r.kind = true → 0 ≤ r.page ∧ r.page < 5 ∧ r.slot < 3) (hb : Below w0.heap.size w0 w) (hr : OwnE w w0.heap.size vd vm vl e) : Calls Tryz.prog 125 #[e.ag vd vm vl,r.val] w (RetEBb w0 w vm (e.app r) true):=by
  obtain ⟨Ad,cd,Am,cm,Al,cl,rfl,rfl,rfl,hcl,hrd⟩:=hr.reads
  obtain ⟨w1a,hw1a⟩ : ∃ w1a,w.alloc (e.obox (.slice Ad e.disk.length cd) (.slice Am e.mem.length cm) (.slice Al e.log.length cl)) = w1a:=⟨_,rfl⟩
  obtain ⟨w1b,hw1b⟩ : ∃ w1b,w1a.alloc r.box = w1b:=⟨_,rfl⟩
  obtain ⟨w1,hw1⟩ : ∃ w1,w1b.alloc (zE.obox (.slice none 0 0) (.slice none 0 0) (.slice none 0 0)) = w1:=⟨_,rfl⟩
  have hza : w1a.heap.size = w.heap.size + 1:=by rw [← hw1a];exact size1 _ _
  have hzb : w1b.heap.size = w.heap.size + 1 + 1:=by rw [← hw1b,size1,hza]
  have hz1 : w1.heap.size = w.heap.size + 3:=by rw [← hw1,size1,hzb]
  have hba : Below w1a.heap.size w1a w1:=by rw [← hw1, ← hw1b];exact bel_alloc (bel_alloc (Below.refl _ _) _) _
  have hbb : Below w1b.heap.size w1b w1:=by rw [← hw1];exact bel_alloc (Below.refl _ _) _
  have hb1 : Below w.heap.size w w1:=by rw [← hw1, ← hw1b, ← hw1a];exact bel_alloc (bel_alloc (bel_alloc (Below.refl _ _) _) _) _
  have HQ1 : Aside0 (EgBox w1 w.heap.size e (.slice Ad e.disk.length cd) (.slice Am e.mem.length cm) (.slice Al e.log.length cl)):=⟨EgBox.up (by rw [← hw1a];exact EgBox.mk1 _ _ _ _ _) hba⟩
  have HRB1 : Aside0 (RcBox w1 (w.heap.size + 1) r):=⟨RcBox.up (by rw [← hw1b, ← hza];exact RcBox.mk1 _ _) hbb⟩
  have HP1 : Aside0 (EgBox w1 (w.heap.size + 1 + 1) zE (.slice none 0 0) (.slice none 0 0) (.slice none 0 0)):=⟨by rw [← hw1, ← hzb];exact EgBox.mk1 _ _ _ _ _⟩
  have HW1 : Aside0 (((w.alloc (e.obox (.slice Ad e.disk.length cd) (.slice Am e.mem.length cm) (.slice Al e.log.length cl))).alloc r.box).alloc (zE.obox (.slice none 0 0) (.slice none 0 0) (.slice none 0 0)) = w1):=⟨by rw [hw1a,hw1b,hw1]⟩
  have HZ1s:=As hz1
  have HB1:=As hb1
  have HB:=As hb
  have HO1:=As (hr.below hb1)
  have HOw:=As hr
  have HC1:=As (hrd.up hb1)
  obtain ⟨ln,hln⟩ : ∃ ln : Nat,lastN e.log r.tx e.log.length = ln:=⟨_,rfl⟩
  rw [hln] at hlog hroom
  obtain ⟨r1,hr1⟩ : ∃ r1,prevR r ln = r1:=⟨_,rfl⟩
  rw [hr1] at hlog hroom
  obtain ⟨l1,hl1⟩ : ∃ l1,e.log ++ [r1] = l1:=⟨_,rfl⟩
  rw [hl1] at hlog hroom
  have hll : l1.length = e.log.length + 1:=by rw [← hl1];simp
  obtain ⟨nd,hnd⟩ : ∃ nd,need l1 = nd:=⟨_,rfl⟩
  have hsum : l1.length + nd ≤ 150:=by rw [← hnd,need_at,hll];exact hroom
  have HLOG:=As hlog
  have HLN:=As hln
  have HR1:=As hr1
  have HL1:=As hl1
  have HLL:=As hll
  have HND:=As hnd
  have HSUM:=As hsum
  have HGM:=As hgm
  have HRT:=As hrt
  have HL:=As (show e.log.length ≤ 150 by omega)
  have HE:=As (show e.app r = { e with log:=l1,mem:=if chgB r.kind = true then e.mem.set r.page.toNat (doR (pg e.mem r.page.toNat) r1 (e.log.length + 1 : Nat)) else e.mem } by unfold Eng.app;rw [← hl1, ← hr1, ← hln];rfl)
  have x2:=HQ1.out.c2
  have r1c:=HRB1.out.at.c1
  have r6c:=HRB1.out.at.c6
  have fr6:=HRB1.out.frz 6
  simp only [Nat.zero_add] at r1c r6c
  clear hw1a hw1b hw1 hza hzb hz1 hba hbb hb1 hb hr hrd hln hr1 hl1 hll hnd hsum hgm hrt hlog hroom
  go_enter Tryz.func125,Tryz.ntmps125
  go_wp2_with (go_at_call 115;rw [show ((w.alloc (Obj.cells #[Value.slice Ad e.disk.length cd,Value.slice Am e.mem.length cm,Value.slice Al e.log.length cl,Value.int IntKind.i64 e.safe,Value.bool e.down] 28)).alloc (Obj.cells #[Value.int IntKind.i64 r.kind,Value.int IntKind.i64 r.tx,Value.int IntKind.i64 r.page,Value.int IntKind.i64 r.slot,Value.int IntKind.i64 r.old,Value.int IntKind.i64 r.new,Value.int IntKind.i64 r.prev,Value.int IntKind.i64 r.next] 98)).alloc (Obj.cells #[Value.slice none 0 0,Value.slice none 0 0,Value.slice none 0 0,Value.int IntKind.i64 0,Value.bool false] 28) = w1 from HW1.out];refine (l3Last_is (c:=cl) HLN.out (Below.refl w1.heap.size w1) HC1.out.l).mono ?_;rintro x w' ⟨rfl,rfl⟩)
  obtain ⟨w2,hw2⟩ : ∃ w2,w1.setCell ⟨w.heap.size + 1,6,none⟩ (.int .i64 ln) = w2:=⟨_,rfl⟩
  have hrb2 : RcBox w2 (w.heap.size + 1) r1:=by rw [← hw2, ← HR1.out];exact HRB1.out.set6 ln
  have hq2 : EgBox w2 w.heap.size e (.slice Ad e.disk.length cd) (.slice Am e.mem.length cm) (.slice Al e.log.length cl):=by rw [← hw2];exact HQ1.out.far (by omega) _ _
  have hp2 : EgBox w2 (w.heap.size + 1 + 1) zE (.slice none 0 0) (.slice none 0 0) (.slice none 0 0):=by rw [← hw2];exact HP1.out.far (by omega) _ _
  have hb2 : Below w.heap.size w w2:=by rw [← hw2];exact HB1.out.setCell (p:=⟨w.heap.size + 1,6,none⟩) (by simp) _
  have hs2 : w2.heap.size = w.heap.size + 3:=by rw [← hw2];simp [HZ1s.out]
  rw [hw2]
  have HRB2:=As hrb2
  have HQ2:=As hq2
  have HP2:=As hp2
  have HB2:=As hb2
  have HS2:=As hs2
  have HO2 : Aside0 (OwnE w2 w0.heap.size (.slice Ad e.disk.length cd) (.slice Am e.mem.length cm) (.slice Al e.log.length cl) e):=⟨by rw [← hw2];exact own_recset HO1.out HRB1.out 6 _ (fun k hk => by have h1:=Kd.R_lt HOw.out.l k hk;omega)⟩
  have HCL:=As (HO2.out.reads').l
  have x2:=hq2.c2
  obtain ⟨z0,z1,z2,z3,z4,z5,z6,z7⟩:=hrb2.at
  simp only [Nat.zero_add] at z1 z2 z3 z4 z5 z6 z7
  clear hw2 hrb2 hq2 hp2 hb2 hs2 r1c r6c fr6
  refine reg_start (fun lx a wx => Below w2.heap.size w2 wx ∧ (Pre 3 0 13 (fun _ => True) (fun v wx => OwnRs wx w2.heap.size v []) lx a wx ∧ (Pre 6 3 16 (fun _ => True) (fun v wx => ∃ A c,v = .slice A e.log.length c ∧ OwnRs wx w2.heap.size v e.log) lx a wx ∧ (Pre 6 5 18 (fun _ => True) (fun v wx => ∃ B,v = .slice (some ⟨B,0,none⟩) 1 1 ∧ Kd.C kRec wx (some ⟨B,0,none⟩) 1 [r1]) lx a wx ∧ (Ap3 3 0 13 5 18 lx a wx ∧ Sl 6 19 (fun v wx => ∃ A c,v = .slice A l1.length c ∧ OwnRs wx w2.heap.size v l1) lx a wx))))) 8 rfl (by kernel_rfl) (⟨below_drew (Below.refl _ _),pre_start trivial,pre_start trivial,pre_start trivial,ap_start,sl_start⟩) (fun HT => ?_)
  refine reg_val (i:=1) (v:=?_) HT rfl (by kernel_rfl) rfl (kA keeps_world (kA (keeps_pre rfl rfl rfl) (kA (keeps_pre rfl rfl rfl) (kA (keeps_pre rfl rfl rfl) (kA (keeps_ap rfl rfl rfl rfl rfl) (keeps_sl rfl rfl)))))) (by rfl) (fun _ _ _ h => h) (fun lx ax wx hS => ?_) ?_;rotate_left;(have hbx:=hS.1;clear hS;replace x2:=bc hbx x2;replace z0:=bc hbx z0;replace z1:=bc hbx z1;replace z2:=bc hbx z2;replace z3:=bc hbx z3;replace z4:=bc hbx z4;replace z5:=bc hbx z5;replace z6:=bc hbx z6;replace z7:=bc hbx z7;go_simp;with_reducible rfl);rotate_left;simp only [sc0,sc1]
  refine reg_val (i:=2) (v:=?_) HT rfl (by kernel_rfl) rfl (kA keeps_world (kA (keeps_pre rfl rfl rfl) (kA (keeps_pre rfl rfl rfl) (kA (keeps_pre rfl rfl rfl) (kA (keeps_ap rfl rfl rfl rfl rfl) (keeps_sl rfl rfl)))))) (by rfl) (fun _ _ _ h => h) (fun lx ax wx hS => ?_) ?_;rotate_left;(have hbx:=hS.1;clear hS;replace x2:=bc hbx x2;replace z0:=bc hbx z0;replace z1:=bc hbx z1;replace z2:=bc hbx z2;replace z3:=bc hbx z3;replace z4:=bc hbx z4;replace z5:=bc hbx z5;replace z6:=bc hbx z6;replace z7:=bc hbx z7;go_simp;with_reducible rfl);rotate_left;simp only [sc0,sc1]
  refine reg_val (i:=4) (v:=?_) HT rfl (by kernel_rfl) rfl (kA keeps_world (kA (keeps_pre rfl rfl rfl) (kA (keeps_pre rfl rfl rfl) (kA (keeps_pre rfl rfl rfl) (kA (keeps_ap rfl rfl rfl rfl rfl) (keeps_sl rfl rfl)))))) (by rfl) (fun _ _ _ h => h) (fun lx ax wx hS => ?_) ?_;rotate_left;(have hbx:=hS.1;clear hS;replace x2:=bc hbx x2;replace z0:=bc hbx z0;replace z1:=bc hbx z1;replace z2:=bc hbx z2;replace z3:=bc hbx z3;replace z4:=bc hbx z4;replace z5:=bc hbx z5;replace z6:=bc hbx z6;replace z7:=bc hbx z7;go_simp;with_reducible rfl);rotate_left;simp only [sc0,sc1]
  apply reg_later4
  · intro hrest
    refine reg_each [0,5] (by kernel_rfl) (fun i hi wx hS => ?_)
    rcases List.mem_cons.1 hi with rfl | hi
    · clear hi
      have hb : Below wx.heap.size wx (wx.alloc (.cells #[] 98)):=bel_alloc (Below.refl _ _) _
      refine wpOp_valL (w1:=wx.alloc (.cells #[] 98)) (.slice (some ⟨wx.heap.size,0,none⟩) 0 0) rfl rfl (by rfl) (by go_simp) ?_
      refine ⟨⟨bt hS.1 hb,fun _ => ⟨trivial,fun _ => rs_empty rfl hS.1.size⟩,fun _ => ⟨trivial,fun h => (no_yes h (by kernel_rfl)).elim⟩,fun _ => ⟨trivial,fun h => (no_yes h (by kernel_rfl)).elim⟩,fun _ => fun _ h => (no_yes h (by kernel_rfl)).elim,fun h => (no_yes h (by kernel_rfl)).elim⟩,?_⟩
      obtain ⟨B0,hB⟩ : ∃ B,wx.heap.size = B:=⟨_,rfl⟩
      rw [hB]
      clear hb hB hS
      simp only [sc0,sc1]
      refine reg_each [3,5] (by kernel_rfl) (fun i hi wx hS => ?_)
      rcases List.mem_cons.1 hi with rfl | hi
      · clear hi
        have hr0 : OwnRs wx w2.heap.size (.slice (some ⟨B0,0,none⟩) 0 0) []:=(hS.2.1 (by kernel_rfl)).2 (by kernel_rfl)
        refine wpOp_step rfl (Kd.R_append_rows_step kRec (Rr:=kRec.K wx) (w0:=w2) w2.heap.size (by rfl) (.tmp 13) (.tmp 15) 26 98 _ 64 rfl under_recs info_rec rfl (by decide) (by decide) (.slice (some ⟨B0,0,none⟩) 0 0) [] e.log Al e.log.length cl (fun _ => True) (fun _ => False) rfl rfl hr0 (C_up HCL.out hS.1) (fun _ _ hk => kRec_KM hk) (fun _ hk => hk.elim) (fun _ _ => trivial) hS.1 hS.1.size (by have:=HL.out;simp;omega) (fun v1 w4 hown hb4 hg4 _ => ?_))
        have hown : OwnRs w4 w2.heap.size v1 e.log:=hown
        obtain ⟨A1,c1,rfl, -, -⟩:=Kd.R_reads hown
        simp only [put_list,sc0,sc1]
        refine ⟨⟨hb4,fun h => (no_yes (by kernel_rfl) h).elim,fun _ => ⟨trivial,fun _ => ⟨_,_,rfl,hown⟩⟩,fun _ => ⟨trivial,fun h => (no_yes h (by kernel_rfl)).elim⟩,fun h => (no_yes (by kernel_rfl) h).elim,fun h => (no_yes h (by kernel_rfl)).elim⟩,?_⟩
        clear hr0 hown hb4 hg4 hS
        refine reg_each [5] (by kernel_rfl) (fun i hi wx hS => ?_)
        obtain rfl:=List.mem_singleton.1 hi
        clear hi
        have hb : Below wx.heap.size wx (wx.alloc r1.box):=bel_alloc (Below.refl _ _) _
        refine wpOp_valL (w1:=wx.alloc r1.box) (.slice (some ⟨wx.heap.size,0,none⟩) 1 1) rfl rfl (by rfl) (by go_simp) ?_
        refine ⟨⟨bt hS.1 hb,fun h => (no_yes (by kernel_rfl) h).elim,fun _ => ⟨trivial,fun _ => ((hS.2.2.1 (by kernel_rfl)).2 (by kernel_rfl)).elim fun A' h' => h'.elim fun c' h2 => ⟨A',c',h2.1,Kd.R_below h2.2 hb⟩⟩,fun _ => ⟨trivial,fun _ => ⟨wx.heap.size,rfl,C_one (rbox_at wx r1)⟩⟩,fun h _ _ => (no_yes (by kernel_rfl) h).elim,fun h => (no_yes h (by kernel_rfl)).elim⟩,?_⟩
        obtain ⟨B5,hB⟩ : ∃ B,wx.heap.size = B:=⟨_,rfl⟩
        rw [hB]
        clear hb hB hS
        simp only [sc0,sc1]
        exact reg_perm (done := [5,3,0,4,2,1]) (by kernel_rfl) (hrest A1 c1 B0 B5)
      · obtain rfl:=List.mem_singleton.1 hi
        clear hi
        have hb : Below wx.heap.size wx (wx.alloc r1.box):=bel_alloc (Below.refl _ _) _
        refine wpOp_valL (w1:=wx.alloc r1.box) (.slice (some ⟨wx.heap.size,0,none⟩) 1 1) rfl rfl (by rfl) (by go_simp) ?_
        refine ⟨⟨bt hS.1 hb,fun _ => ⟨trivial,fun _ => Kd.R_below ((hS.2.1 (by kernel_rfl)).2 (by kernel_rfl)) hb⟩,fun _ => ⟨trivial,fun h => (no_yes h (by kernel_rfl)).elim⟩,fun _ => ⟨trivial,fun _ => ⟨wx.heap.size,rfl,C_one (rbox_at wx r1)⟩⟩,fun _ => fun _ _ => apart_new2 ((hS.2.1 (by kernel_rfl)).2 (by kernel_rfl)),fun h => (no_yes h (by kernel_rfl)).elim⟩,?_⟩
        obtain ⟨B5,hB⟩ : ∃ B,wx.heap.size = B:=⟨_,rfl⟩
        rw [hB]
        clear hb hB hS
        simp only [sc0,sc1]
        refine reg_each [3] (by kernel_rfl) (fun i hi wx hS => ?_)
        obtain rfl:=List.mem_singleton.1 hi
        clear hi
        have hr0 : OwnRs wx w2.heap.size (.slice (some ⟨B0,0,none⟩) 0 0) []:=(hS.2.1 (by kernel_rfl)).2 (by kernel_rfl)
        obtain ⟨B',hB',hC'⟩:=(hS.2.2.2.1 (by kernel_rfl)).2 (by kernel_rfl)
        have hB' : Value.slice (some ⟨B5,0,none⟩) 1 1 = .slice (some ⟨B',0,none⟩) 1 1:=hB'
        obtain rfl : B5 = B':=by simpa using hB'
        have hap : (Value.slice (some ⟨B0,0,none⟩) 0 0).ownBlock ≠ (Value.slice (some ⟨B5,0,none⟩) 1 1).ownBlock:=hS.2.2.2.2.1 (by kernel_rfl) (by kernel_rfl) (by kernel_rfl)
        refine wpOp_step rfl (Kd.R_append_rows_step kRec (Rr:=kRec.K wx) (w0:=w2) w2.heap.size (by rfl) (.tmp 13) (.tmp 15) 26 98 _ 64 rfl under_recs info_rec rfl (by decide) (by decide) (.slice (some ⟨B0,0,none⟩) 0 0) [] e.log Al e.log.length cl (fun _ => True) (fun _ => False) rfl rfl hr0 (C_up HCL.out hS.1) (fun _ _ hk => kRec_KM hk) (fun _ hk => hk.elim) (fun _ _ => trivial) hS.1 hS.1.size (by have:=HL.out;simp;omega) (fun v1 w4 hown hb4 hg4 _ => ?_))
        have hown : OwnRs w4 w2.heap.size v1 e.log:=hown
        obtain ⟨A1,c1,rfl, -, -⟩:=Kd.R_reads hown
        simp only [put_list,sc0,sc1]
        have hC5 : Kd.C kRec w4 (some ⟨B5,0,none⟩) 1 [r1]:=C_grown hC' hg4 hap
        refine ⟨⟨hb4,fun h => (no_yes (by kernel_rfl) h).elim,fun _ => ⟨trivial,fun _ => ⟨_,_,rfl,hown⟩⟩,fun _ => ⟨trivial,fun _ => ⟨_,rfl,hC5⟩⟩,fun h => (no_yes (by kernel_rfl) h).elim,fun h => (no_yes h (by kernel_rfl)).elim⟩,?_⟩
        clear hr0 hown hb4 hg4 hS hC' hB' hap hC5
        exact reg_perm (done := [5,3,0,4,2,1]) (by kernel_rfl) (hrest A1 c1 B0 B5)
    · obtain rfl:=List.mem_singleton.1 hi
      clear hi
      have hb : Below wx.heap.size wx (wx.alloc r1.box):=bel_alloc (Below.refl _ _) _
      refine wpOp_valL (w1:=wx.alloc r1.box) (.slice (some ⟨wx.heap.size,0,none⟩) 1 1) rfl rfl (by rfl) (by go_simp) ?_
      refine ⟨⟨bt hS.1 hb,fun _ => ⟨trivial,fun h => (no_yes h (by kernel_rfl)).elim⟩,fun _ => ⟨trivial,fun h => (no_yes h (by kernel_rfl)).elim⟩,fun _ => ⟨trivial,fun _ => ⟨wx.heap.size,rfl,C_one (rbox_at wx r1)⟩⟩,fun _ => fun h => (no_yes h (by kernel_rfl)).elim,fun h => (no_yes h (by kernel_rfl)).elim⟩,?_⟩
      obtain ⟨B5,hB⟩ : ∃ B,wx.heap.size = B:=⟨_,rfl⟩
      rw [hB]
      clear hb hB hS
      simp only [sc0,sc1]
      refine reg_each [0] (by kernel_rfl) (fun i hi wx hS => ?_)
      obtain rfl:=List.mem_singleton.1 hi
      clear hi
      have hb : Below wx.heap.size wx (wx.alloc (.cells #[] 98)):=bel_alloc (Below.refl _ _) _
      refine wpOp_valL (w1:=wx.alloc (.cells #[] 98)) (.slice (some ⟨wx.heap.size,0,none⟩) 0 0) rfl rfl (by rfl) (by go_simp) ?_
      refine ⟨⟨bt hS.1 hb,fun _ => ⟨trivial,fun _ => rs_empty rfl hS.1.size⟩,fun _ => ⟨trivial,fun h => (no_yes h (by kernel_rfl)).elim⟩,fun _ => ⟨trivial,fun _ => ((hS.2.2.2.1 (by kernel_rfl)).2 (by kernel_rfl)).elim fun B' h' => ⟨B',h'.1,C_up h'.2 hb⟩⟩,fun _ => fun _ _ => (((hS.2.2.2.1 (by kernel_rfl)).2 (by kernel_rfl)).elim fun B' h' => apart_new h'.2 h'.1),fun h => (no_yes h (by kernel_rfl)).elim⟩,?_⟩
      obtain ⟨B0,hB⟩ : ∃ B,wx.heap.size = B:=⟨_,rfl⟩
      rw [hB]
      clear hb hB hS
      simp only [sc0,sc1]
      refine reg_each [3] (by kernel_rfl) (fun i hi wx hS => ?_)
      obtain rfl:=List.mem_singleton.1 hi
      clear hi
      have hr0 : OwnRs wx w2.heap.size (.slice (some ⟨B0,0,none⟩) 0 0) []:=(hS.2.1 (by kernel_rfl)).2 (by kernel_rfl)
      obtain ⟨B',hB',hC'⟩:=(hS.2.2.2.1 (by kernel_rfl)).2 (by kernel_rfl)
      have hB' : Value.slice (some ⟨B5,0,none⟩) 1 1 = .slice (some ⟨B',0,none⟩) 1 1:=hB'
      obtain rfl : B5 = B':=by simpa using hB'
      have hap : (Value.slice (some ⟨B0,0,none⟩) 0 0).ownBlock ≠ (Value.slice (some ⟨B5,0,none⟩) 1 1).ownBlock:=hS.2.2.2.2.1 (by kernel_rfl) (by kernel_rfl) (by kernel_rfl)
      refine wpOp_step rfl (Kd.R_append_rows_step kRec (Rr:=kRec.K wx) (w0:=w2) w2.heap.size (by rfl) (.tmp 13) (.tmp 15) 26 98 _ 64 rfl under_recs info_rec rfl (by decide) (by decide) (.slice (some ⟨B0,0,none⟩) 0 0) [] e.log Al e.log.length cl (fun _ => True) (fun _ => False) rfl rfl hr0 (C_up HCL.out hS.1) (fun _ _ hk => kRec_KM hk) (fun _ hk => hk.elim) (fun _ _ => trivial) hS.1 hS.1.size (by have:=HL.out;simp;omega) (fun v1 w4 hown hb4 hg4 _ => ?_))
      have hown : OwnRs w4 w2.heap.size v1 e.log:=hown
      obtain ⟨A1,c1,rfl, -, -⟩:=Kd.R_reads hown
      simp only [put_list,sc0,sc1]
      have hC5 : Kd.C kRec w4 (some ⟨B5,0,none⟩) 1 [r1]:=C_grown hC' hg4 hap
      refine ⟨⟨hb4,fun h => (no_yes (by kernel_rfl) h).elim,fun _ => ⟨trivial,fun _ => ⟨_,_,rfl,hown⟩⟩,fun _ => ⟨trivial,fun _ => ⟨_,rfl,hC5⟩⟩,fun h => (no_yes (by kernel_rfl) h).elim,fun h => (no_yes h (by kernel_rfl)).elim⟩,?_⟩
      clear hr0 hown hb4 hg4 hS hC' hB' hap hC5
      exact reg_perm (done := [5,3,0,4,2,1]) (by kernel_rfl) (hrest A1 c1 B0 B5)
  intro A1 c1 B0 B5
  refine reg_each [6] (by kernel_rfl) (fun i hi w3 hS => ?_)
  obtain rfl:=List.mem_singleton.1 hi
  clear hi
  obtain ⟨h1, -,hB,hC, -, -⟩:=hS
  obtain ⟨A',c',hv,hown16⟩:=(hB (by kernel_rfl)).2 (by kernel_rfl)
  have hv : Value.slice A1 e.log.length c1 = .slice A' e.log.length c':=hv
  obtain ⟨rfl,rfl⟩ : A1 = A' ∧ c1 = c':=by simpa using hv
  have hown16 : OwnRs w3 w2.heap.size (.slice A1 e.log.length c1) e.log:=hown16
  obtain ⟨B',hB',hC'⟩:=(hC (by kernel_rfl)).2 (by kernel_rfl)
  have hB' : Value.slice (some ⟨B5,0,none⟩) 1 1 = .slice (some ⟨B',0,none⟩) 1 1:=hB'
  obtain rfl : B5 = B':=by simpa using hB'
  refine wpOp_step rfl (Kd.R_append_rows_step kRec (Rr:=kRec.K w3) (w0:=w2) w2.heap.size (by rfl) (.tmp 16) (.tmp 18) 26 98 _ 64 rfl under_recs info_rec rfl (by decide) (by decide) (.slice A1 e.log.length c1) e.log [r1] (some ⟨B5,0,none⟩) 1 1 (fun _ => True) (fun _ => False) rfl rfl hown16 hC' (fun _ _ hk => kRec_KM hk) (fun _ hk => hk.elim) (fun _ _ => trivial) h1 h1.size (by have:=HL.out;simp;omega) (fun v1 w4 hown hb4 hg4 _ => ?_))
  rw [HL1.out] at hown
  obtain ⟨A6,c6,rfl, -, -⟩:=Kd.R_reads hown
  simp only [put_list,sc0,sc1]
  refine ⟨⟨hb4,fun h => (no_yes (by kernel_rfl) h).elim,fun h => (no_yes (by kernel_rfl) h).elim,fun h => (no_yes (by kernel_rfl) h).elim,fun h => (no_yes (by kernel_rfl) h).elim,fun _ => ⟨_,_,rfl,hown⟩⟩,?_⟩
  clear h1 hB hC hv hown16 hB' hC' hown hb4 hg4
  refine reg_val (i:=7) (v:=?_) HT rfl (by kernel_rfl) rfl (kA keeps_world (kA (keeps_pre rfl rfl rfl) (kA (keeps_pre rfl rfl rfl) (kA (keeps_pre rfl rfl rfl) (kA (keeps_ap rfl rfl rfl rfl rfl) (keeps_sl rfl rfl)))))) (by rfl) (fun _ _ _ h => h) (fun lx ax wx hS => ?_) ?_;rotate_left;(go_simp;with_reducible rfl);rotate_left;simp only [sc0,sc1]
  refine reg_end (by kernel_rfl) (fun w5 hS => ?_)
  obtain ⟨hb5, -, -, -, -,h6⟩:=hS
  obtain ⟨A',c',hv,hown⟩:=h6 (by kernel_rfl)
  have hv : Value.slice A6 l1.length c6 = .slice A' l1.length c':=hv
  obtain ⟨rfl,rfl⟩ : A6 = A' ∧ c6 = c':=by simpa using hv
  have hown : OwnRs w5 w2.heap.size (.slice A6 l1.length c6) l1:=hown
  have HB5:=As hb5
  have HL5:=As hown
  have hs0:=HSUM.out
  have hwr : IntKind.i64.wrap ((l1.length : Int) + nd) = (l1.length : Int) + nd:=by simp (disch:=omega) only [IntWalk.i64_in]
  have hcmp : decide (150 < (l1.length : Int) + nd) = false:=by simp;omega
  clear h6 hv hown hb5 x2 z0 z1 z2 z3 z4 z5 z6 z7
  have hkd : r1.kind = r.kind:=by rw [← HR1.out];rfl
  have HKD:=As hkd
  clear hkd
  cases hc : chgB r.kind
  · have HEC : Aside0 (e.app r = { e with log:=l1 }):=⟨by rw [HE.out,if_neg (by rw [hc];simp)]⟩
    have HCH:=As hc
    clear hc
    go_wp2_with (first
      | (go_at_call 95;refine (l11Need_calls (c:=c6) (Below.refl w5.heap.size w5) (Kd.R_reads' HL5.out).2.2 HLOG.out).mono ?_;rw [HND.out];rintro x w6 ⟨rfl,hb6⟩;have hb26:=bt HB5.out hb6;have HB26:=As hb26;have HL6:=As (Kd.R_below HL5.out hb6);have hq6:=HQ2.out.up hb26;have HQ6:=As hq6;have HO6:=As (HO2.out.below hb26);have q2:=hq6.c2;have g2:=hq6.frz 2;have z0:=(HRB2.out.up hb26).at.c0;clear hb6 hb26 hq6)
      | (go_at_call 159;obtain ⟨w7,hw7⟩ : ∃ w7,w6.setCell ⟨w.heap.size,2,none⟩ (.slice A6 l1.length c6) = w7:=⟨_,rfl⟩;have hs2:=HS2.out;have h26:=HB26.out.size;have hq7 : EgBox w7 w.heap.size { e with log:=l1 } (.slice Ad e.disk.length cd) (.slice Am e.mem.length cm) (.slice A6 l1.length c6):=(by rw [← hw7];exact HQ6.out.set2 _);have hrb7 : RcBox w7 (w.heap.size + 1) r1:=(by rw [← hw7];exact (HRB2.out.up HB26.out).far (by omega) _ _);have hp7 : EgBox w7 (w.heap.size + 1 + 1) zE (.slice none 0 0) (.slice none 0 0) (.slice none 0 0):=(by rw [← hw7];exact (HP2.out.up HB26.out).far (by omega) _ _);have ho7 : OwnE w7 w0.heap.size (.slice Ad e.disk.length cd) (.slice Am e.mem.length cm) (.slice A6 l1.length c6) { e with log:=l1 }:=(by rw [← hw7];exact ⟨(HO6.out.setEg HQ6.out 2 _).ex,Kd.R_lower (rs_egset HL6.out HQ6.out 2 _) (by have:=HB.out.size;omega)⟩);have hb7 : Below w.heap.size w w7:=(by rw [← hw7];exact (bt HB2.out HB26.out).setCell (p:=⟨w.heap.size,2,none⟩) (Nat.le_refl _) _);have HQ7:=As hq7;have HRB7:=As hrb7;have HP7:=As hp7;have HO7:=As ho7;have HB7:=As hb7;have HN7:=As (show w.heap.size + 3 ≤ w7.heap.size by (have : w7.heap.size = w6.heap.size:=(by rw [← hw7];simp));omega);rw [hw7];refine (l2Changes_is (k:=r1.kind) (b:=false) (by rw [HKD.out];exact HCH.out) _).mono ?_;rintro x w' ⟨rfl,rfl⟩;clear hw7 hs2 h26 hq7 hrb7 hp7 ho7 hb7 q2 g2 z0;have x0:=HQ7.out.c0;have x1:=HQ7.out.c1;have x2:=HQ7.out.c2;have x3:=HQ7.out.c3;have x4:=HQ7.out.c4;have y0:=HP7.out.c0;have y1:=HP7.out.c1;have y2:=HP7.out.c2;have y3:=HP7.out.c3;have y4:=HP7.out.c4;have f0:=HP7.out.frz 0;have f1:=HP7.out.frz 1;have f2:=HP7.out.frz 2;have f3:=HP7.out.frz 3;have f4:=HP7.out.frz 4))
    have HPZ:=HP7
    have HQZ:=HQ7
    have HOZ:=HO7
    have HBZ:=As (bt HB.out HB7.out)
    have HBZw:=HN7
    have HKZ:=As (show KeptM w (.slice Am e.mem.length cm) w7 from Kept.of_below HB7.out _)
    have hwz:=HBZw.out
    have hsz:=HB.out.size
    have hy:=HPZ.out.set5 { e with log:=l1 } (.slice Ad e.disk.length cd) (.slice Am e.mem.length cm) (.slice A6 l1.length c6)
    have h1:=HOZ.out.set5 (f:={ e with log:=l1 }) (xd:=.slice Ad e.disk.length cd) (xm:=(.slice Am e.mem.length cm)) (xl:=.slice A6 l1.length c6) HPZ.out
    have h2:=bel_set5 (g:=w.heap.size + 1 + 1) HBZ.out (by omega) { e with log:=l1 } (.slice Ad e.disk.length cd) (.slice Am e.mem.length cm) (.slice A6 l1.length c6)
    have z0:=hy.c0
    have z1:=hy.c1
    have z2:=hy.c2
    have z3:=hy.c3
    have z4:=hy.c4
    simp only at z0 z1 z2 z3 z4
    exact bodyPost_ret (v:=.tuple #[.agg #[.slice Ad e.disk.length cd,(.slice Am e.mem.length cm), .slice A6 l1.length c6, .int .i64 e.safe, .bool e.down], .bool true]) (by simp [results,Tryz.results125,go_sem,z0,z1,z2,z3,z4]) rfl ⟨.slice Ad e.disk.length cd,(.slice Am e.mem.length cm), .slice A6 l1.length c6,by rw [HEC.out],by rw [HEC.out];exact h1,h2,kept_set5 HKZ.out (by omega) _ _ _ _⟩
  · have HCH:=As hc
    obtain ⟨p,hpp⟩ : ∃ p : Nat,r.page = (p : Int):=⟨r.page.toNat,by have:=(HRT.out hc).1;omega⟩
    have hp5 : p < 5:=by have:=(HRT.out hc).2.1;omega
    have hsl:=(HRT.out hc).2.2
    obtain ⟨q,hqq⟩ : ∃ q,doR (pg e.mem p) r1 (l1.length : Nat) = q:=⟨_,rfl⟩
    have HEC : Aside0 (e.app r = { e with log:=l1,mem:=e.mem.set p q }):=⟨by rw [HE.out,if_pos hc,show r.page.toNat = p by omega, ← hqq,HLL.out]⟩
    have HQQ:=As hqq
    have HPP:=As (show r1.page = (p : Int) by rw [← HR1.out];exact hpp)
    have HSL:=As (show r1.slot < 3 by rw [← HR1.out];exact hsl)
    clear hc hpp hsl hqq
    go_wp2_with (first
      | (go_at_call 95;refine (l11Need_calls (c:=c6) (Below.refl w5.heap.size w5) (Kd.R_reads' HL5.out).2.2 HLOG.out).mono ?_;rw [HND.out];rintro x w6 ⟨rfl,hb6⟩;have hb26:=bt HB5.out hb6;have HB26:=As hb26;have HL6:=As (Kd.R_below HL5.out hb6);have hq6:=HQ2.out.up hb26;have HQ6:=As hq6;have HO6:=As (HO2.out.below hb26);have q2:=hq6.c2;have g2:=hq6.frz 2;have z0:=(HRB2.out.up hb26).at.c0;clear hb6 hb26 hq6)
      | (go_at_call 159;obtain ⟨w7,hw7⟩ : ∃ w7,w6.setCell ⟨w.heap.size,2,none⟩ (.slice A6 l1.length c6) = w7:=⟨_,rfl⟩;have hs2:=HS2.out;have h26:=HB26.out.size;have hq7 : EgBox w7 w.heap.size { e with log:=l1 } (.slice Ad e.disk.length cd) (.slice Am e.mem.length cm) (.slice A6 l1.length c6):=(by rw [← hw7];exact HQ6.out.set2 _);have hrb7 : RcBox w7 (w.heap.size + 1) r1:=(by rw [← hw7];exact (HRB2.out.up HB26.out).far (by omega) _ _);have hp7 : EgBox w7 (w.heap.size + 1 + 1) zE (.slice none 0 0) (.slice none 0 0) (.slice none 0 0):=(by rw [← hw7];exact (HP2.out.up HB26.out).far (by omega) _ _);have ho7 : OwnE w7 w0.heap.size (.slice Ad e.disk.length cd) (.slice Am e.mem.length cm) (.slice A6 l1.length c6) { e with log:=l1 }:=(by rw [← hw7];exact ⟨(HO6.out.setEg HQ6.out 2 _).ex,Kd.R_lower (rs_egset HL6.out HQ6.out 2 _) (by have:=HB.out.size;omega)⟩);have hb7 : Below w.heap.size w w7:=(by rw [← hw7];exact (bt HB2.out HB26.out).setCell (p:=⟨w.heap.size,2,none⟩) (Nat.le_refl _) _);have HQ7:=As hq7;have HRB7:=As hrb7;have HP7:=As hp7;have HO7:=As ho7;have HB7:=As hb7;have HN7:=As (show w.heap.size + 3 ≤ w7.heap.size by (have : w7.heap.size = w6.heap.size:=(by rw [← hw7];simp));omega);rw [hw7];refine (l2Changes_is (k:=r1.kind) (b:=true) (by rw [HKD.out];exact HCH.out) _).mono ?_;rintro x w' ⟨rfl,rfl⟩;clear hw7 hs2 h26 hq7 hrb7 hp7 ho7 hb7 q2 g2 z0))
    have hgm5:=HGM.out.1
    obtain ⟨okd,okm,hap,hpd,hpm⟩:=HO7.out.ex
    obtain ⟨gm,capm,hfm, -,hgml⟩:=psS_form hpm (by show 0 < e.mem.length;omega)
    injection hfm with hf1 hf2 hf3
    subst hf1 hf3
    have hpl : p < e.mem.length:=by omega
    have hp5i : (p : Int) < 5:=by omega
    obtain ⟨A2,c2,p0,p1,p2,pC, -⟩:=psS_at hpm p hpl
    have x1:=HQ7.out.c1
    obtain ⟨z0,z1,z2,z3,z4,z5,z6,z7⟩:=HRB7.out.at
    simp only [Nat.zero_add] at z1 z2 z3 z4 z5 z6 z7
    rw [HPP.out] at z2
    have HPC:=As pC
    have HPD:=As hpd
    have HPM:=As hpm
    have HAP:=As hap
    have HVL3:=As (geo_pg HGM.out hp5)
    have hcall : ∀ wx,Below w7.heap.size w7 wx → Calls Tryz.prog 160 #[(pg e.mem p).val A2 c2, .agg #[.int .i64 r1.kind, .int .i64 r1.tx, .int .i64 (p : Int), .int .i64 r1.slot, .int .i64 r1.old, .int .i64 r1.new, .int .i64 r1.prev, .int .i64 r1.next], .int .i64 (l1.length : Int)] wx (RetP wx q):=fun wx hb => by
      have h:=l2Do_calls (c:=c2) r1 (l1.length : Int) (by rw [HVL3.out];decide) (by rw [HVL3.out];exact HSL.out) hb HPC.out
      rw [show doR (pg e.mem p) r1 (l1.length : Int) = q from HQQ.out] at h
      unfold Rec.val at h
      rw [HPP.out] at h
      exact h
    have HCALL:=As hcall
    clear pC hpd hpm hap hgml hcall hf2
    refine reg_start (fun lx a wx => Below w7.heap.size w7 wx ∧ Sl 13 45 (fun v wx => ∃ u,v = q.own u ∧ OwnI wx w7.heap.size u q.vals) lx a wx) 15 rfl (by kernel_rfl) (⟨below_drew (Below.refl _ _),sl_start⟩) (fun HT => ?_)
    refine reg_val (i:=0) (v:=?_) HT rfl (by kernel_rfl) rfl (kA keeps_world (keeps_sl rfl rfl)) (by rfl) (fun _ _ _ h => h) (fun lx ax wx hS => ?_) ?_;rotate_left;(have hbx:=hS.1;clear hS;replace x1:=bc hbx x1;replace p0:=bc hbx p0;replace p1:=bc hbx p1;replace p2:=bc hbx p2;replace z0:=bc hbx z0;replace z1:=bc hbx z1;replace z2:=bc hbx z2;replace z3:=bc hbx z3;replace z4:=bc hbx z4;replace z5:=bc hbx z5;replace z6:=bc hbx z6;replace z7:=bc hbx z7;go_simp;with_reducible rfl);rotate_left;simp only [sc0,sc1]
    refine reg_val (i:=1) (v:=?_) HT rfl (by kernel_rfl) rfl (kA keeps_world (keeps_sl rfl rfl)) (by rfl) (fun _ _ _ h => h) (fun lx ax wx hS => ?_) ?_;rotate_left;(have hbx:=hS.1;clear hS;replace x1:=bc hbx x1;replace p0:=bc hbx p0;replace p1:=bc hbx p1;replace p2:=bc hbx p2;replace z0:=bc hbx z0;replace z1:=bc hbx z1;replace z2:=bc hbx z2;replace z3:=bc hbx z3;replace z4:=bc hbx z4;replace z5:=bc hbx z5;replace z6:=bc hbx z6;replace z7:=bc hbx z7;go_simp;with_reducible rfl);rotate_left;simp only [sc0,sc1]
    refine reg_val (i:=2) (v:=?_) HT rfl (by kernel_rfl) rfl (kA keeps_world (keeps_sl rfl rfl)) (by rfl) (fun _ _ _ h => h) (fun lx ax wx hS => ?_) ?_;rotate_left;(have hbx:=hS.1;clear hS;replace x1:=bc hbx x1;replace p0:=bc hbx p0;replace p1:=bc hbx p1;replace p2:=bc hbx p2;replace z0:=bc hbx z0;replace z1:=bc hbx z1;replace z2:=bc hbx z2;replace z3:=bc hbx z3;replace z4:=bc hbx z4;replace z5:=bc hbx z5;replace z6:=bc hbx z6;replace z7:=bc hbx z7;go_simp;with_reducible rfl);rotate_left;simp only [sc0,sc1]
    refine reg_val (i:=3) (v:=?_) HT rfl (by kernel_rfl) rfl (kA keeps_world (keeps_sl rfl rfl)) (by rfl) (fun _ _ _ h => h) (fun lx ax wx hS => ?_) ?_;rotate_left;(have hbx:=hS.1;clear hS;replace x1:=bc hbx x1;replace p0:=bc hbx p0;replace p1:=bc hbx p1;replace p2:=bc hbx p2;replace z0:=bc hbx z0;replace z1:=bc hbx z1;replace z2:=bc hbx z2;replace z3:=bc hbx z3;replace z4:=bc hbx z4;replace z5:=bc hbx z5;replace z6:=bc hbx z6;replace z7:=bc hbx z7;go_simp;with_reducible rfl);rotate_left;simp only [sc0,sc1]
    refine reg_val (i:=4) (v:=?_) HT rfl (by kernel_rfl) rfl (kA keeps_world (keeps_sl rfl rfl)) (by rfl) (fun _ _ _ h => h) (fun lx ax wx hS => ?_) ?_;rotate_left;(have hbx:=hS.1;clear hS;replace x1:=bc hbx x1;replace p0:=bc hbx p0;replace p1:=bc hbx p1;replace p2:=bc hbx p2;replace z0:=bc hbx z0;replace z1:=bc hbx z1;replace z2:=bc hbx z2;replace z3:=bc hbx z3;replace z4:=bc hbx z4;replace z5:=bc hbx z5;replace z6:=bc hbx z6;replace z7:=bc hbx z7;go_simp;with_reducible rfl);rotate_left;simp only [sc0,sc1]
    refine reg_val (i:=5) (v:=?_) HT rfl (by kernel_rfl) rfl (kA keeps_world (keeps_sl rfl rfl)) (by rfl) (fun _ _ _ h => h) (fun lx ax wx hS => ?_) ?_;rotate_left;(have hbx:=hS.1;clear hS;replace x1:=bc hbx x1;replace p0:=bc hbx p0;replace p1:=bc hbx p1;replace p2:=bc hbx p2;replace z0:=bc hbx z0;replace z1:=bc hbx z1;replace z2:=bc hbx z2;replace z3:=bc hbx z3;replace z4:=bc hbx z4;replace z5:=bc hbx z5;replace z6:=bc hbx z6;replace z7:=bc hbx z7;go_simp;with_reducible rfl);rotate_left;simp only [sc0,sc1]
    refine reg_val (i:=6) (v:=?_) HT rfl (by kernel_rfl) rfl (kA keeps_world (keeps_sl rfl rfl)) (by rfl) (fun _ _ _ h => h) (fun lx ax wx hS => ?_) ?_;rotate_left;(have hbx:=hS.1;clear hS;replace x1:=bc hbx x1;replace p0:=bc hbx p0;replace p1:=bc hbx p1;replace p2:=bc hbx p2;replace z0:=bc hbx z0;replace z1:=bc hbx z1;replace z2:=bc hbx z2;replace z3:=bc hbx z3;replace z4:=bc hbx z4;replace z5:=bc hbx z5;replace z6:=bc hbx z6;replace z7:=bc hbx z7;go_simp;with_reducible rfl);rotate_left;simp only [sc0,sc1]
    refine reg_val (i:=7) (v:=?_) HT rfl (by kernel_rfl) rfl (kA keeps_world (keeps_sl rfl rfl)) (by rfl) (fun _ _ _ h => h) (fun lx ax wx hS => ?_) ?_;rotate_left;(have hbx:=hS.1;clear hS;replace x1:=bc hbx x1;replace p0:=bc hbx p0;replace p1:=bc hbx p1;replace p2:=bc hbx p2;replace z0:=bc hbx z0;replace z1:=bc hbx z1;replace z2:=bc hbx z2;replace z3:=bc hbx z3;replace z4:=bc hbx z4;replace z5:=bc hbx z5;replace z6:=bc hbx z6;replace z7:=bc hbx z7;go_simp;with_reducible rfl);rotate_left;simp only [sc0,sc1]
    refine reg_val (i:=8) (v:=?_) HT rfl (by kernel_rfl) rfl (kA keeps_world (keeps_sl rfl rfl)) (by rfl) (fun _ _ _ h => h) (fun lx ax wx hS => ?_) ?_;rotate_left;(have hbx:=hS.1;clear hS;replace x1:=bc hbx x1;replace p0:=bc hbx p0;replace p1:=bc hbx p1;replace p2:=bc hbx p2;replace z0:=bc hbx z0;replace z1:=bc hbx z1;replace z2:=bc hbx z2;replace z3:=bc hbx z3;replace z4:=bc hbx z4;replace z5:=bc hbx z5;replace z6:=bc hbx z6;replace z7:=bc hbx z7;go_simp;with_reducible rfl);rotate_left;simp only [sc0,sc1]
    refine reg_val (i:=9) (v:=?_) HT rfl (by kernel_rfl) rfl (kA keeps_world (keeps_sl rfl rfl)) (by rfl) (fun _ _ _ h => h) (fun lx ax wx hS => ?_) ?_;rotate_left;(have hbx:=hS.1;clear hS;replace x1:=bc hbx x1;replace p0:=bc hbx p0;replace p1:=bc hbx p1;replace p2:=bc hbx p2;replace z0:=bc hbx z0;replace z1:=bc hbx z1;replace z2:=bc hbx z2;replace z3:=bc hbx z3;replace z4:=bc hbx z4;replace z5:=bc hbx z5;replace z6:=bc hbx z6;replace z7:=bc hbx z7;go_simp;with_reducible rfl);rotate_left;simp only [sc0,sc1]
    refine reg_val (i:=10) (v:=?_) HT rfl (by kernel_rfl) rfl (kA keeps_world (keeps_sl rfl rfl)) (by rfl) (fun _ _ _ h => h) (fun lx ax wx hS => ?_) ?_;rotate_left;(have hbx:=hS.1;clear hS;replace x1:=bc hbx x1;replace p0:=bc hbx p0;replace p1:=bc hbx p1;replace p2:=bc hbx p2;replace z0:=bc hbx z0;replace z1:=bc hbx z1;replace z2:=bc hbx z2;replace z3:=bc hbx z3;replace z4:=bc hbx z4;replace z5:=bc hbx z5;replace z6:=bc hbx z6;replace z7:=bc hbx z7;go_simp;with_reducible rfl);rotate_left;simp only [sc0,sc1]
    refine reg_val (i:=11) (v:=?_) HT rfl (by kernel_rfl) rfl (kA keeps_world (keeps_sl rfl rfl)) (by rfl) (fun _ _ _ h => h) (fun lx ax wx hS => ?_) ?_;rotate_left;(have hbx:=hS.1;clear hS;replace x1:=bc hbx x1;replace p0:=bc hbx p0;replace p1:=bc hbx p1;replace p2:=bc hbx p2;replace z0:=bc hbx z0;replace z1:=bc hbx z1;replace z2:=bc hbx z2;replace z3:=bc hbx z3;replace z4:=bc hbx z4;replace z5:=bc hbx z5;replace z6:=bc hbx z6;replace z7:=bc hbx z7;go_simp;with_reducible rfl);rotate_left;simp only [sc0,sc1]
    refine reg_val (i:=12) (v:=?_) HT rfl (by kernel_rfl) rfl (kA keeps_world (keeps_sl rfl rfl)) (by rfl) (fun _ _ _ h => h) (fun lx ax wx hS => ?_) ?_;rotate_left;(have hbx:=hS.1;clear hS;replace x1:=bc hbx x1;replace p0:=bc hbx p0;replace p1:=bc hbx p1;replace p2:=bc hbx p2;replace z0:=bc hbx z0;replace z1:=bc hbx z1;replace z2:=bc hbx z2;replace z3:=bc hbx z3;replace z4:=bc hbx z4;replace z5:=bc hbx z5;replace z6:=bc hbx z6;replace z7:=bc hbx z7;go_simp;with_reducible rfl);rotate_left;simp only [sc0,sc1]
    refine reg_only (i:=13) (f:=160) (args:=#[(pg e.mem p).val A2 c2, .agg #[.int .i64 r1.kind, .int .i64 r1.tx, .int .i64 (p : Int), .int .i64 r1.slot, .int .i64 r1.old, .int .i64 r1.new, .int .i64 r1.prev, .int .i64 r1.next], .int .i64 (l1.length : Int)]) (fun v => ∃ u,v = q.own u) rfl (by kernel_rfl) rfl Tryz.func160 (by kernel_rfl) rfl rfl (by rfl) (by simp only [List.map_toArray,List.map_cons,List.map_nil];rfl) (fun wx hS => (HCALL.out wx hS.1).mono (by rintro x w8 ⟨u,rfl,ho,hb⟩;exact ⟨_,rfl,⟨u,rfl⟩,bt hS.1 hb,fun _ => ⟨u,rfl,ho.lower hS.1.size⟩⟩)) (fun vx hg => ?_);simp only [sc0,sc1]
    obtain ⟨u,rfl⟩:=hg
    refine reg_val (i:=14) (v:=?_) HT rfl (by kernel_rfl) rfl (kA keeps_world (keeps_sl rfl rfl)) (by rfl) (fun _ _ _ h => h) (fun lx ax wx hS => ?_) ?_;rotate_left;(go_simp;with_reducible rfl);rotate_left;simp only [sc0,sc1]
    refine reg_tail (i:=15) (by kernel_rfl) rfl (fun wx hS => ?_)
    obtain ⟨h1,h3⟩:=hS
    obtain ⟨u1,hu1,hown⟩:=h3 (by kernel_rfl)
    have hu1 : q.own u = q.own u1:=hu1
    obtain rfl : u = u1:=by simpa using hu1
    refine wpOp_pagesS (ok:=okm) (w0:=w0) (N:=w7.heap.size) (q:=q) p rfl (.tmp 46) (.tmp 45) rfl (by rfl) rfl rfl rfl hown (by have:=HB.out.size;have:=HN7.out;omega) (Kd.S_old HPM.out h1) hpl (bt HB.out (bt HB7.out h1)) (fun w8 hO8 hB8 hg8 => ?_)
    refine regAt_end (by kernel_rfl) ?_
    have hd8:=Kd.S_old HPD.out h1
    have hty:=Kd.S_typed (Kd.S_below HPM.out h1) gm (by simp [Value.ownBlock])
    have he8:=OwnE.memset (e:={ e with log:=l1 }) HAP.out hd8 (Kd.R_below HO7.out.l h1) hown hO8 (pk_ok HPM.out gm (by simp [Value.ownBlock])) hg8 hty
    have hq8 : EgBox w8 w.heap.size { e with log:=l1,mem:=e.mem.set p q } (.slice Ad e.disk.length cd) (.slice (some ⟨gm,0,none⟩) e.mem.length cm) (.slice A6 l1.length c6):=(hg8.block _ (by have:=HN7.out;have:=h1.size;omega) (fun e2 => by injection e2 with e2;exact eg_apart HQ7.out HPM.out e2)).trans (HQ7.out.up h1)
    have hp8 : EgBox w8 (w.heap.size + 1 + 1) zE (.slice none 0 0) (.slice none 0 0) (.slice none 0 0):=(hg8.block _ (by have:=HN7.out;have:=h1.size;omega) (fun e2 => by injection e2 with e2;exact eg_apart HP7.out HPM.out e2)).trans (HP7.out.up h1)
    have HKZ:=As (show KeptM w (.slice (some ⟨gm,0,none⟩) e.mem.length cm) w8 from Kept.of_grown hg8 (Kept.of_below (bt HB7.out h1) _) (fun k hk => .inl (by simp only [Value.ownBlock];exact hk.symm)))
    have HPZ:=As hp8
    have HQZ:=As hq8
    have HOZ:=As he8
    have HBZ:=As hB8
    have HBZw : Aside0 (w.heap.size + 3 ≤ w8.heap.size):=⟨by have:=HN7.out;have:=h1.size;have:=hg8.size;omega⟩
    clear h1 h3 hu1 hown hO8 hB8 hg8 hd8 hty he8 hq8 hp8 x1 p0 p1 p2 z0 z1 z2 z3 z4 z5 z6 z7 hpl hgm5 hp5i hp5
    have y:=HPZ.out
    have y0:=y.c0
    have y1:=y.c1
    have y2:=y.c2
    have y3:=y.c3
    have y4:=y.c4
    have f0:=y.frz 0
    have f1:=y.frz 1
    have f2:=y.frz 2
    have f3:=y.frz 3
    have f4:=y.frz 4
    have x0:=HQZ.out.c0
    have x1:=HQZ.out.c1
    have x2:=HQZ.out.c2
    have x3:=HQZ.out.c3
    have x4:=HQZ.out.c4
    clear y
    go_wp2
    have hwz:=HBZw.out
    have hsz:=HB.out.size
    have hy:=HPZ.out.set5 { e with log:=l1,mem:=e.mem.set p q } (.slice Ad e.disk.length cd) (.slice (some ⟨gm,0,none⟩) e.mem.length cm) (.slice A6 l1.length c6)
    have h1:=HOZ.out.set5 (f:={ e with log:=l1,mem:=e.mem.set p q }) (xd:=.slice Ad e.disk.length cd) (xm:=(.slice (some ⟨gm,0,none⟩) e.mem.length cm)) (xl:=.slice A6 l1.length c6) HPZ.out
    have h2:=bel_set5 (g:=w.heap.size + 1 + 1) HBZ.out (by omega) { e with log:=l1,mem:=e.mem.set p q } (.slice Ad e.disk.length cd) (.slice (some ⟨gm,0,none⟩) e.mem.length cm) (.slice A6 l1.length c6)
    have z0:=hy.c0
    have z1:=hy.c1
    have z2:=hy.c2
    have z3:=hy.c3
    have z4:=hy.c4
    simp only at z0 z1 z2 z3 z4
    exact bodyPost_ret (v:=.tuple #[.agg #[.slice Ad e.disk.length cd,(.slice (some ⟨gm,0,none⟩) e.mem.length cm), .slice A6 l1.length c6, .int .i64 e.safe, .bool e.down], .bool true]) (by simp [results,Tryz.results125,go_sem,z0,z1,z2,z3,z4]) rfl ⟨.slice Ad e.disk.length cd,(.slice (some ⟨gm,0,none⟩) e.mem.length cm), .slice A6 l1.length c6,by rw [HEC.out],by rw [HEC.out];exact h1,h2,kept_set5 HKZ.out (by omega) _ _ _ _⟩
/-- An engine of the call's own; of what was there the row of pages in memory alone may have been written. -/
def RetEm (w0 w : World) (vm : Value) (e : Eng) (x : Ending) (w' : World) : Prop := ∃ vd' vm' vl',x = .returned (e.ag vd' vm' vl') ∧ OwnE w' w0.heap.size vd' vm' vl' e ∧ Below w0.heap.size w0 w' ∧ KeptM w vm w'
theorem reg_later5 {R : Value → Value → Value → Nat → Prop} {G : Prop} (h1 : (∀ a b c d,R a b c d) → G) (h2 : ∀ a b c d,R a b c d) : G:=h1 h2
/-- The log is as it was. -/
theorem OwnE.logC {w w1 : World} {b n c : Nat} {A : Option Addr} {vd vm : Value} {e : Eng} (h : OwnE w b vd vm (.slice A n c) e) (hk : KeptM w vm w1) : Kd.C kRec w1 A e.log.length e.log:=by
  obtain ⟨okd,okm, -, -,hm⟩:=h.ex
  have hr:=Kd.R_kept (Kd.R_tight rfl h.l) hk (fun k hx hy => by
    obtain ⟨c1,h1⟩:=rs_typed h.l k hx.symm
    obtain ⟨c2,h2⟩:=Kd.S_typed hm k hy.symm
    rw [h1] at h2
    injection h2 with h2
    injection h2 with _ h3
    exact absurd h3 (by decide))
  obtain ⟨A',c',h1, -,h2⟩:=Kd.R_reads hr
  injection h1 with h1
  subst h1
  exact h2
theorem step_facts {e : Eng} {tx : Int} (hs : StepOk e tx) : chgB (nextU e tx).kind = true → 0 ≤ (nextU e tx).page ∧ (nextU e tx).page < 5 ∧ (nextU e tx).slot < 3:=fun hc => by
  have h1:=hs.may hc
  simp only [recDoB,Bool.and_eq_true] at h1
  have h2:=chg_page h1.2.1 hc
  have h3 : (stepR e tx).page = (nextU e tx).page:=rfl
  have h4 : (stepR e tx).slot = (nextU e tx).slot:=rfl
  omega
theorem step_log {e : Eng} {tx : Int} (hs : StepOk e tx) : logOk (e.log ++ [prevR (nextU e tx) (lastN e.log (nextU e tx).tx e.log.length)]) = true:=hs.log'
theorem step_room {e : Eng} {tx : Int} (hs : StepOk e tx) : e.log.length + 1 + needAt (e.log ++ [prevR (nextU e tx) (lastN e.log (nextU e tx).tx e.log.length)]) (e.log.length + 1) ≤ 150:=hs.room
set_option maxRecDepth 100000 in
set_option maxHeartbeats 8000000 in
theorem l13Step_calls {w0 w : World} {e : Eng} {vd vm vl : Value} {tx : Int} (hs : StepOk e tx) (hb : Below w0.heap.size w0 w) (hr : OwnE w w0.heap.size vd vm vl e) : Calls Tryz.prog 102 #[e.ag vd vm vl, .int .i64 tx] w (RetEm w0 w vm (stepE e tx)):=by
  obtain ⟨Ad,cd,Am,cm,Al,cl,rfl,rfl,rfl,hcl,hrd⟩:=hr.reads
  obtain ⟨w1a,hw1a⟩ : ∃ w1a,w.alloc (e.obox (.slice Ad e.disk.length cd) (.slice Am e.mem.length cm) (.slice Al e.log.length cl)) = w1a:=⟨_,rfl⟩
  obtain ⟨w1,hw1⟩ : ∃ w1,w1a.alloc (zE.obox (.slice none 0 0) (.slice none 0 0) (.slice none 0 0)) = w1:=⟨_,rfl⟩
  have hza : w1a.heap.size = w.heap.size + 1:=by rw [← hw1a];exact size1 _ _
  have hz1 : w1.heap.size = w.heap.size + 2:=by rw [← hw1,size1,hza]
  have hba : Below w1a.heap.size w1a w1:=by rw [← hw1];exact bel_alloc (Below.refl _ _) _
  have hb1 : Below w.heap.size w w1:=by rw [← hw1, ← hw1a];exact bel_alloc (bel_alloc (Below.refl _ _) _) _
  have HQ1 : Aside0 (EgBox w1 w.heap.size e (.slice Ad e.disk.length cd) (.slice Am e.mem.length cm) (.slice Al e.log.length cl)):=⟨EgBox.up (by rw [← hw1a];exact EgBox.mk1 _ _ _ _ _) hba⟩
  have HP1 : Aside0 (EgBox w1 (w.heap.size + 1) zE (.slice none 0 0) (.slice none 0 0) (.slice none 0 0)):=⟨by rw [← hw1, ← hza];exact EgBox.mk1 _ _ _ _ _⟩
  have HW1 : Aside0 ((w.alloc (e.obox (.slice Ad e.disk.length cd) (.slice Am e.mem.length cm) (.slice Al e.log.length cl))).alloc (zE.obox (.slice none 0 0) (.slice none 0 0) (.slice none 0 0)) = w1):=⟨by rw [hw1a,hw1]⟩
  have HZ1s:=As hz1
  have HB1:=As hb1
  have HB:=As hb
  have HO1:=As (hr.below hb1)
  have HC1:=As (hrd.up hb1)
  have HS:=As hs
  have hlg:=logOk_len hs.log
  obtain ⟨ln,hln⟩ : ∃ ln : Nat,lastN e.log tx e.log.length = ln:=⟨_,rfl⟩
  have hlnl : ln ≤ e.log.length:=by rw [← hln];exact lastN_le _ _ _
  obtain ⟨k,hk⟩ : ∃ k : Nat,toUndoN e.log ln = k:=⟨_,rfl⟩
  have hkl : k ≤ e.log.length:=by rw [← hk];exact Nat.le_trans toUndoN_le hlnl
  have HLN:=As hln
  have HLL:=As hlnl
  have HK:=As hk
  obtain ⟨r,hnx⟩ : ∃ r,nextU e tx = r:=⟨_,rfl⟩
  have HNX : Aside0 (r = if k = 0 then ⟨5,tx,0,0,0,0,0,0⟩ else backR (rc e.log (k - 1)) 0):=⟨by rw [← hnx];unfold nextU;rw [show lastT e tx = ln from hln,hk]⟩
  have h1:=step_facts hs
  have h2:=step_log hs
  have h3:=step_room hs
  have hE : stepE e tx = e.app r:=by unfold stepE;rw [hnx]
  rw [hnx] at h1 h2 h3
  rw [hE]
  have HRT:=As h1
  have HLOG:=As h2
  have HROOM:=As h3
  have x0:=HQ1.out.c0
  have x1:=HQ1.out.c1
  have x2:=HQ1.out.c2
  have x3:=HQ1.out.c3
  have x4:=HQ1.out.c4
  have HGM:=As hs.geo
  clear hw1a hw1 hza hz1 hba hb1 hb hr hrd hs hln hlnl hk h1 h2 h3 hE hnx
  have hadd : ∀ wx vd' vm' vl',OwnE wx w0.heap.size vd' vm' vl' e → Below w0.heap.size w0 wx → Calls Tryz.prog 125 #[e.ag vd' vm' vl',r.val] wx (RetEBb w0 wx vm' (e.app r) true):=fun wx vd' vm' vl' ho hb => l12Add_calls r HGM.out HLOG.out HROOM.out HRT.out hb ho
  have HADD:=As hadd
  have hback : ∀ wx,Below w1.heap.size w1 wx → Calls Tryz.prog 161 #[.slice Al e.log.length cl, .int .i64 ln] wx fun x w' => x = .returned (.int .i64 k) ∧ Below w1.heap.size w1 w':=fun wx hb => by
    have:=l11Back_calls (c:=cl) HLL.out hb HC1.out.l HS.out.log
    rw [HK.out] at this
    exact this
  have HBACK:=As hback
  obtain ⟨E,hEE⟩ : ∃ E,e.app r = E:=⟨_,rfl⟩
  have HEE:=As hEE
  rw [hEE]
  clear hadd hback hEE
  rcases k with _ | k
  · have hr0 : r = ⟨5,tx,0,0,0,0,0,0⟩:=by rw [HNX.out,if_pos rfl]
    have HR0:=As hr0
    clear hr0
    go_enter Tryz.func102,Tryz.ntmps102
    go_wp2_with (first
      | (go_at_call 115;rw [show (w.alloc (Obj.cells #[Value.slice Ad e.disk.length cd,Value.slice Am e.mem.length cm,Value.slice Al e.log.length cl,Value.int IntKind.i64 e.safe,Value.bool e.down] 28)).alloc (Obj.cells #[Value.slice none 0 0,Value.slice none 0 0,Value.slice none 0 0,Value.int IntKind.i64 0,Value.bool false] 28) = w1 from HW1.out];refine (l3Last_is (c:=cl) HLN.out (Below.refl w1.heap.size w1) HC1.out.l).mono ?_;rintro x w' ⟨rfl,rfl⟩)
      | (go_at_call 161;refine (HBACK.out _ (Below.refl _ _)).mono ?_;rintro x w2 ⟨rfl,hb2⟩;have HB2:=As hb2;replace x0:=bc hb2 x0;replace x1:=bc hb2 x1;replace x2:=bc hb2 x2;replace x3:=bc hb2 x3;replace x4:=bc hb2 x4;clear hb2)
      | (go_at_call 125;have h:=HADD.out w2 _ _ _ (HO1.out.below HB2.out) (bt HB.out (bt HB1.out HB2.out));rw [HR0.out] at h;refine h.mono ?_;rw [← HR0.out,HEE.out];clear h;rintro x w3 ⟨ud,um,ul,rfl,ho,hb3,hk3⟩;obtain ⟨Bd,dd,Bm,dm,Bl,dl,rfl,rfl,rfl, -, -⟩:=ho.reads;have HO3:=As ho;have HB3:=As hb3;have HP3:=As ((HP1.out.up HB2.out).keptM (HO1.out.below HB2.out) hk3);have HK3:=As ((Kept.of_below (bt HB1.out HB2.out) (fun k => some k = (Value.slice Am e.mem.length cm).ownBlock)).then_ hk3 (fun k hk => .inl hk));have HN3:=As hk3.1;clear ho hb3 hk3 x0 x1 x2 x3 x4)
      | (refine wpl_box_eg (vd:=.slice Bd E.disk.length dd) (vm:=.slice Bm E.mem.length dm) (vl:=.slice Bl E.log.length dl) E ?_;intro w4 hb4 _ hq4;have HO4:=As (HO3.out.below hb4);have HB4:=As (bt HB3.out hb4);have HK4:=As (HK3.out.below hb4);have hp4:=HP3.out.up hb4;have HP4:=As hp4;have x0:=hq4.c0;have x1:=hq4.c1;have x2:=hq4.c2;have x3:=hq4.c3;have x4:=hq4.c4;have y0:=hp4.c0;have y1:=hp4.c1;have y2:=hp4.c2;have y3:=hp4.c3;have y4:=hp4.c4;have f0:=hp4.frz 0;have f1:=hp4.frz 1;have f2:=hp4.frz 2;have f3:=hp4.frz 3;have f4:=hp4.frz 4;clear hb4 hq4 hp4))
    have hy:=HP4.out.set5 E (.slice Bd E.disk.length dd) (.slice Bm E.mem.length dm) (.slice Bl E.log.length dl)
    have h1:=HO4.out.set5 (f:=E) (xd:=.slice Bd E.disk.length dd) (xm:=.slice Bm E.mem.length dm) (xl:=.slice Bl E.log.length dl) HP4.out
    have h2:=bel_set5 (g:=w.heap.size + 1) HB4.out (by have:=HB.out.size;omega) E (.slice Bd E.disk.length dd) (.slice Bm E.mem.length dm) (.slice Bl E.log.length dl)
    have h3:=kept_set5 (g:=w.heap.size + 1) HK4.out (by omega) E (.slice Bd E.disk.length dd) (.slice Bm E.mem.length dm) (.slice Bl E.log.length dl)
    have z0:=hy.c0
    have z1:=hy.c1
    have z2:=hy.c2
    have z3:=hy.c3
    have z4:=hy.c4
    exact bodyPost_ret (v:=E.ag (.slice Bd E.disk.length dd) (.slice Bm E.mem.length dm) (.slice Bl E.log.length dl)) (by simp [results,Tryz.results102,go_sem,z0,z1,z2,z3,z4]) rfl ⟨_,_,_,rfl,h1,h2,h3⟩
  · have hkk : k < e.log.length:=by omega
    obtain ⟨rb,hrb⟩ : ∃ rb,backR (rc e.log k) (ln : Int) = rb:=⟨_,rfl⟩
    have hr0 : rb = prevR r (ln : Int):=by rw [HNX.out,if_neg (by omega),Nat.add_sub_cancel, ← hrb];rfl
    have HRB:=As hrb
    have HADD2 : Aside0 (∀ wx,OwnE wx w0.heap.size (.slice Ad e.disk.length cd) (.slice Am e.mem.length cm) (.slice Al e.log.length cl) e → Below w0.heap.size w0 wx → Calls Tryz.prog 125 #[e.val Ad Am Al cd cm cl,rb.val] wx (RetEBb w0 wx (.slice Am e.mem.length cm) E true)):=⟨fun wx ho hb => by
      rw [hr0, ← HEE.out]
      exact l12Add_calls (prevR r (ln : Int)) HGM.out HLOG.out HROOM.out HRT.out hb ho⟩
    have hwr0 : IntKind.i64.wrap (k : Int) = (k : Int):=by simp (disch:=omega) only [IntWalk.i64_in]
    have hwr1 : IntKind.i64.wrap ((k : Int) + 1 - 1) = (k : Int):=by rw [show ((k : Int) + 1 - 1) = (k : Int) by omega];exact hwr0
    have hwr2 : IntKind.i64.wrap (((k + 1 : Nat) : Int) - 1) = (k : Int):=by rw [show (((k + 1 : Nat) : Int) - 1) = (k : Int) by omega];exact hwr0
    obtain ⟨ad,had, -⟩:=at_rec HC1.out.l k hkk
    subst had
    clear hrb hr0
    go_enter Tryz.func102,Tryz.ntmps102
    go_wp2_with (first
      | (go_at_call 115;rw [show (w.alloc (Obj.cells #[Value.slice Ad e.disk.length cd,Value.slice Am e.mem.length cm,Value.slice (some ad) e.log.length cl,Value.int IntKind.i64 e.safe,Value.bool e.down] 28)).alloc (Obj.cells #[Value.slice none 0 0,Value.slice none 0 0,Value.slice none 0 0,Value.int IntKind.i64 0,Value.bool false] 28) = w1 from HW1.out];refine (l3Last_is (c:=cl) HLN.out (Below.refl w1.heap.size w1) HC1.out.l).mono ?_;rintro x w' ⟨rfl,rfl⟩)
      | (go_at_call 161;refine (HBACK.out _ (Below.refl _ _)).mono ?_;rintro x w2 ⟨rfl,hb2⟩;have HB2:=As hb2;replace x0:=bc hb2 x0;replace x1:=bc hb2 x1;replace x2:=bc hb2 x2;replace x3:=bc hb2 x3;replace x4:=bc hb2 x4;clear hb2))
    have HO2:=As (HO1.out.below HB2.out)
    have HQ2:=As (HQ1.out.up HB2.out)
    have HP2:=As (HP1.out.up HB2.out)
    have HW2:=As (bt HB1.out HB2.out)
    have HZ2 : Aside0 (w.heap.size + 2 ≤ w2.heap.size):=⟨by have:=HZ1s.out;have:=HB2.out.size;omega⟩
    clear x0 x1 x2 x3 x4
    refine reg_start (fun lx a wx => (Below w0.heap.size w0 wx ∧ KeptM w2 (.slice Am e.mem.length cm) wx) ∧ (Un 9 (fun wx => Below w2.heap.size w2 wx) lx a wx ∧ (Sl 9 39 (fun v wx => ∃ ud um ul,v = .tuple #[E.ag ud um ul, .bool true] ∧ OwnE wx w0.heap.size ud um ul E) lx a wx ∧ (Pre 14 13 9 (fun _ => True) (fun v wx => ∃ B,v = ptr B ∧ w2.heap.size ≤ B ∧ EgBox wx B zE (.slice none 0 0) (.slice none 0 0) (.slice none 0 0)) lx a wx ∧ Sl 14 9 (fun v wx => ∃ B ud um ul,v = ptr B ∧ w2.heap.size ≤ B ∧ EgBox wx B E ud um ul ∧ OwnE wx w0.heap.size ud um ul E) lx a wx)))) 16 rfl (by kernel_rfl) (⟨⟨below_drew (bt HB.out HW2.out),Kept.drew (Kept.refl _ _)⟩,fun _ => below_drew (Below.refl _ _),sl_start,pre_start trivial,sl_start⟩) (fun HT => ?_)
    refine reg_val (i:=0) (v:=?_) HT rfl (by kernel_rfl) rfl (kA keeps_world (kA (keeps_un rfl) (kA (keeps_sl rfl rfl) (kA (keeps_pre rfl rfl rfl) (keeps_sl rfl rfl))))) (by rfl) (fun _ _ _ h => h) (fun lx ax wx hS => ?_) ?_;rotate_left;(have hk:=hS.1.2;clear hS;have hq:=HQ2.out.keptM HO2.out hk;have x0:=hq.c0;have x1:=hq.c1;have x2:=hq.c2;have x3:=hq.c3;have x4:=hq.c4;obtain ⟨ad',he',QR⟩:=at_rec (HO2.out.logC hk) k hkk;(injection he' with he';subst he');obtain ⟨z0,z1,z2,z3,z4,z5,z6,z7⟩:=QR;go_simp;with_reducible rfl);rotate_left;simp only [sc0,sc1]
    refine reg_val (i:=1) (v:=?_) HT rfl (by kernel_rfl) rfl (kA keeps_world (kA (keeps_un rfl) (kA (keeps_sl rfl rfl) (kA (keeps_pre rfl rfl rfl) (keeps_sl rfl rfl))))) (by rfl) (fun _ _ _ h => h) (fun lx ax wx hS => ?_) ?_;rotate_left;(have hk:=hS.1.2;clear hS;have hq:=HQ2.out.keptM HO2.out hk;have x0:=hq.c0;have x1:=hq.c1;have x2:=hq.c2;have x3:=hq.c3;have x4:=hq.c4;obtain ⟨ad',he',QR⟩:=at_rec (HO2.out.logC hk) k hkk;(injection he' with he';subst he');obtain ⟨z0,z1,z2,z3,z4,z5,z6,z7⟩:=QR;go_simp;with_reducible rfl);rotate_left;simp only [sc0,sc1]
    refine reg_val (i:=2) (v:=?_) HT rfl (by kernel_rfl) rfl (kA keeps_world (kA (keeps_un rfl) (kA (keeps_sl rfl rfl) (kA (keeps_pre rfl rfl rfl) (keeps_sl rfl rfl))))) (by rfl) (fun _ _ _ h => h) (fun lx ax wx hS => ?_) ?_;rotate_left;(have hk:=hS.1.2;clear hS;have hq:=HQ2.out.keptM HO2.out hk;have x0:=hq.c0;have x1:=hq.c1;have x2:=hq.c2;have x3:=hq.c3;have x4:=hq.c4;obtain ⟨ad',he',QR⟩:=at_rec (HO2.out.logC hk) k hkk;(injection he' with he';subst he');obtain ⟨z0,z1,z2,z3,z4,z5,z6,z7⟩:=QR;go_simp;with_reducible rfl);rotate_left;simp only [sc0,sc1]
    refine reg_val (i:=3) (v:=?_) HT rfl (by kernel_rfl) rfl (kA keeps_world (kA (keeps_un rfl) (kA (keeps_sl rfl rfl) (kA (keeps_pre rfl rfl rfl) (keeps_sl rfl rfl))))) (by rfl) (fun _ _ _ h => h) (fun lx ax wx hS => ?_) ?_;rotate_left;(have hk:=hS.1.2;clear hS;have hq:=HQ2.out.keptM HO2.out hk;have x0:=hq.c0;have x1:=hq.c1;have x2:=hq.c2;have x3:=hq.c3;have x4:=hq.c4;obtain ⟨ad',he',QR⟩:=at_rec (HO2.out.logC hk) k hkk;(injection he' with he';subst he');obtain ⟨z0,z1,z2,z3,z4,z5,z6,z7⟩:=QR;go_simp;with_reducible rfl);rotate_left;simp only [sc0,sc1]
    refine reg_val (i:=4) (v:=?_) HT rfl (by kernel_rfl) rfl (kA keeps_world (kA (keeps_un rfl) (kA (keeps_sl rfl rfl) (kA (keeps_pre rfl rfl rfl) (keeps_sl rfl rfl))))) (by rfl) (fun _ _ _ h => h) (fun lx ax wx hS => ?_) ?_;rotate_left;(have hk:=hS.1.2;clear hS;have hq:=HQ2.out.keptM HO2.out hk;have x0:=hq.c0;have x1:=hq.c1;have x2:=hq.c2;have x3:=hq.c3;have x4:=hq.c4;obtain ⟨ad',he',QR⟩:=at_rec (HO2.out.logC hk) k hkk;(injection he' with he';subst he');obtain ⟨z0,z1,z2,z3,z4,z5,z6,z7⟩:=QR;go_simp;with_reducible rfl);rotate_left;simp only [sc0,sc1]
    refine reg_val (i:=5) (v:=?_) HT rfl (by kernel_rfl) rfl (kA keeps_world (kA (keeps_un rfl) (kA (keeps_sl rfl rfl) (kA (keeps_pre rfl rfl rfl) (keeps_sl rfl rfl))))) (by rfl) (fun _ _ _ h => h) (fun lx ax wx hS => ?_) ?_;rotate_left;(have hk:=hS.1.2;clear hS;have hq:=HQ2.out.keptM HO2.out hk;have x0:=hq.c0;have x1:=hq.c1;have x2:=hq.c2;have x3:=hq.c3;have x4:=hq.c4;obtain ⟨ad',he',QR⟩:=at_rec (HO2.out.logC hk) k hkk;(injection he' with he';subst he');obtain ⟨z0,z1,z2,z3,z4,z5,z6,z7⟩:=QR;go_simp;with_reducible rfl);rotate_left;simp only [sc0,sc1]
    refine reg_val (i:=6) (v:=?_) HT rfl (by kernel_rfl) rfl (kA keeps_world (kA (keeps_un rfl) (kA (keeps_sl rfl rfl) (kA (keeps_pre rfl rfl rfl) (keeps_sl rfl rfl))))) (by rfl) (fun _ _ _ h => h) (fun lx ax wx hS => ?_) ?_;rotate_left;(have hk:=hS.1.2;clear hS;have hq:=HQ2.out.keptM HO2.out hk;have x0:=hq.c0;have x1:=hq.c1;have x2:=hq.c2;have x3:=hq.c3;have x4:=hq.c4;obtain ⟨ad',he',QR⟩:=at_rec (HO2.out.logC hk) k hkk;(injection he' with he';subst he');obtain ⟨z0,z1,z2,z3,z4,z5,z6,z7⟩:=QR;go_simp;with_reducible rfl);rotate_left;simp only [sc0,sc1]
    refine reg_val (i:=7) (v:=?_) HT rfl (by kernel_rfl) rfl (kA keeps_world (kA (keeps_un rfl) (kA (keeps_sl rfl rfl) (kA (keeps_pre rfl rfl rfl) (keeps_sl rfl rfl))))) (by rfl) (fun _ _ _ h => h) (fun lx ax wx hS => ?_) ?_;rotate_left;(have hk:=hS.1.2;clear hS;have hq:=HQ2.out.keptM HO2.out hk;have x0:=hq.c0;have x1:=hq.c1;have x2:=hq.c2;have x3:=hq.c3;have x4:=hq.c4;obtain ⟨ad',he',QR⟩:=at_rec (HO2.out.logC hk) k hkk;(injection he' with he';subst he');obtain ⟨z0,z1,z2,z3,z4,z5,z6,z7⟩:=QR;go_simp;with_reducible rfl);rotate_left;simp only [sc0,sc1]
    refine reg_call (i:=8) (f:=162) (v:=rb.val) (args:=#[(rc e.log k).val, .int .i64 ln]) HT rfl (by kernel_rfl) rfl Tryz.func162 (by kernel_rfl) rfl rfl (kA keeps_world (kA (keeps_un rfl) (kA (keeps_sl rfl rfl) (kA (keeps_pre rfl rfl rfl) (keeps_sl rfl rfl))))) (by rfl) (fun _ _ _ h => h) (by simp only [List.map_toArray,List.map_cons,List.map_nil];rfl) (fun lx ax wx hS => (HRB.out ▸ l2Back_calls (rc e.log k) (ln : Int) wx : Calls Tryz.prog 162 #[(rc e.log k).val, .int .i64 ln] wx fun e w' => e = .returned rb.val ∧ Below wx.heap.size wx w').mono fun _ w' h => ⟨h.1,⟨bt hS.1.1 h.2,hS.1.2.below h.2⟩,fun h9 => bt (hS.2.1 h9) h.2,fun h9 => (hS.2.2.1 h9).elim fun a' q => q.elim fun b' q => q.elim fun c' q => ⟨a',b',c',q.1,q.2.below h.2⟩,fun h9 => ⟨trivial,fun h8 => ((hS.2.2.2.1 h9).2 h8).elim fun B q => ⟨B,q.1,q.2.1,q.2.2.up h.2⟩⟩,fun h9 => (hS.2.2.2.2 h9).elim fun B q => q.elim fun a' q => q.elim fun b' q => q.elim fun c' q => ⟨B,a',b',c',q.1,q.2.1,q.2.2.1.up h.2,q.2.2.2.below h.2⟩⟩) ?_;simp only [sc0,sc1]
    apply reg_later5
    · intro hrest
      refine reg_each [9,13] (by kernel_rfl) (fun i hi wx hS => ?_)
      rcases List.mem_cons.1 hi with rfl | hi
      · clear hi
        refine wpOp_only (f:=125) (args:=#[e.val Ad Am (some ad) cd cm cl,rb.val]) rfl rfl Tryz.func125 (by kernel_rfl) rfl rfl (by rfl) (by simp only [List.map_toArray,List.map_cons,List.map_nil];rfl) ((HADD2.out wx (HO2.out.below (hS.2.1 (by kernel_rfl))) hS.1.1).mono ?_)
        rintro x w6 ⟨ud,um,ul,rfl,ho,hb,hk⟩
        refine ⟨_,rfl,⟨⟨hb,hS.1.2.then_ hk (fun k hk => .inl hk)⟩,fun h => (no_yes (by kernel_rfl) h).elim,fun _ => ⟨ud,um,ul,rfl,ho⟩,fun _ => ⟨trivial,fun h => (no_yes h (by kernel_rfl)).elim⟩,fun h => (no_yes h (by kernel_rfl)).elim⟩,?_⟩
        clear hS ho hb hk
        simp only [sc0,sc1]
        refine reg_val (i:=10) (v:=?_) HT rfl (by kernel_rfl) rfl (kA keeps_world (kA (keeps_un rfl) (kA (keeps_sl rfl rfl) (kA (keeps_pre rfl rfl rfl) (keeps_sl rfl rfl))))) (by rfl) (fun _ _ _ h => h) (fun lx ax wx hS => ?_) ?_;rotate_left;(go_simp;with_reducible rfl);rotate_left;simp only [sc0,sc1]
        refine reg_val (i:=11) (v:=?_) HT rfl (by kernel_rfl) rfl (kA keeps_world (kA (keeps_un rfl) (kA (keeps_sl rfl rfl) (kA (keeps_pre rfl rfl rfl) (keeps_sl rfl rfl))))) (by rfl) (fun _ _ _ h => h) (fun lx ax wx hS => ?_) ?_;rotate_left;(go_simp;with_reducible rfl);rotate_left;simp only [sc0,sc1]
        refine reg_val (i:=12) (v:=?_) HT rfl (by kernel_rfl) rfl (kA keeps_world (kA (keeps_un rfl) (kA (keeps_sl rfl rfl) (kA (keeps_pre rfl rfl rfl) (keeps_sl rfl rfl))))) (by rfl) (fun _ _ _ h => h) (fun lx ax wx hS => ?_) ?_;rotate_left;(go_simp;with_reducible rfl);rotate_left;simp only [sc0,sc1]
        refine reg_each [13] (by kernel_rfl) (fun i hi wx hS => ?_)
        obtain rfl:=List.mem_singleton.1 hi
        clear hi
        have hbx : Below wx.heap.size wx (wx.alloc (zE.obox (.slice none 0 0) (.slice none 0 0) (.slice none 0 0))):=bel_alloc (Below.refl _ _) _
        refine wpOp_valL (w1:=wx.alloc (zE.obox (.slice none 0 0) (.slice none 0 0) (.slice none 0 0))) (ptr wx.heap.size) rfl rfl (by rfl) (by go_simp;rfl) ?_
        refine ⟨⟨⟨bt hS.1.1 hbx,hS.1.2.below hbx⟩,fun h => (no_yes (by kernel_rfl) h).elim,fun _ => (hS.2.2.1 (by kernel_rfl)).elim fun a' h' => h'.elim fun b' h' => h'.elim fun c' h' => ⟨a',b',c',h'.1,h'.2.below hbx⟩,fun _ => ⟨trivial,fun _ => ⟨wx.heap.size,rfl,hS.1.2.1,EgBox.mk1 wx zE _ _ _⟩⟩,fun h => (no_yes h (by kernel_rfl)).elim⟩,?_⟩
        obtain ⟨B,hB⟩ : ∃ B,wx.heap.size = B:=⟨_,rfl⟩
        rw [hB]
        clear hB hS hbx
        simp only [sc0,sc1]
        exact reg_perm (done := [13,12,11,10,9,8,7,6,5,4,3,2,1,0]) (by kernel_rfl) (hrest ud um ul B)
      · obtain rfl:=List.mem_singleton.1 hi
        clear hi
        have hbx : Below wx.heap.size wx (wx.alloc (zE.obox (.slice none 0 0) (.slice none 0 0) (.slice none 0 0))):=bel_alloc (Below.refl _ _) _
        refine wpOp_valL (w1:=wx.alloc (zE.obox (.slice none 0 0) (.slice none 0 0) (.slice none 0 0))) (ptr wx.heap.size) rfl rfl (by rfl) (by go_simp;rfl) ?_
        refine ⟨⟨⟨bt hS.1.1 hbx,hS.1.2.below hbx⟩,fun h => bt (hS.2.1 h) hbx,fun h => (no_yes h (by kernel_rfl)).elim,fun _ => ⟨trivial,fun _ => ⟨wx.heap.size,rfl,hS.1.2.1,EgBox.mk1 wx zE _ _ _⟩⟩,fun h => (no_yes h (by kernel_rfl)).elim⟩,?_⟩
        obtain ⟨B,hB⟩ : ∃ B,wx.heap.size = B:=⟨_,rfl⟩
        rw [hB]
        clear hB hS hbx
        simp only [sc0,sc1]
        refine reg_each [9] (by kernel_rfl) (fun i hi wx hS => ?_)
        obtain rfl:=List.mem_singleton.1 hi
        clear hi
        refine wpOp_only (f:=125) (args:=#[e.val Ad Am (some ad) cd cm cl,rb.val]) rfl rfl Tryz.func125 (by kernel_rfl) rfl rfl (by rfl) (by simp only [List.map_toArray,List.map_cons,List.map_nil];rfl) ((HADD2.out wx (HO2.out.below (hS.2.1 (by kernel_rfl))) hS.1.1).mono ?_)
        rintro x w6 ⟨ud,um,ul,rfl,ho,hb,hk⟩
        refine ⟨_,rfl,⟨⟨hb,hS.1.2.then_ hk (fun k hk => .inl hk)⟩,fun h => (no_yes (by kernel_rfl) h).elim,fun _ => ⟨ud,um,ul,rfl,ho⟩,fun _ => ⟨trivial,fun _ => ((hS.2.2.2.1 (by kernel_rfl)).2 (by kernel_rfl)).elim fun B' h' => ⟨B',h'.1,h'.2.1,h'.2.2.keptM (HO2.out.below (hS.2.1 (by kernel_rfl))) hk⟩⟩,fun h => (no_yes h (by kernel_rfl)).elim⟩,?_⟩
        clear hS ho hb hk
        simp only [sc0,sc1]
        refine reg_val (i:=10) (v:=?_) HT rfl (by kernel_rfl) rfl (kA keeps_world (kA (keeps_un rfl) (kA (keeps_sl rfl rfl) (kA (keeps_pre rfl rfl rfl) (keeps_sl rfl rfl))))) (by rfl) (fun _ _ _ h => h) (fun lx ax wx hS => ?_) ?_;rotate_left;(go_simp;with_reducible rfl);rotate_left;simp only [sc0,sc1]
        refine reg_val (i:=11) (v:=?_) HT rfl (by kernel_rfl) rfl (kA keeps_world (kA (keeps_un rfl) (kA (keeps_sl rfl rfl) (kA (keeps_pre rfl rfl rfl) (keeps_sl rfl rfl))))) (by rfl) (fun _ _ _ h => h) (fun lx ax wx hS => ?_) ?_;rotate_left;(go_simp;with_reducible rfl);rotate_left;simp only [sc0,sc1]
        refine reg_val (i:=12) (v:=?_) HT rfl (by kernel_rfl) rfl (kA keeps_world (kA (keeps_un rfl) (kA (keeps_sl rfl rfl) (kA (keeps_pre rfl rfl rfl) (keeps_sl rfl rfl))))) (by rfl) (fun _ _ _ h => h) (fun lx ax wx hS => ?_) ?_;rotate_left;(go_simp;with_reducible rfl);rotate_left;simp only [sc0,sc1]
        exact reg_perm (done := [13,12,11,10,9,8,7,6,5,4,3,2,1,0]) (by kernel_rfl) (hrest ud um ul B)
    intro ud um ul B
    refine reg_each [14] (by kernel_rfl) (fun i hi wx hS => ?_)
    obtain rfl:=List.mem_singleton.1 hi
    clear hi
    obtain ⟨⟨h1,h2⟩, -,h3,h4, -⟩:=hS
    obtain ⟨ud',um',ul',hu',hown⟩:=h3 (by kernel_rfl)
    have hu' : Value.tuple #[E.ag ud um ul, .bool true] = .tuple #[E.ag ud' um' ul', .bool true]:=hu'
    obtain ⟨rfl,rfl,rfl⟩ : ud = ud' ∧ um = um' ∧ ul = ul':=by simpa using hu'
    obtain ⟨B',hB',hN,hP⟩:=(h4 (by kernel_rfl)).2 (by kernel_rfl)
    have hB' : ptr B = ptr B':=hB'
    obtain rfl : B = B':=by simpa using hB'
    obtain ⟨Bd,dd,Bm,dm,Bl,dl,rfl,rfl,rfl, -, -⟩:=hown.reads
    have y0:=hP.c0
    have y1:=hP.c1
    have y2:=hP.c2
    have y3:=hP.c3
    have y4:=hP.c4
    have f0:=hP.frz 0
    have f1:=hP.frz 1
    have f2:=hP.frz 2
    have f3:=hP.frz 3
    have f4:=hP.frz 4
    refine wpOp_skip (w1:=Go.Proofs.YtlmlcnokiipilabGreat.set5 wx B E (.slice Bd E.disk.length dd) (.slice Bm E.mem.length dm) (.slice Bl E.log.length dl)) rfl (by rfl) (by go_simp) ?_
    have hP5:=hP.set5 E (.slice Bd E.disk.length dd) (.slice Bm E.mem.length dm) (.slice Bl E.log.length dl)
    have ho5:=hown.set5 (f:=E) (xd:=.slice Bd E.disk.length dd) (xm:=.slice Bm E.mem.length dm) (xl:=.slice Bl E.log.length dl) hP
    have hb5:=bel_set5 (g:=B) h1 (by have:=HB.out.size;have:=HZ2.out;omega) E (.slice Bd E.disk.length dd) (.slice Bm E.mem.length dm) (.slice Bl E.log.length dl)
    have hk5:=kept_set5 (g:=B) h2 hN E (.slice Bd E.disk.length dd) (.slice Bm E.mem.length dm) (.slice Bl E.log.length dl)
    refine ⟨⟨⟨hb5,hk5⟩,fun h => (no_yes (by kernel_rfl) h).elim,fun _ => ⟨_,_,_,rfl,ho5⟩,fun h => (no_yes (by kernel_rfl) h).elim,fun _ => ⟨B,_,_,_,rfl,hN,hP5,ho5⟩⟩,?_⟩
    clear h1 h2 h3 h4 hu' hown hB' hN hP y0 y1 y2 y3 y4 f0 f1 f2 f3 f4 hP5 ho5 hb5 hk5
    refine reg_val (i:=15) (v:=?_) HT rfl (by kernel_rfl) rfl (kA keeps_world (kA (keeps_un rfl) (kA (keeps_sl rfl rfl) (kA (keeps_pre rfl rfl rfl) (keeps_sl rfl rfl))))) (by rfl) (fun _ _ _ h => h) (fun lx ax wx hS => ?_) ?_;rotate_left;(go_simp;with_reducible rfl);rotate_left;simp only [sc0,sc1]
    refine reg_end (by kernel_rfl) (fun w5 hS => ?_)
    obtain ⟨⟨hb5,hk5⟩, -, -, -,h4⟩:=hS
    obtain ⟨B',ud',um',ul',hB',hN,hP5,ho5⟩:=h4 (by kernel_rfl)
    have hB' : ptr B = ptr B':=hB'
    obtain rfl : B = B':=by simpa using hB'
    obtain ⟨Ed,n1,Em,n2,El,n3,rfl,rfl,rfl, -, -⟩:=ho5.reads
    have hp:=HP2.out.keptM HO2.out hk5
    have y0:=hp.c0
    have y1:=hp.c1
    have y2:=hp.c2
    have y3:=hp.c3
    have y4:=hp.c4
    have f0:=hp.frz 0
    have f1:=hp.frz 1
    have f2:=hp.frz 2
    have f3:=hp.frz 3
    have f4:=hp.frz 4
    have x0:=hP5.c0
    have x1:=hP5.c1
    have x2:=hP5.c2
    have x3:=hP5.c3
    have x4:=hP5.c4
    have HX:=As (And.intro hb5 (And.intro hk5 (And.intro ho5 hp)))
    clear h4 hB' hN hP5 ho5 hb5 hk5 hp
    go_wp2
    have hy:=HX.out.2.2.2.set5 E (.slice Ed E.disk.length n1) (.slice Em E.mem.length n2) (.slice El E.log.length n3)
    have h1:=HX.out.2.2.1.set5 (f:=E) (xd:=.slice Ed E.disk.length n1) (xm:=.slice Em E.mem.length n2) (xl:=.slice El E.log.length n3) HX.out.2.2.2
    have h2:=bel_set5 (g:=w.heap.size + 1) HX.out.1 (by have:=HB.out.size;omega) E (.slice Ed E.disk.length n1) (.slice Em E.mem.length n2) (.slice El E.log.length n3)
    have h3:=kept_set5 (g:=w.heap.size + 1) ((Kept.of_below HW2.out (fun k => some k = (Value.slice Am e.mem.length cm).ownBlock)).then_ HX.out.2.1 (fun k hk => .inl hk)) (by omega) E (.slice Ed E.disk.length n1) (.slice Em E.mem.length n2) (.slice El E.log.length n3)
    have z0:=hy.c0
    have z1:=hy.c1
    have z2:=hy.c2
    have z3:=hy.c3
    have z4:=hy.c4
    exact bodyPost_ret (v:=E.ag (.slice Ed E.disk.length n1) (.slice Em E.mem.length n2) (.slice El E.log.length n3)) (by simp [results,Tryz.results102,go_sem,z0,z1,z2,z3,z4]) rfl ⟨_,_,_,rfl,h1,h2,h3⟩
theorem first_is {e : Eng} {j : Nat} (h1 : 1 ≤ j) (h3 : j ≤ 3) (hp : ∀ i : Nat,1 ≤ i → i < j → lastT e (i : Int) = 0) (hj : lastT e (j : Int) ≠ 0) : firstO e = j:=by
  unfold firstO
  have hj' : j = 1 ∨ j = 2 ∨ j = 3:=by omega
  rcases hj' with rfl | rfl | rfl
  · rw [if_pos (show lastT e 1 ≠ 0 from hj)];rfl
  · rw [if_neg (fun h => h (hp 1 (by omega) (by omega))),if_pos (show lastT e 2 ≠ 0 from hj)];rfl
  · rw [if_neg (fun h => h (hp 1 (by omega) (by omega))),if_neg (fun h => h (hp 2 (by omega) (by omega))),if_pos (show lastT e 3 ≠ 0 from hj)];rfl
theorem first_no {e : Eng} (hp : ∀ i : Nat,1 ≤ i → i < 4 → lastT e (i : Int) = 0) : firstO e = 0:=by
  unfold firstO
  rw [if_neg (fun h => h (hp 1 (by omega) (by omega))),if_neg (fun h => h (hp 2 (by omega) (by omega))),if_neg (fun h => h (hp 3 (by omega) (by omega)))]
set_option maxHeartbeats 4000000 in
theorem l21First_calls {w0 w : World} {A : Option Addr} {c : Nat} {e : Eng} (hb : Below w0.heap.size w0 w) (hr : Kd.C kRec w0 A e.log.length e.log) : Calls Tryz.prog 101 #[.slice A e.log.length c] w fun x w' => x = .returned (.int .i64 (firstO e)) ∧ w = w':=by
  have HR:=As (C_up hr hb)
  obtain ⟨f,hf⟩ : ∃ f,firstO e = f:=⟨_,rfl⟩
  rw [hf]
  have HF:=As hf
  clear hr hb hf
  go_enter Tryz.func101,Tryz.ntmps101
  go_wp2
  go_loopw [3] (fun t wr => ∃ j : Nat,1 ≤ j ∧ j ≤ 4 ∧ t = .int .i64 (j : Int) ∧ Aside0 (∀ i : Nat,1 ≤ i → i < j → lastT e (i : Int) = 0) ∧ wr = w) (fun t _ => (4 - intOf t).toNat)
  case atStart => exact ⟨1,by omega,by omega,rfl,⟨fun i h1 h2 => by omega⟩,by first | rfl | trivial⟩
  case round =>
    obtain ⟨j,hj1,hj4,rfl,HP,rfl⟩:=hrel
    by_cases h3 : j ≤ 3
    · obtain ⟨m,hm⟩ : ∃ m : Nat,lastN e.log (j : Int) e.log.length = m:=⟨_,rfl⟩
      have HM:=As hm
      clear hm
      rcases m with _ | m
      · go_wp2_with (go_at_call 115;refine (l3Last_is (c:=c) HM.out (Below.refl _ _) HR.out).mono ?_;rintro x w' ⟨rfl,rfl⟩)
        go_roundw
        case rel => exact ⟨j + 1,by omega,by omega,by go_num,⟨fun i h1 h2 => by
          by_cases hij : i = j
          · rw [hij];exact HM.out
          · exact HP.out i h1 (by omega)⟩,by first | rfl | trivial⟩
        case measure => simp [intOf];omega
      · have HE:=As (show f = (j : Int) by rw [← HF.out];exact first_is hj1 h3 HP.out (by rw [show lastT e (j : Int) = m + 1 from HM.out];exact Nat.succ_ne_zero m))
        have hpos : decide ((0 : Int) < ((m + 1 : Nat) : Int)) = true:=by simp
        go_wp2_with (go_at_call 115;refine (l3Last_is (c:=c) HM.out (Below.refl _ _) HR.out).mono ?_;rintro x w' ⟨rfl,rfl⟩)
        go_ret
        exact ⟨ret_int HE.out.symm,rfl⟩
    · have HE:=As (show f = 0 by rw [← HF.out];exact first_no (fun i h1 h2 => HP.out i h1 (by omega)))
      go_wp2
      go_ret
      exact ⟨ret_int HE.out.symm,rfl⟩
theorem first_up {e : Eng} (h : firstO e ≠ 0) : 0 < firstO e:=by
  have:=(firstO_some h).1
  omega
/-- Whatever rose, or fell again. -/
def RetUp (w0 : World) (X : Eng) (x : Ending) (w' : World) : Prop := ∃ vd vm vl,x = .returned (.tuple #[(upE X).ag vd vm vl, .bool (decide (firstO X = 0))]) ∧ OwnE w' w0.heap.size vd vm vl (upE X) ∧ Below w0.heap.size w0 w'
set_option maxRecDepth 100000 in
set_option maxHeartbeats 6000000 in
theorem l21Up_calls {w0 w : World} {e : Eng} {vd vm vl : Value} (n : Nat) (hgd : geo e.disk) (hlog : logOk e.log = true) (hro : RiseOk (startE e)) (hb : Below w0.heap.size w0 w) (hr : OwnE w w0.heap.size vd vm vl e) : Calls Tryz.prog 43 #[e.ag vd vm vl, .int .i64 (n : Int)] w (RetUp w0 (riseK n (startE e))):=by
  obtain ⟨Ad,cd,Am,cm,Al,cl,rfl,rfl,rfl,hcl,hrd⟩:=hr.reads
  obtain ⟨w1a,hw1a⟩ : ∃ w1a,w.alloc (e.obox (.slice Ad e.disk.length cd) (.slice Am e.mem.length cm) (.slice Al e.log.length cl)) = w1a:=⟨_,rfl⟩
  obtain ⟨w1,hw1⟩ : ∃ w1,w1a.alloc (zE.obox (.slice none 0 0) (.slice none 0 0) (.slice none 0 0)) = w1:=⟨_,rfl⟩
  have hza : w1a.heap.size = w.heap.size + 1:=by rw [← hw1a];exact size1 _ _
  have hz1 : w1.heap.size = w.heap.size + 2:=by rw [← hw1,size1,hza]
  have hba : Below w1a.heap.size w1a w1:=by rw [← hw1];exact bel_alloc (Below.refl _ _) _
  have hb1 : Below w.heap.size w w1:=by rw [← hw1, ← hw1a];exact bel_alloc (bel_alloc (Below.refl _ _) _) _
  have HQ1 : Aside0 (EgBox w1 w.heap.size e (.slice Ad e.disk.length cd) (.slice Am e.mem.length cm) (.slice Al e.log.length cl)):=⟨EgBox.up (by rw [← hw1a];exact EgBox.mk1 _ _ _ _ _) hba⟩
  have HP1 : Aside0 (EgBox w1 (w.heap.size + 1) zE (.slice none 0 0) (.slice none 0 0) (.slice none 0 0)):=⟨by rw [← hw1, ← hza];exact EgBox.mk1 _ _ _ _ _⟩
  have HW1 : Aside0 ((w.alloc (e.obox (.slice Ad e.disk.length cd) (.slice Am e.mem.length cm) (.slice Al e.log.length cl))).alloc (zE.obox (.slice none 0 0) (.slice none 0 0) (.slice none 0 0)) = w1):=⟨by rw [hw1a,hw1]⟩
  have HZ1:=As hz1
  have HB1:=As hb1
  have HB:=As hb
  have HO1:=As (hr.below hb1)
  have HC1:=As (hrd.up hb1)
  obtain ⟨X,hX⟩ : ∃ X,riseK n (startE e) = X:=⟨_,rfl⟩
  obtain ⟨R,hR⟩ : ∃ R,redoN e.disk e.log e.log.length = R:=⟨_,rfl⟩
  have hst : startE e = { e with mem:=R }:=by rw [startE,hR]
  rw [hX]
  rw [hst] at hro hX
  have HRR:=As hR
  have HRO:=As hro
  have HRX:=As hX
  have HGD:=As hgd
  have HLOG:=As hlog
  have HLG:=As (logOk_len hlog)
  have x0:=HQ1.out.c0
  have x2:=HQ1.out.c2
  clear hw1a hw1 hza hz1 hba hb1 hb hr hrd hX hR hst hro hgd hlog
  go_enter Tryz.func43,Tryz.ntmps43
  go_wp2_with (first
    | (go_at_call 94;rw [show (w.alloc (Obj.cells #[Value.slice Ad e.disk.length cd,Value.slice Am e.mem.length cm,Value.slice Al e.log.length cl,Value.int IntKind.i64 e.safe,Value.bool e.down] 28)).alloc (Obj.cells #[Value.slice none 0 0,Value.slice none 0 0,Value.slice none 0 0,Value.int IntKind.i64 0,Value.bool false] 28) = w1 from HW1.out];refine (l11Redo_calls (c:=cd) (d:=cl) HGD.out (fun k hk => (logOk_facts HLOG.out hk).ok) HLG.out (Below.refl w1.heap.size w1) HC1.out.d HC1.out.l).mono ?_;rw [HRR.out];rintro x w2 ⟨v,rfl,ho,hb2⟩;obtain ⟨Bn,dn,rfl, -, -⟩:=Kd.S_reads ho;have HO2:=As (own_newmem HO1.out hb2 ho (by have:=HB.out.size;have:=HB1.out.size;omega));have hq2:=HQ1.out.up hb2;have HQ2:=As hq2;have HP2:=As (HP1.out.up hb2);have HX2:=As (bt HB1.out hb2);have HN2:=As hb2.size;have g1:=hq2.frz 1;have x1':=hq2.c1;clear ho hb2 hq2 x0 x2))
  obtain ⟨w3,hw3⟩ : ∃ w3,w2.setCell ⟨w.heap.size,1,none⟩ (.slice Bn R.length dn) = w3:=⟨_,rfl⟩
  have hq3 : EgBox w3 w.heap.size { e with mem:=R } (.slice Ad e.disk.length cd) (.slice Bn R.length dn) (.slice Al e.log.length cl):=by rw [← hw3];exact HQ2.out.set1 _
  have hp3 : EgBox w3 (w.heap.size + 1) zE (.slice none 0 0) (.slice none 0 0) (.slice none 0 0):=by rw [← hw3];exact HP2.out.far (by omega) _ _
  have ho3 : OwnE w3 w0.heap.size (.slice Ad e.disk.length cd) (.slice Bn R.length dn) (.slice Al e.log.length cl) { e with mem:=R }:=by rw [← hw3];exact HO2.out.setEg HQ2.out 1 _
  have hb3 : Below w0.heap.size w0 w3:=by rw [← hw3];exact (bt HB.out HX2.out).setCell (p:=⟨w.heap.size,1,none⟩) HB.out.size _
  have hn3 : w.heap.size + 2 ≤ w3.heap.size:=by
    have h1:=HZ1.out
    have h2:=HN2.out
    have h3 : w3.heap.size = w2.heap.size:=by rw [← hw3];simp
    omega
  rw [hw3]
  have HE3 : Aside0 (∃ vd vm vl,EgBox w3 w.heap.size { e with mem:=R } vd vm vl ∧ OwnE w3 w0.heap.size vd vm vl { e with mem:=R }):=⟨⟨_,_,_,hq3,ho3⟩⟩
  have HP3:=As hp3
  have HB3:=As (And.intro hb3 hn3)
  have hroom:=HRO.out.room'
  clear hw3 hq3 hp3 ho3 hb3 hn3 g1 x1'
  go_loopw [6] (fun i wr => ∃ (k : Nat) (x : Eng),k ≤ n ∧ i = .int .i64 (k : Int) ∧ Aside0 (∃ vd vm vl,EgBox wr w.heap.size x vd vm vl ∧ OwnE wr w0.heap.size vd vm vl x) ∧ Aside0 (EgBox wr (w.heap.size + 1) zE (.slice none 0 0) (.slice none 0 0) (.slice none 0 0)) ∧ Aside0 (Below w0.heap.size w0 wr ∧ w.heap.size + 2 ≤ wr.heap.size) ∧ Aside0 (RiseOk x ∧ riseK (n - k) x = X) ∧ k + needAt x.log x.log.length ≤ 150) (fun i _ => (n - intOf i).toNat)
  case atStart => exact ⟨0,{ e with mem:=R },Nat.zero_le _,rfl,HE3,HP3,HB3,⟨HRO.out,HRX.out⟩,by show 0 + needAt e.log e.log.length ≤ 150;have : e.log.length + needAt e.log e.log.length ≤ 150:=hroom;omega⟩
  case round =>
    obtain ⟨k,x,hk,rfl,HEG,HPr,HBr,HRK,hkn⟩:=hrel
    obtain ⟨vd,vm,vl,hq,ho⟩:=HEG.out
    obtain ⟨Ed,n1,Em,n2,El,n3,rfl,rfl,rfl, -,hc⟩:=ho.reads
    have HQ:=As hq
    have HO:=As ho
    have HC:=As hc
    obtain ⟨t,ht⟩ : ∃ t,firstO x = t:=⟨_,rfl⟩
    have hfirst : ∀ wx,Kd.C kRec wx El x.log.length x.log → Calls Tryz.prog 101 #[.slice El x.log.length n3] wx fun y w' => y = .returned (.int .i64 t) ∧ wx = w':=fun wx hc => ht ▸ l21First_calls (c:=n3) (Below.refl _ _) hc
    have HFI:=As hfirst
    have hx2:=hq.c2
    clear hq ho hc hfirst
    by_cases h0 : t = 0
    · subst h0
      have hXx : X = x:=by rw [← HRK.out.2,riseK_none ht]
      have HU:=As (show upE X = { x with down:=false } ∧ decide (firstO X = 0) = true from ⟨by rw [hXx,upE,if_pos ht],by rw [hXx];simp [ht]⟩)
      clear hXx ht hkn hroom
      have q0:=HQ.out.c0
      have q1:=HQ.out.c1
      have q3:=HQ.out.c3
      have q4:=HQ.out.c4
      have g4:=HQ.out.frz 4
      have hp:=HPr.out
      have y0:=hp.c0
      have y1:=hp.c1
      have y2:=hp.c2
      have y3:=hp.c3
      have y4:=hp.c4
      have f0:=hp.frz 0
      have f1:=hp.frz 1
      have f2:=hp.frz 2
      have f3:=hp.frz 3
      have f4:=hp.frz 4
      clear hp
      by_cases hlt : k < n
      all_goals
        go_wp2_with (go_at_call 101;refine (HFI.out _ HC.out.l).mono ?_;rintro y w' ⟨rfl,rfl⟩)
        have r1:=HO.out.setEg HQ.out 4 (.bool false)
        have p1:=HPr.out.far (b:=w.heap.size) (by omega) 4 (.bool false)
        have b1:=HBr.out.1.setCell (p:=⟨w.heap.size,4,none⟩) HB.out.size (.bool false)
        have hy:=p1.set5 { x with down:=false } (.slice Ed x.disk.length n1) (.slice Em x.mem.length n2) (.slice El x.log.length n3)
        have h1:=r1.set5 (f:={ x with down:=false }) (xd:=.slice Ed x.disk.length n1) (xm:=(.slice Em x.mem.length n2)) (xl:=.slice El x.log.length n3) p1
        have h2:=bel_set5 (g:=w.heap.size + 1) b1 (by have:=HB.out.size;omega) { x with down:=false } (.slice Ed x.disk.length n1) (.slice Em x.mem.length n2) (.slice El x.log.length n3)
        have z0:=hy.c0
        have z1:=hy.c1
        have z2:=hy.c2
        have z3:=hy.c3
        have z4:=hy.c4
        simp only at z0 z1 z2 z3 z4
        exact bodyPost_ret (v:=.tuple #[.agg #[.slice Ed x.disk.length n1, .slice Em x.mem.length n2, .slice El x.log.length n3, .int .i64 x.safe, .bool false], .bool true]) (by simp [results,Tryz.results43,go_sem,z0,z1,z2,z3,z4]) rfl ⟨.slice Ed x.disk.length n1, .slice Em x.mem.length n2, .slice El x.log.length n3,by rw [HU.out.1,HU.out.2],by rw [HU.out.1];exact ⟨h1.ex,h1.l⟩,h2⟩
    · have hne : firstO x ≠ 0:=by rw [ht];exact h0
      have htp : decide (0 < t) = true:=by
        have:=first_up hne
        rw [ht] at this
        exact decide_eq_true this
      by_cases hlt : k < n
      · obtain ⟨hso,hro',hnd⟩:=HRK.out.1.step hne
        have hrk : riseK (n - (k + 1)) (stepE x (firstO x)) = X:=by
          have h:=HRK.out.2
          rw [show n - k = (n - (k + 1)) + 1 by omega,riseK,if_neg hne] at h
          exact h
        rw [ht] at hso hro' hnd hrk
        obtain ⟨E,hEE⟩ : ∃ E,stepE x t = E:=⟨_,rfl⟩
        have hstep : ∀ wx,Below w0.heap.size w0 wx → OwnE wx w0.heap.size (.slice Ed x.disk.length n1) (.slice Em x.mem.length n2) (.slice El x.log.length n3) x → Calls Tryz.prog 102 #[x.val Ed Em El n1 n2 n3, .int .i64 t] wx (RetEm w0 wx (.slice Em x.mem.length n2) E):=fun wx hb ho => hEE ▸ l13Step_calls hso hb ho
        rw [hEE] at hro' hnd hrk
        have HST:=As hstep
        have HNX:=As (And.intro hro' hrk)
        have HND:=As (show k + 1 + needAt E.log E.log.length ≤ 150 by omega)
        have hk150 : k ≤ 150:=by omega
        have hwr : IntKind.i64.wrap ((k : Int) + 1) = (k : Int) + 1:=by simp (disch:=omega) only [IntWalk.i64_in]
        clear hso hro' hnd hrk hEE hstep ht h0 hne hkn hroom
        go_wp2_with (go_at_call 101;refine (HFI.out _ HC.out.l).mono ?_;rintro y w' ⟨rfl,rfl⟩)
        refine reg_start (fun lx a wx => (Below w0.heap.size w0 wx ∧ KeptM wr (.slice Em x.mem.length n2) wx) ∧ (Un 4 (fun wx => Below wr.heap.size wr wx) lx a wx ∧ Sl 4 28 (fun v wx => ∃ ud um ul,v = E.ag ud um ul ∧ OwnE wx w0.heap.size ud um ul E) lx a wx)) 5 rfl (by kernel_rfl) (⟨⟨below_drew HBr.out.1,Kept.drew (Kept.refl _ _)⟩,fun _ => below_drew (Below.refl _ _),sl_start⟩) (fun HT => ?_)
        refine reg_val (i:=0) (v:=?_) HT rfl (by kernel_rfl) rfl (kA keeps_world (kA (keeps_un rfl) (keeps_sl rfl rfl))) (by rfl) (fun _ _ _ h => h) (fun lx ax wx hS => ?_) ?_;rotate_left;(have hk':=hS.1.2;clear hS;have hq:=HQ.out.keptM HO.out hk';have x0:=hq.c0;have x1:=hq.c1;have x2:=hq.c2;have x3:=hq.c3;have x4:=hq.c4;clear hq;go_simp;with_reducible rfl);rotate_left;simp only [sc0,sc1]
        refine reg_val (i:=1) (v:=?_) HT rfl (by kernel_rfl) rfl (kA keeps_world (kA (keeps_un rfl) (keeps_sl rfl rfl))) (by rfl) (fun _ _ _ h => h) (fun lx ax wx hS => ?_) ?_;rotate_left;(have hk':=hS.1.2;clear hS;have hq:=HQ.out.keptM HO.out hk';have x0:=hq.c0;have x1:=hq.c1;have x2:=hq.c2;have x3:=hq.c3;have x4:=hq.c4;clear hq;go_simp;with_reducible rfl);rotate_left;simp only [sc0,sc1]
        refine reg_val (i:=2) (v:=?_) HT rfl (by kernel_rfl) rfl (kA keeps_world (kA (keeps_un rfl) (keeps_sl rfl rfl))) (by rfl) (fun _ _ _ h => h) (fun lx ax wx hS => ?_) ?_;rotate_left;(have hk':=hS.1.2;clear hS;have hq:=HQ.out.keptM HO.out hk';have x0:=hq.c0;have x1:=hq.c1;have x2:=hq.c2;have x3:=hq.c3;have x4:=hq.c4;clear hq;go_simp;with_reducible rfl);rotate_left;simp only [sc0,sc1]
        refine reg_call (i:=3) (f:=101) (v:=.int .i64 t) (args:=#[.slice El x.log.length n3]) HT rfl (by kernel_rfl) rfl Tryz.func101 (by kernel_rfl) rfl rfl (kA keeps_world (kA (keeps_un rfl) (keeps_sl rfl rfl))) (by rfl) (fun _ _ _ h => h) (by simp only [List.map_toArray,List.map_cons,List.map_nil];rfl) (fun lx ax wx hS => (HFI.out wx (HO.out.logC hS.1.2)).mono fun _ w' h => ⟨h.1,h.2 ▸ hS⟩) ?_;simp only [sc0,sc1]
        refine reg_only (i:=4) (f:=102) (args:=#[x.val Ed Em El n1 n2 n3, .int .i64 t]) (fun v => ∃ ud um ul,v = E.ag ud um ul) rfl (by kernel_rfl) rfl Tryz.func102 (by kernel_rfl) rfl rfl (by rfl) (by simp only [List.map_toArray,List.map_cons,List.map_nil];rfl) (fun wx hS => (HST.out wx hS.1.1 (HO.out.below (hS.2.1 (by kernel_rfl)))).mono (by rintro y w6 ⟨ud,um,ul,rfl,ho,hb,hk6⟩;exact ⟨_,rfl,⟨ud,um,ul,rfl⟩,⟨hb,hS.1.2.then_ hk6 (fun k hk => .inl hk)⟩,fun h => (no_yes (by kernel_rfl) h).elim,fun _ => ⟨ud,um,ul,rfl,ho⟩⟩)) (fun vx hg => ?_);simp only [sc0,sc1]
        obtain ⟨ud,um,ul,rfl⟩:=hg
        refine reg_tail (i:=5) (by kernel_rfl) rfl (fun wx hS => ?_)
        obtain ⟨⟨h1,h2⟩, -,h3⟩:=hS
        obtain ⟨ud',um',ul',hu',hown⟩:=h3 (by kernel_rfl)
        have hu' : E.ag ud um ul = E.ag ud' um' ul':=hu'
        obtain ⟨rfl,rfl,rfl⟩ : ud = ud' ∧ um = um' ∧ ul = ul':=by simpa using hu'
        obtain ⟨Bd,dd,Bm,dm,Bl,dl,rfl,rfl,rfl, -, -⟩:=hown.reads
        have hq5:=HQ.out.keptM HO.out h2
        have hp5:=HPr.out.keptM HO.out h2
        have x0:=hq5.c0
        have x1:=hq5.c1
        have x2:=hq5.c2
        have x3:=hq5.c3
        have x4:=hq5.c4
        have f0:=hq5.frz 0
        have f1:=hq5.frz 1
        have f2:=hq5.frz 2
        have f3:=hq5.frz 3
        have f4:=hq5.frz 4
        refine wpOp_skip (w1:=Go.Proofs.YtlmlcnokiipilabGreat.set5 wx w.heap.size E (.slice Bd E.disk.length dd) (.slice Bm E.mem.length dm) (.slice Bl E.log.length dl)) rfl (by rfl) (by go_simp) ?_
        have hq6:=hq5.set5 E (.slice Bd E.disk.length dd) (.slice Bm E.mem.length dm) (.slice Bl E.log.length dl)
        have ho6:=hown.set5 (f:=E) (xd:=.slice Bd E.disk.length dd) (xm:=.slice Bm E.mem.length dm) (xl:=.slice Bl E.log.length dl) hq5
        have hp6 : EgBox (Go.Proofs.YtlmlcnokiipilabGreat.set5 wx w.heap.size E (.slice Bd E.disk.length dd) (.slice Bm E.mem.length dm) (.slice Bl E.log.length dl)) (w.heap.size + 1) zE (.slice none 0 0) (.slice none 0 0) (.slice none 0 0):=((((hp5.far (b:=w.heap.size) (by omega) 0 _).far (b:=w.heap.size) (by omega) 1 _).far (b:=w.heap.size) (by omega) 2 _).far (b:=w.heap.size) (by omega) 3 _).far (b:=w.heap.size) (by omega) 4 _
        have hb6:=bel_set5 (g:=w.heap.size) h1 HB.out.size E (.slice Bd E.disk.length dd) (.slice Bm E.mem.length dm) (.slice Bl E.log.length dl)
        obtain ⟨w9,hw9⟩ : ∃ w9,Go.Proofs.YtlmlcnokiipilabGreat.set5 wx w.heap.size E (.slice Bd E.disk.length dd) (.slice Bm E.mem.length dm) (.slice Bl E.log.length dl) = w9:=⟨_,rfl⟩
        have hs9 : w.heap.size + 2 ≤ w9.heap.size:=by
          have h4:=h2.1
          have h5:=HBr.out.2
          rw [← hw9]
          simp
          omega
        rw [hw9] at hq6 ho6 hp6 hb6 ⊢
        have HE9 : Aside0 (∃ vd vm vl,EgBox w9 w.heap.size E vd vm vl ∧ OwnE w9 w0.heap.size vd vm vl E):=⟨⟨_,_,_,hq6,ho6⟩⟩
        have HP9:=As hp6
        have HB9:=As (And.intro hb6 hs9)
        clear h1 h2 h3 hu' hown hq5 hp5 hq6 ho6 hp6 hb6 hs9 hw9 x0 x1 x2 x3 x4 f0 f1 f2 f3 f4 hx2
        refine regAt_end (by kernel_rfl) ?_
        go_wp2
        go_roundw
        case rel => exact ⟨k + 1,E,by omega,by go_num,HE9,HP9,HB9,HNX,HND.out⟩
        case measure => simp [intOf];omega
      · have hkn' : k = n:=by omega
        have hXx : X = x:=by
          have h:=HRK.out.2
          rw [hkn',Nat.sub_self] at h
          exact h.symm
        have HU:=As (show upE X = { x with mem:=x.disk } ∧ decide (firstO X = 0) = false from ⟨by rw [hXx,upE,if_neg hne],by rw [hXx];simp [hne]⟩)
        have HGX:=As (show geo x.disk from by
          have h1:=(riseK_keeps n { e with mem:=R }).1
          rw [HRX.out,hXx] at h1
          rw [h1]
          exact HGD.out)
        have q0:=HQ.out.c0
        clear hXx hne h0 ht hkn hroom hkn'
        go_wp2_with (first
          | (go_at_call 101;refine (HFI.out _ HC.out.l).mono ?_;rintro y w' ⟨rfl,rfl⟩)
          | (go_at_call 100;refine (l11CopyPages_calls (w0:=wr) (c:=n1) (geo_few HGX.out) (by have:=HGX.out.1;omega) (Below.refl _ _) HC.out.d).mono ?_;rintro x1 w9 ⟨v1,rfl,ho9,hb9⟩;obtain ⟨Cd,k1,rfl, -, -⟩:=Kd.S_reads ho9;have HO9:=As (own_newmem HO.out hb9 ho9 HBr.out.1.size);have hq9:=HQ.out.up hb9;have HQ9:=As hq9;have HB9:=As (bt HBr.out.1 hb9);have HP9:=As (HPr.out.up hb9);have g1:=hq9.frz 1;have q0':=hq9.c0;have q1':=hq9.c1;have q2':=hq9.c2;have q3':=hq9.c3;have q4':=hq9.c4;have hp:=HP9.out;have y0:=hp.c0;have y1:=hp.c1;have y2:=hp.c2;have y3:=hp.c3;have y4:=hp.c4;have f0:=hp.frz 0;have f1:=hp.frz 1;have f2:=hp.frz 2;have f3:=hp.frz 3;have f4:=hp.frz 4;clear hp ho9 hb9 hq9 q0))
        have r1:=HO9.out.setEg HQ9.out 1 (.slice Cd x.disk.length k1)
        have p1:=HP9.out.far (b:=w.heap.size) (by omega) 1 (.slice Cd x.disk.length k1)
        have b1:=HB9.out.setCell (p:=⟨w.heap.size,1,none⟩) HB.out.size (.slice Cd x.disk.length k1)
        have hy:=p1.set5 { x with mem:=x.disk } (.slice Ed x.disk.length n1) (.slice Cd x.disk.length k1) (.slice El x.log.length n3)
        have h1:=r1.set5 (f:={ x with mem:=x.disk }) (xd:=.slice Ed x.disk.length n1) (xm:=(.slice Cd x.disk.length k1)) (xl:=.slice El x.log.length n3) p1
        have h2:=bel_set5 (g:=w.heap.size + 1) b1 (by have:=HB.out.size;omega) { x with mem:=x.disk } (.slice Ed x.disk.length n1) (.slice Cd x.disk.length k1) (.slice El x.log.length n3)
        have z0:=hy.c0
        have z1:=hy.c1
        have z2:=hy.c2
        have z3:=hy.c3
        have z4:=hy.c4
        simp only at z0 z1 z2 z3 z4
        exact bodyPost_ret (v:=.tuple #[.agg #[.slice Ed x.disk.length n1, .slice Cd x.disk.length k1, .slice El x.log.length n3, .int .i64 x.safe, .bool x.down], .bool false]) (by simp [results,Tryz.results43,go_sem,z0,z1,z2,z3,z4]) rfl ⟨.slice Ed x.disk.length n1, .slice Cd x.disk.length k1, .slice El x.log.length n3,by rw [HU.out.1,HU.out.2],by rw [HU.out.1];exact h1,h2⟩
def freshB (e : Eng) (p : Nat) : Bool:=(pg e.mem p).lsn == lastOfN e.log p e.log.length && (decide ((pg e.disk p).lsn < (pg e.mem p).lsn) || samePg (pg e.mem p) (pg e.disk p))
set_option maxRecDepth 100000 in
set_option maxHeartbeats 8000000 in
theorem l11Fresh_calls {w0 w : World} {e : Eng} {Ad Am Al : Option Addr} {cd cm cl : Nat} {p : Nat} {b : Bool} (hv : freshB e p = b) (hp : p < 5) (hd : psOk e.disk = true) (hm : psOk e.mem = true) (hb : Below w0.heap.size w0 w) (hr : EngC w0 e Ad Am Al) : Calls Tryz.prog 99 #[e.val Ad Am Al cd cm cl, .int .i64 p] w fun x w' => x = .returned (.bool b) ∧ Below w.heap.size w w':=by
  have HR:=As (hr.up hb)
  have HV:=As hv
  have hd5:=psOk_iff.1 hd
  have hm5:=psOk_iff.1 hm
  have HOK:=As (And.intro (hm5.2 p hp) (hd5.2 p hp))
  have hpd : p < e.disk.length:=by omega
  have hpm : p < e.mem.length:=by omega
  clear hr hb hv hd hm hd5 hm5
  obtain ⟨adm,Am2,cm2,rfl,QM, -,hmC⟩:=at_page HR.out.m p hpm
  obtain ⟨add,Ad2,cd2,rfl,QD, -,hdC⟩:=at_page HR.out.d p hpd
  obtain ⟨M,hM⟩ : ∃ M,pg e.mem p = M:=⟨_,rfl⟩
  obtain ⟨Dp,hD⟩ : ∃ Dp,pg e.disk p = Dp:=⟨_,rfl⟩
  rw [hM] at QM hmC HOK
  rw [hD] at QD hdC HOK
  have HMC:=As hmC
  have HDC:=As hdC
  have HMD:=As (And.intro hM hD)
  obtain ⟨sD,hsD⟩ : ∃ sD,samePg M Dp = sD:=⟨_,rfl⟩
  have HSD:=As hsD
  clear hmC hdC hM hD hsD
  obtain ⟨w1,hw1⟩ : ∃ w1,w.alloc (e.obox (.slice (some add) e.disk.length cd) (.slice (some adm) e.mem.length cm) (.slice Al e.log.length cl)) = w1:=⟨_,rfl⟩
  have HW1:=As hw1
  have HB1 : Aside0 (Below w.heap.size w w1):=⟨by rw [← hw1];exact bel_alloc (Below.refl _ _) _⟩
  have HQ1 : Aside0 (EgBox w1 w.heap.size e (.slice (some add) e.disk.length cd) (.slice (some adm) e.mem.length cm) (.slice Al e.log.length cl)):=⟨by rw [← hw1];exact EgBox.mk1 _ _ _ _ _⟩
  clear hw1
  have x0:=HQ1.out.c0
  have x1:=HQ1.out.c1
  have x2:=HQ1.out.c2
  obtain ⟨m0,m1,m2⟩:=QM.up HB1.out
  obtain ⟨d0,d1,d2⟩:=QD.up HB1.out
  rcases beqs M.lsn (lastOfN e.log p e.log.length) with ⟨e2,b2,c2⟩ | ⟨e2,b2,c2⟩
  · rcases lts Dp.lsn M.lsn with ⟨e3,k1,k2⟩ | ⟨e3,k1,k2⟩
    all_goals
      go_enter Tryz.func99,Tryz.ntmps99
      go_wp2
      rw [HW1.out]
      refine text_start (fun w' => Below w1.heap.size w1 w') rfl rfl (by kernel_rfl) (below_drew (Below.refl _ _)) (fun HT => ?_)
      repeat (first
        | (refine text_end (fun wx hS => ?_))
        | ((with_reducible refine text_gate (f:=164) rfl ?_);refine text_call (v:=.int .i64 (lastOfN e.log p e.log.length)) (args:=#[.slice Al e.log.length cl, .int .i64 p]) HT rfl Tryz.func164 (by kernel_rfl) rfl rfl (by rfl) (fun _ _ _ h => h) (by simp only [List.map_toArray,List.map_cons,List.map_nil];rfl) (fun wx hS => (l11Last_calls (p : Int) (bt HB1.out hS) HR.out.l).mono fun _ _ h => ⟨h.1,h.2 ▸ hS⟩) ?_;simp only [sc0,sc1])
        | ((with_reducible refine text_gate (f:=97) rfl ?_);refine text_call (v:=.bool sD) (args:=#[M.val Am2 cm2,Dp.val Ad2 cd2]) HT rfl Tryz.func97 (by kernel_rfl) rfl rfl (by rfl) (fun _ _ _ h => h) (by simp only [List.map_toArray,List.map_cons,List.map_nil];rfl) (fun wx hS => (l11Same_calls (c:=cm2) (d:=cd2) HSD.out HOK.out.1 HOK.out.2 (bt HB1.out hS) HMC.out HDC.out).mono fun _ _ h => ⟨h.1,bt hS h.2⟩) ?_;simp only [sc0,sc1])
        | (refine text_skip HT rfl (by rfl) (fun _ _ _ h => h) ?_;simp only [sc0,sc1])
        | (refine text_val (v:=?_) HT rfl (by rfl) (fun _ _ _ h => h) (fun wx hS => ?_) ?_;rotate_left;(replace x0:=bc hS x0;replace x1:=bc hS x1;replace x2:=bc hS x2;replace m0:=bc hS m0;replace m1:=bc hS m1;replace m2:=bc hS m2;replace d0:=bc hS d0;replace d1:=bc hS d1;replace d2:=bc hS d2;go_simp;with_reducible rfl);rotate_left;simp only [sc0,sc1]))
      go_wp2
      go_ret
      exact ⟨ret_bool (by rw [← HV.out,freshB,HMD.out.1,HMD.out.2,HSD.out];simp [b2,k1]),bt HB1.out hS⟩
  · go_enter Tryz.func99,Tryz.ntmps99
    go_wp2
    rw [HW1.out]
    refine text_start (fun w' => Below w1.heap.size w1 w') rfl rfl (by kernel_rfl) (below_drew (Below.refl _ _)) (fun HT => ?_)
    repeat (first
      | (refine text_end (fun wx hS => ?_))
      | ((with_reducible refine text_gate (f:=164) rfl ?_);refine text_call (v:=.int .i64 (lastOfN e.log p e.log.length)) (args:=#[.slice Al e.log.length cl, .int .i64 p]) HT rfl Tryz.func164 (by kernel_rfl) rfl rfl (by rfl) (fun _ _ _ h => h) (by simp only [List.map_toArray,List.map_cons,List.map_nil];rfl) (fun wx hS => (l11Last_calls (p : Int) (bt HB1.out hS) HR.out.l).mono fun _ _ h => ⟨h.1,h.2 ▸ hS⟩) ?_;simp only [sc0,sc1])
      | (refine text_skip HT rfl (by rfl) (fun _ _ _ h => h) ?_;simp only [sc0,sc1])
      | (refine text_val (v:=?_) HT rfl (by rfl) (fun _ _ _ h => h) (fun wx hS => ?_) ?_;rotate_left;(replace x0:=bc hS x0;replace x1:=bc hS x1;replace x2:=bc hS x2;replace m0:=bc hS m0;replace m1:=bc hS m1;replace m2:=bc hS m2;replace d0:=bc hS d0;replace d1:=bc hS d1;replace d2:=bc hS d2;go_simp;with_reducible rfl);rotate_left;simp only [sc0,sc1]))
    go_wp2
    go_ret
    exact ⟨ret_bool (by rw [← HV.out,freshB,HMD.out.1,HMD.out.2,HSD.out];simp [b2]),bt HB1.out hS⟩
/-- How many of the last j transactions hold a page. -/
def heldR (l : List Rec) (p : Int) : Nat → Nat
  | 0 => 0
  | j + 1 => (if hasN l (lastN l (3 - j : Int) l.length) p = true then 1 else 0) + heldR l p j
theorem held_lock (l : List Rec) (p : Int) : (lockF l p (openR l 3) 0 true).2 = decide (heldR l p 3 ≤ 1):=by
  have e1 : (3 - ((2 : Nat) : Int)) = 1:=rfl
  have e2 : (3 - ((1 : Nat) : Int)) = 2:=rfl
  have e3 : (3 - ((0 : Nat) : Int)) = 3:=rfl
  rw [openR_three,heldR,heldR,heldR,heldR,e1,e2,e3]
  by_cases h1 : lastN l 1 l.length = 0 <;> by_cases h2 : lastN l 2 l.length = 0 <;> by_cases h3 : lastN l 3 l.length = 0 <;> cases k1 : hasN l (lastN l 1 l.length) p <;> cases k2 : hasN l (lastN l 2 l.length) p <;> cases k3 : hasN l (lastN l 3 l.length) p <;> simp_all [lockF,hasN_zero]
set_option maxRecDepth 100000 in
set_option maxHeartbeats 16000000 in
theorem specEngineOk_calls {w0 w : World} {e : Eng} {Ad Am Al : Option Addr} {cd cm cl : Nat} {b : Bool} (hv : eOk e = b) (hcl : e.log.length ≤ cl) (hb : Below w0.heap.size w0 w) (hr : EngC w0 e Ad Am Al) : Calls Tryz.prog 41 #[e.val Ad Am Al cd cm cl] w fun x w' => x = .returned (.bool b) ∧ Below w.heap.size w w':=by
  have HR:=As (hr.up hb)
  have HV:=As hv
  have hlm:=(C_len HR.out.l).2
  clear hr hb hv
  obtain ⟨w1,hw1⟩ : ∃ w1,w.alloc (e.obox (.slice Ad e.disk.length cd) (.slice Am e.mem.length cm) (.slice Al e.log.length cl)) = w1:=⟨_,rfl⟩
  have HW1:=As hw1
  have HB1 : Aside0 (Below w.heap.size w w1):=⟨by rw [← hw1];exact bel_alloc (Below.refl _ _) _⟩
  have HQ1 : Aside0 (EgBox w1 w.heap.size e (.slice Ad e.disk.length cd) (.slice Am e.mem.length cm) (.slice Al e.log.length cl)):=⟨by rw [← hw1];exact EgBox.mk1 _ _ _ _ _⟩
  clear hw1
  have HX:=As (Below.refl w1.heap.size w1)
  have x0:=HQ1.out.c0
  have x1:=HQ1.out.c1
  have x2:=HQ1.out.c2
  have x3:=HQ1.out.c3
  have x4:=HQ1.out.c4
  cases hvd : psOk e.disk
  · have HVd:=As hvd
    clear hvd
    go_enter Tryz.func41,Tryz.ntmps41
    go_wp2_with (first | (go_at_call 92;rw [HW1.out];refine (l11Good_calls (c:=cd) HVd.out (bt HB1.out HX.out) HR.out.d).mono ?_;rintro x w9 ⟨rfl,hb9⟩;have HX:=As (bt HX.out hb9);replace x0:=bc hb9 x0;replace x1:=bc hb9 x1;replace x2:=bc hb9 x2;replace x3:=bc hb9 x3;replace x4:=bc hb9 x4;clear hb9))
    go_ret
    exact ⟨ret_bool (by rw [← HV.out,eOk,HVd.out];simp),bt HB1.out HX.out⟩
  · have HVd:=As hvd
    clear hvd
    cases hvm : psOk e.mem
    · have HVm:=As hvm
      clear hvm
      go_enter Tryz.func41,Tryz.ntmps41
      go_wp2_with (first | (go_at_call 92;rw [HW1.out];refine (l11Good_calls (c:=cd) HVd.out (bt HB1.out HX.out) HR.out.d).mono ?_;rintro x w9 ⟨rfl,hb9⟩;have HX:=As (bt HX.out hb9);replace x0:=bc hb9 x0;replace x1:=bc hb9 x1;replace x2:=bc hb9 x2;replace x3:=bc hb9 x3;replace x4:=bc hb9 x4;clear hb9) | (go_at_call 92;refine (l11Good_calls (c:=cm) HVm.out (bt HB1.out HX.out) HR.out.m).mono ?_;rintro x w9 ⟨rfl,hb9⟩;have HX:=As (bt HX.out hb9);replace x0:=bc hb9 x0;replace x1:=bc hb9 x1;replace x2:=bc hb9 x2;replace x3:=bc hb9 x3;replace x4:=bc hb9 x4;clear hb9))
      go_ret
      exact ⟨ret_bool (by rw [← HV.out,eOk,HVd.out,HVm.out];simp),bt HB1.out HX.out⟩
    · have HVm:=As hvm
      clear hvm
      cases hvl : logOk e.log
      · have HVl:=As hvl
        clear hvl
        go_enter Tryz.func41,Tryz.ntmps41
        go_wp2_with (first | (go_at_call 92;rw [HW1.out];refine (l11Good_calls (c:=cd) HVd.out (bt HB1.out HX.out) HR.out.d).mono ?_;rintro x w9 ⟨rfl,hb9⟩;have HX:=As (bt HX.out hb9);replace x0:=bc hb9 x0;replace x1:=bc hb9 x1;replace x2:=bc hb9 x2;replace x3:=bc hb9 x3;replace x4:=bc hb9 x4;clear hb9) | (go_at_call 92;refine (l11Good_calls (c:=cm) HVm.out (bt HB1.out HX.out) HR.out.m).mono ?_;rintro x w9 ⟨rfl,hb9⟩;have HX:=As (bt HX.out hb9);replace x0:=bc hb9 x0;replace x1:=bc hb9 x1;replace x2:=bc hb9 x2;replace x3:=bc hb9 x3;replace x4:=bc hb9 x4;clear hb9) | (go_at_call 93;refine (specLogOk_calls (c:=cl) (Below.refl _ _) (C_up HR.out.l (bt HB1.out HX.out)) hcl).mono ?_;rintro x w9 ⟨rfl,hb9⟩;rw [HVl.out];have HX:=As (bt HX.out hb9);replace x0:=bc hb9 x0;replace x1:=bc hb9 x1;replace x2:=bc hb9 x2;replace x3:=bc hb9 x3;replace x4:=bc hb9 x4;clear hb9))
        go_ret
        exact ⟨ret_bool (by rw [← HV.out,eOk,HVd.out,HVm.out,HVl.out];simp),bt HB1.out HX.out⟩
      · have HVl:=As hvl
        clear hvl
        have hm150:=logOk_len HVl.out
        cases hvs : inB e.safe 0 e.log.length
        · have HVs:=As hvs
          clear hvs
          go_enter Tryz.func41,Tryz.ntmps41
          go_wp2_with (first | (go_at_call 92;rw [HW1.out];refine (l11Good_calls (c:=cd) HVd.out (bt HB1.out HX.out) HR.out.d).mono ?_;rintro x w9 ⟨rfl,hb9⟩;have HX:=As (bt HX.out hb9);replace x0:=bc hb9 x0;replace x1:=bc hb9 x1;replace x2:=bc hb9 x2;replace x3:=bc hb9 x3;replace x4:=bc hb9 x4;clear hb9) | (go_at_call 92;refine (l11Good_calls (c:=cm) HVm.out (bt HB1.out HX.out) HR.out.m).mono ?_;rintro x w9 ⟨rfl,hb9⟩;have HX:=As (bt HX.out hb9);replace x0:=bc hb9 x0;replace x1:=bc hb9 x1;replace x2:=bc hb9 x2;replace x3:=bc hb9 x3;replace x4:=bc hb9 x4;clear hb9) | (go_at_call 93;refine (specLogOk_calls (c:=cl) (Below.refl _ _) (C_up HR.out.l (bt HB1.out HX.out)) hcl).mono ?_;rintro x w9 ⟨rfl,hb9⟩;rw [HVl.out];have HX:=As (bt HX.out hb9);replace x0:=bc hb9 x0;replace x1:=bc hb9 x1;replace x2:=bc hb9 x2;replace x3:=bc hb9 x3;replace x4:=bc hb9 x4;clear hb9) | (go_at_call 55;refine (l6In_is HVs.out _).mono ?_;rintro x w9 ⟨rfl,rfl⟩))
          go_ret
          exact ⟨ret_bool (by rw [← HV.out,eOk,HVd.out,HVm.out,HVl.out,HVs.out];simp),bt HB1.out HX.out⟩
        · have HVs:=As hvs
          clear hvs
          have HS01:=As (inB_iff.1 HVs.out)
          have HGR:=As (geo_redo (psOk_geo HVd.out) (fun k hk => (logOk_facts HVl.out hk).ok) e.log.length (Nat.le_refl _))
          obtain ⟨nd,hnd⟩ : ∃ nd,need e.log = nd:=⟨_,rfl⟩
          have hnd453:=need_le hm150
          rw [hnd] at hnd453
          have HND:=As hnd
          clear hnd
          go_enter Tryz.func41,Tryz.ntmps41
          go_wp2_with (first | (go_at_call 92;rw [HW1.out];refine (l11Good_calls (c:=cd) HVd.out (bt HB1.out HX.out) HR.out.d).mono ?_;rintro x w9 ⟨rfl,hb9⟩;have HX:=As (bt HX.out hb9);replace x0:=bc hb9 x0;replace x1:=bc hb9 x1;replace x2:=bc hb9 x2;replace x3:=bc hb9 x3;replace x4:=bc hb9 x4;clear hb9) | (go_at_call 92;refine (l11Good_calls (c:=cm) HVm.out (bt HB1.out HX.out) HR.out.m).mono ?_;rintro x w9 ⟨rfl,hb9⟩;have HX:=As (bt HX.out hb9);replace x0:=bc hb9 x0;replace x1:=bc hb9 x1;replace x2:=bc hb9 x2;replace x3:=bc hb9 x3;replace x4:=bc hb9 x4;clear hb9) | (go_at_call 93;refine (specLogOk_calls (c:=cl) (Below.refl _ _) (C_up HR.out.l (bt HB1.out HX.out)) hcl).mono ?_;rintro x w9 ⟨rfl,hb9⟩;rw [HVl.out];have HX:=As (bt HX.out hb9);replace x0:=bc hb9 x0;replace x1:=bc hb9 x1;replace x2:=bc hb9 x2;replace x3:=bc hb9 x3;replace x4:=bc hb9 x4;clear hb9) | (go_at_call 55;refine (l6In_is HVs.out _).mono ?_;rintro x w9 ⟨rfl,rfl⟩) | (go_at_call 94;refine (l11Redo_calls (c:=cd) (d:=cl) (psOk_geo HVd.out) (fun k hk => (logOk_facts HVl.out hk).ok) hm150 (bt HB1.out HX.out) HR.out.d HR.out.l).mono ?_;rintro x w9 ⟨u,rfl,hO,hb9⟩;obtain ⟨g,cap,rfl,hgb,hgl⟩:=psS_form hO (by rw [HGR.out.1];omega);rw [HGR.out.1] at hO ⊢;have HO:=As hO;have HGB:=As (And.intro hgb hgl);clear hO hgb hgl;have HX:=As (bt HX.out hb9);replace x0:=bc hb9 x0;replace x1:=bc hb9 x1;replace x2:=bc hb9 x2;replace x3:=bc hb9 x3;replace x4:=bc hb9 x4;clear hb9))
          obtain ⟨R,hRR⟩ : ∃ R,redoN e.disk e.log e.log.length = R:=⟨_,rfl⟩
          rw [hRR] at HO HGR
          have HRR:=As hRR
          clear hRR
          have hwr : IntKind.i64.wrap ((e.log.length : Int) + nd) = (e.log.length : Int) + nd:=by simp (disch:=omega) only [IntWalk.i64_in]
          rcases lts 150 ((e.log.length : Int) + nd) with ⟨ef,f1,f2⟩ | ⟨ef,f1,f2⟩
          · refine text_start (fun w' => Below w9.heap.size w9 w') rfl rfl (by kernel_rfl) (below_drew (Below.refl _ _)) (fun HT => ?_)
            repeat (first
              | (refine text_end (fun wx hS => ?_))
              | ((with_reducible refine text_gate (f:=95) rfl ?_);refine text_call (v:=.int .i64 nd) (args:=#[.slice Al e.log.length cl]) HT rfl Tryz.func95 (by kernel_rfl) rfl rfl (by rfl) (fun _ _ _ h => h) (by simp only [List.map_toArray,List.map_cons,List.map_nil];rfl) (fun wx hS => (HND.out ▸ l11Need_calls (w0:=w9) hS (C_up HR.out.l (bt HB1.out HX.out)) HVl.out : Calls Tryz.prog 95 #[.slice Al e.log.length cl] wx fun e w' => e = .returned (.int .i64 nd) ∧ Below w9.heap.size w9 w')) ?_;simp only [sc0,sc1])
              | (refine text_skip HT rfl (by rfl) (fun _ _ _ h => h) ?_;simp only [sc0,sc1])
              | (refine text_val (v:=?_) HT rfl (by rfl) (fun _ _ _ h => h) (fun wx hS => ?_) ?_;rotate_left;(replace x2:=bc hS x2;go_simp;with_reducible rfl);rotate_left;simp only [sc0,sc1]))
            have HX:=As (bt HX.out hS)
            replace HO:=As (Kd.S_below HO.out hS)
            replace x0:=bc hS x0;replace x1:=bc hS x1;replace x2:=bc hS x2;replace x3:=bc hS x3;replace x4:=bc hS x4
            clear hS
            go_wp2
            go_ret
            exact ⟨ret_bool (by rw [← HV.out,eOk,HVd.out,HVm.out,HVl.out,HVs.out,fitsB,HND.out,decide_eq_false (by have:=ef.out;omega)];simp),bt HB1.out HX.out⟩
          refine text_start (fun w' => Below w9.heap.size w9 w') rfl rfl (by kernel_rfl) (below_drew (Below.refl _ _)) (fun HT => ?_)
          repeat (first
            | (refine text_end (fun wx hS => ?_))
            | ((with_reducible refine text_gate (f:=95) rfl ?_);refine text_call (v:=.int .i64 nd) (args:=#[.slice Al e.log.length cl]) HT rfl Tryz.func95 (by kernel_rfl) rfl rfl (by rfl) (fun _ _ _ h => h) (by simp only [List.map_toArray,List.map_cons,List.map_nil];rfl) (fun wx hS => (HND.out ▸ l11Need_calls (w0:=w9) hS (C_up HR.out.l (bt HB1.out HX.out)) HVl.out : Calls Tryz.prog 95 #[.slice Al e.log.length cl] wx fun e w' => e = .returned (.int .i64 nd) ∧ Below w9.heap.size w9 w')) ?_;simp only [sc0,sc1])
            | (refine text_skip HT rfl (by rfl) (fun _ _ _ h => h) ?_;simp only [sc0,sc1])
            | (refine text_val (v:=?_) HT rfl (by rfl) (fun _ _ _ h => h) (fun wx hS => ?_) ?_;rotate_left;(replace x2:=bc hS x2;go_simp;with_reducible rfl);rotate_left;simp only [sc0,sc1]))
          have HX:=As (bt HX.out hS)
          replace HO:=As (Kd.S_below HO.out hS)
          replace x0:=bc hS x0;replace x1:=bc hS x1;replace x2:=bc hS x2;replace x3:=bc hS x3;replace x4:=bc hS x4
          clear hS
          have HVf:=As (show fitsB e.log = true by rw [fitsB,HND.out,decide_eq_true_eq];have:=ef.out;omega)
          obtain ⟨s,hs⟩ : ∃ s : Nat,e.safe = s:=⟨e.safe.toNat,by have:=HS01.out;omega⟩
          have HS:=As hs
          have hs2 : s ≤ e.log.length:=by have:=HS01.out;omega
          clear hs
          obtain ⟨pv,hpv⟩ : ∃ pv,prefsB e (e.log.length + 1 - e.safe.toNat) e.safe.toNat = pv:=⟨_,rfl⟩
          have HPV:=As hpv
          clear hpv
          go_wp2
          clear f1 f2 ef
          go_loopw [4] (fun i wr => ∃ n : Nat,s ≤ n ∧ n ≤ e.log.length + 1 ∧ i = .int .i64 (n : Int) ∧ Aside0 (prefsB e (e.log.length + 1 - n) n = pv) ∧ Aside0 (Below wx.heap.size wx wr)) (fun i _ => (e.log.length + 1 - intOf i).toNat)
          case atStart => exact ⟨s,Nat.le_refl _,by omega,by rw [HS.out],⟨by have:=HPV.out;rw [HS.out] at this;exact this⟩,⟨Below.refl _ _⟩⟩
          case round => as_aux_lemma =>
            obtain ⟨n,hn1,hn2,rfl,HK,HW⟩:=hrel
            have HWW:=As (bt HB1.out (bt HX.out HW.out))
            replace x0:=bc HW.out x0;replace x1:=bc HW.out x1;replace x2:=bc HW.out x2;replace x3:=bc HW.out x3;replace x4:=bc HW.out x4
            by_cases hlt : n ≤ e.log.length
            · have hl : (e.log.take n).length = n:=by rw [List.length_take];omega
              obtain ⟨ps,hps⟩ : ∃ ps,redoN e.disk (e.log.take n) (e.log.take n).length = ps:=⟨_,rfl⟩
              obtain ⟨ok,hok⟩ : ∃ ok,psOk ps = ok:=⟨_,rfl⟩
              have hgeo : geo ps:=by rw [← hps];exact geo_redo (psOk_geo HVd.out) (take_ok HVl.out n) _ (Nat.le_refl _)
              have HGP:=As hgeo
              have HPS:=As (And.intro hps hok)
              have hcall : ∀ w2,Below wr.heap.size wr w2 → Calls Tryz.prog 94 #[.slice Ad e.disk.length cd, .slice Al n cl] w2 (RetPs w2 ps):=fun w2 hb => by
                have h:=l11Redo_calls (c:=cd) (d:=cl) (psOk_geo HVd.out) (take_ok HVl.out n) (by omega) hb (C_up HR.out.d HWW.out) (take_C (C_up HR.out.l HWW.out) hlt)
                rw [hps,hl] at h
                exact h
              have HLn:=As hl
              have hncl : n ≤ cl:=Nat.le_trans hlt hcl
              clear hps hok hl hgeo
              go_wp2
              refine reg_start (fun lx a w2 => Below wr.heap.size wr w2 ∧ Sl 6 62 (fun v w2 => OwnPs w2 wr.heap.size v ps) lx a w2) 8 rfl (by kernel_rfl) (⟨below_drew (Below.refl _ _),sl_start⟩) (fun HT => ?_)
              refine reg_val (i:=0) (v:=?_) HT rfl (by kernel_rfl) rfl (kA keeps_world (keeps_sl rfl rfl)) (by rfl) (fun _ _ _ h => h) (fun lx ax wx hS => ?_) ?_;rotate_left;(have hbx:=hS.1;clear hS;replace x0:=bc hbx x0;replace x2:=bc hbx x2;go_simp;with_reducible rfl);rotate_left;simp only [sc0,sc1]
              refine reg_val (i:=1) (v:=?_) HT rfl (by kernel_rfl) rfl (kA keeps_world (keeps_sl rfl rfl)) (by rfl) (fun _ _ _ h => h) (fun lx ax wx hS => ?_) ?_;rotate_left;(have hbx:=hS.1;clear hS;replace x0:=bc hbx x0;replace x2:=bc hbx x2;go_simp;with_reducible rfl);rotate_left;simp only [sc0,sc1]
              refine reg_val (i:=2) (v:=?_) HT rfl (by kernel_rfl) rfl (kA keeps_world (keeps_sl rfl rfl)) (by rfl) (fun _ _ _ h => h) (fun lx ax wx hS => ?_) ?_;rotate_left;(have hbx:=hS.1;clear hS;replace x0:=bc hbx x0;replace x2:=bc hbx x2;go_simp;with_reducible rfl);rotate_left;simp only [sc0,sc1]
              refine reg_val (i:=3) (v:=?_) HT rfl (by kernel_rfl) rfl (kA keeps_world (keeps_sl rfl rfl)) (by rfl) (fun _ _ _ h => h) (fun lx ax wx hS => ?_) ?_;rotate_left;(have hbx:=hS.1;clear hS;replace x0:=bc hbx x0;replace x2:=bc hbx x2;go_simp;with_reducible rfl);rotate_left;simp only [sc0,sc1]
              refine reg_val (i:=4) (v:=?_) HT rfl (by kernel_rfl) rfl (kA keeps_world (keeps_sl rfl rfl)) (by rfl) (fun _ _ _ h => h) (fun lx ax wx hS => ?_) ?_;rotate_left;(have hbx:=hS.1;clear hS;replace x0:=bc hbx x0;replace x2:=bc hbx x2;go_simp;with_reducible rfl);rotate_left;simp only [sc0,sc1]
              refine reg_val (i:=5) (v:=?_) HT rfl (by kernel_rfl) rfl (kA keeps_world (keeps_sl rfl rfl)) (by rfl) (fun _ _ _ h => h) (fun lx ax wx hS => ?_) ?_;rotate_left;(have hbx:=hS.1;clear hS;replace x0:=bc hbx x0;replace x2:=bc hbx x2;go_simp;with_reducible rfl);rotate_left;simp only [sc0,sc1]
              refine reg_only (i:=6) (f:=94) (args:=#[.slice Ad e.disk.length cd, .slice Al n cl]) (fun v => True) rfl (by kernel_rfl) rfl Tryz.func94 (by kernel_rfl) rfl rfl (by rfl) (by simp only [List.map_toArray,List.map_cons,List.map_nil];rfl) (fun wx hS => (hcall wx hS.1).mono (by rintro e w6 ⟨u,rfl,ho,hb⟩;exact ⟨_,rfl,trivial,bt hS.1 hb,fun _ => Kd.S_lower ho hS.1.size⟩)) (fun vx hg => ?_);simp only [sc0,sc1]
              rename_i u;clear hg
              refine reg_val (i:=7) (v:=?_) HT rfl (by kernel_rfl) rfl (kA keeps_world (keeps_sl rfl rfl)) (by rfl) (fun _ _ _ h => h) (fun lx ax wx hS => ?_) ?_;rotate_left;(go_simp;with_reducible rfl);rotate_left;simp only [sc0,sc1]
              refine reg_end (by kernel_rfl) (fun w2 hS => ?_)
              obtain ⟨h1,h2⟩:=hS
              have hown : OwnPs w2 wr.heap.size vx ps:=h2 (by kernel_rfl)
              obtain ⟨g2,cap2,rfl,hgb,hgl⟩:=psS_form hown (by rw [HGP.out.1];omega)
              have HO2:=As (Kd.S_R hown)
              have HX2:=As h1
              rw [HGP.out.1] at HO2 ⊢
              replace x0:=bc h1 x0;replace x1:=bc h1 x1;replace x2:=bc h1 x2;replace x3:=bc h1 x3;replace x4:=bc h1 x4
              clear h1 h2 hown hcall hgb hgl
              have HP:=As (show prefsB e (e.log.length + 1 - n) n = (prefB e n && prefsB e (e.log.length + 1 - (n + 1)) (n + 1)) by rw [show e.log.length + 1 - n = (e.log.length + 1 - (n + 1)) + 1 by omega,prefsB])
              cases ok
              · go_wp2_with (go_at_call 92;refine (l11Good_n HGP.out.1 HPS.out.2 (Below.refl _ _) (Kd.R_reads' HO2.out).2.2).mono ?_;rintro x w7 ⟨rfl,hb7⟩;have HB7:=As (bt HX2.out hb7);clear hb7)
                go_ret
                exact ⟨ret_bool (by rw [← HV.out,eOk,HVd.out,HVm.out,HVl.out,HVs.out,HVf.out,HPV.out, ← HK.out,HP.out,prefB,HPS.out.1,HPS.out.2];simp),bt HWW.out HB7.out⟩
              · obtain ⟨ub,hub⟩ : ∃ ub,undoneB (e.log.take n) ps = ub:=⟨_,rfl⟩
                have hcall2 : ∀ w8,Below w2.heap.size w2 w8 → Calls Tryz.prog 96 #[.slice (some ⟨g2,0,none⟩) 5 cap2, .slice Al n cl] w8 fun x w' => x = .returned (.bool ub) ∧ Below wr.heap.size wr w':=fun w8 hb8 => by
                  have h:=l11Undone_calls (d:=cl) hub HGP.out (logOk_take HVl.out n) (Kd.R_below HO2.out hb8) (bt HX2.out hb8) (take_C (C_up HR.out.l HWW.out) hlt)
                  rw [HLn.out] at h
                  exact h
                have HUB:=As hub
                clear hub
                cases ub
                all_goals
                  go_wp2_with (first | (go_at_call 92;refine (l11Good_n HGP.out.1 HPS.out.2 (Below.refl _ _) (Kd.R_reads' HO2.out).2.2).mono ?_;rintro x w7 ⟨rfl,hb7⟩;have HB7:=As hb7;replace x0:=bc hb7 x0;replace x1:=bc hb7 x1;replace x2:=bc hb7 x2;replace x3:=bc hb7 x3;replace x4:=bc hb7 x4;clear hb7) | (go_at_call 96;refine (hcall2 _ HB7.out).mono ?_;rintro x w8 ⟨rfl,hb8⟩;have HB8:=As hb8;clear hb8))
                · go_ret
                  exact ⟨ret_bool (by rw [← HV.out,eOk,HVd.out,HVm.out,HVl.out,HVs.out,HVf.out,HPV.out, ← HK.out,HP.out,prefB,HPS.out.1,HPS.out.2,HUB.out];simp),bt HWW.out HB8.out⟩
                · go_roundw
                  case rel => exact ⟨n + 1,by omega,by omega,by go_num,⟨by rw [← HK.out,HP.out,prefB,HPS.out.1,HPS.out.2,HUB.out];rfl⟩,⟨bt HW.out HB8.out⟩⟩
                  case measure => simp [intOf];omega
            · have HPT:=As (show pv = true by rw [← HK.out,show e.log.length + 1 - n = 0 by omega];rfl)
              have HPS:=As (show psOk R = true by
                have h:=HPV.out
                rw [HPT.out,prefsB_iff] at h
                have h2:=h e.log.length (by have:=HS01.out;omega) (by have:=HS01.out;omega)
                rw [prefB,List.take_length,Bool.and_eq_true,HRR.out] at h2
                exact h2.1)
              have HP5:=As (show pgsB e 5 0 = b by rw [← HV.out,eOk,HVd.out,HVm.out,HVl.out,HVs.out,HVf.out,HPV.out,HPT.out, ← pgsB_all];simp)
              go_wp2
              replace HO:=As (Kd.S_below HO.out HW.out)
              obtain ⟨w5,rfl⟩ : ∃ w5,w5 = wr:=⟨_,rfl⟩
              go_loopw [6] (fun i wr => ∃ k : Nat,k ≤ 5 ∧ i = .int .i64 (k : Int) ∧ Aside0 (pgsB e (5 - k) k = b) ∧ Aside0 (Below w5.heap.size w5 wr)) (fun i _ => (5 - intOf i).toNat)
              case atStart => exact ⟨0,by omega,rfl,HP5,⟨Below.refl _ _⟩⟩
              case round => as_aux_lemma =>
                obtain ⟨k,hk,rfl,HK2,HW2⟩:=hrel
                have HWQ:=As (bt HWW.out HW2.out)
                have y0:=bc HW2.out x0
                have y1:=bc HW2.out x1
                have y2:=bc HW2.out x2
                have y3:=bc HW2.out x3
                have y4:=bc HW2.out x4
                clear x0 x1 x2 x3 x4
                by_cases hlt : k < 5
                · have hd5:=psOk_iff.1 HVd.out
                  have hm5:=psOk_iff.1 HVm.out
                  have hr5:=psOk_iff.1 HPS.out
                  have hpd : k < e.disk.length:=by omega
                  have hpm : k < e.mem.length:=by omega
                  obtain ⟨adm,Am2,cm2,rfl,QM, -,hmC⟩:=at_page HR.out.m k hpm
                  obtain ⟨add,Ad2,cd2,rfl,QD, -,hdC⟩:=at_page HR.out.d k hpd
                  obtain ⟨M,hM⟩ : ∃ M,pg e.mem k = M:=⟨_,rfl⟩
                  obtain ⟨Dp,hD⟩ : ∃ Dp,pg e.disk k = Dp:=⟨_,rfl⟩
                  obtain ⟨q,hq⟩ : ∃ q,pg R k = q:=⟨_,rfl⟩
                  obtain ⟨m0,m1,m2⟩:=QM.up HWQ.out
                  obtain ⟨d0,d1,d2⟩:=QD.up HWQ.out
                  obtain ⟨A3,c3,q0,q1,q2,qC, -⟩:=psS_at (Kd.S_below HO.out HW2.out) k hlt
                  have hoks:=And.intro (hm5.2 k hlt) (And.intro (hd5.2 k hlt) (hr5.2 k hlt))
                  have hqd : (pg e.disk k).lsn ≤ (pg R k).lsn:=by
                    rw [← HRR.out,pg_redo hd5.1 (fun k hk => (logOk_facts HVl.out hk).ok) k _ (Nat.le_refl _)]
                    exact (redo1_lsn _).1
                  rw [hM] at m0 m1 m2 hmC hoks
                  rw [hD] at d0 d1 d2 hdC hoks hqd
                  rw [hq] at q0 q1 q2 qC hoks hqd
                  have HOKs:=As hoks
                  have HQD:=As hqd
                  have HMD:=As (And.intro hM hD)
                  have HMC:=As hmC
                  have HDC:=As hdC
                  have HQC:=As qC
                  have HQQ:=As hq
                  have HPG:=As (show pgsB e (5 - k) k = (pageB e k && pgsB e (5 - (k + 1)) (k + 1)) by rw [show 5 - k = (5 - (k + 1)) + 1 by omega,pgsB])
                  have HPB:=As (show pageB e k = (decide (heldR e.log k 3 ≤ 1) && decide (Dp.lsn ≤ e.safe) && (if e.down = true then samePg M Dp else memB e k)) by rw [pageB,held_lock,hM,hD])
                  obtain ⟨dn,hdn⟩ : ∃ dn,e.down = dn:=⟨_,rfl⟩
                  rw [hdn] at y4
                  have HDN:=As hdn
                  clear hM hD hq hmC hdC QM QD hdn qC hoks hqd hd5 hm5 hr5
                  rcases lts e.safe Dp.lsn with ⟨e3,k1,k2⟩ | ⟨e3,k1,k2⟩
                  · go_wp2
                    refine text_start (fun w' => Below wr.heap.size wr w') rfl rfl (by kernel_rfl) (below_drew (Below.refl _ _)) (fun HT => ?_)
                    repeat (first
                      | (refine text_end (fun wx hS => ?_))
                      | (refine text_skip HT rfl (by rfl) (fun _ _ _ h => h) ?_;simp only [sc0,sc1])
                      | (refine text_val (v:=?_) HT rfl (by rfl) (fun _ _ _ h => h) (fun wx hS => ?_) ?_;rotate_left;(replace y0:=bc hS y0;replace y3:=bc hS y3;replace d0:=bc hS d0;go_simp;with_reducible rfl);rotate_left;simp only [sc0,sc1]))
                    go_wp2
                    go_ret
                    exact ⟨ret_bool (by rw [← HK2.out,HPG.out,HPB.out,k2];simp),bt HWQ.out hS⟩
                  · have HPC:=As (show pageB e k = (decide (heldR e.log k 3 ≤ 1) && (if e.down = true then samePg M Dp else memB e k)) by rw [HPB.out,k2];simp)
                    cases dn
                    · as_aux_lemma =>
                        obtain ⟨ldb,hld⟩ : ∃ ldb,loadR e.log k 3 = ldb:=⟨_,rfl⟩
                        have HLD:=As hld
                        have HPD:=As (show pageB e k = (decide (heldR e.log k 3 ≤ 1) && memB e k) by rw [HPC.out,if_neg (by rw [HDN.out];simp)])
                        clear hld
                        cases ldb
                        · as_aux_lemma =>
                            obtain ⟨s2,hs2⟩ : ∃ s2,samePg M q = s2:=⟨_,rfl⟩
                            have HS2:=As hs2
                            have HPE:=As (show memB e k = s2 by rw [memB,HLD.out,HRR.out,HMD.out.1,HQQ.out,hs2];simp)
                            clear hs2
                            go_wp2
                            refine text_start (fun w' => Below wr.heap.size wr w') rfl rfl (by kernel_rfl) (below_drew (Below.refl _ _)) (fun HT => ?_)
                            repeat (first
                              | (refine text_end (fun wx hS => ?_))
                              | ((with_reducible refine text_gate (f:=98) rfl ?_);refine text_call (v:=.bool false) (args:=#[.slice Al e.log.length cl, .int .i64 k]) HT rfl Tryz.func98 (by kernel_rfl) rfl rfl (by rfl) (fun _ _ _ h => h) (by simp only [List.map_toArray,List.map_cons,List.map_nil];rfl) (fun wx hS => (l11Loaded_calls (c:=cl) HLD.out (bt HWQ.out hS) HR.out.l HVl.out).mono fun _ _ h => ⟨h.1,h.2 ▸ hS⟩) ?_;simp only [sc0,sc1])
                              | ((with_reducible refine text_gate (f:=97) rfl ?_);refine text_call (v:=.bool s2) (args:=#[M.val Am2 cm2,q.val A3 c3]) HT rfl Tryz.func97 (by kernel_rfl) rfl rfl (by rfl) (fun _ _ _ h => h) (by simp only [List.map_toArray,List.map_cons,List.map_nil];rfl) (fun wx hS => (l11Same_calls (w0:=wr) (c:=cm2) (d:=c3) HS2.out HOKs.out.1 HOKs.out.2.2 hS (C_up HMC.out HWQ.out) HQC.out).mono fun _ _ h => ⟨h.1,bt hS h.2⟩) ?_;simp only [sc0,sc1])
                              | (refine text_skip HT rfl (by rfl) (fun _ _ _ h => h) ?_;simp only [sc0,sc1])
                              | (refine text_val (v:=?_) HT rfl (by rfl) (fun _ _ _ h => h) (fun wx hS => ?_) ?_;rotate_left;(replace y0:=bc hS y0;replace y1:=bc hS y1;replace y2:=bc hS y2;replace y3:=bc hS y3;replace y4:=bc hS y4;replace m0:=bc hS m0;replace m1:=bc hS m1;replace m2:=bc hS m2;replace d0:=bc hS d0;replace q0:=bc hS q0;replace q1:=bc hS q1;replace q2:=bc hS q2;go_simp;with_reducible rfl);rotate_left;simp only [sc0,sc1]))
                            cases s2
                            · go_wp2
                              go_ret
                              exact ⟨ret_bool (by rw [← HK2.out,HPG.out,HPD.out,HPE.out];simp),bt HWQ.out hS⟩
                            · have hmq:=samePg_iff.1 HS2.out
                              have HPX:=As (show pageB e k = decide (heldR e.log k 3 ≤ 1) by rw [HPD.out,HPE.out];simp)
                              rcases lts M.lsn Dp.lsn with ⟨e5,g1,g2⟩ | ⟨e5,g1,g2⟩
                              · exact absurd e5.out (by have:=HQD.out;rw [hmq];omega)
                              rcases beqs M.owner q.owner with ⟨e6,b1,c1⟩ | ⟨e6,b1,c1⟩
                              rotate_left
                              · exact absurd (by rw [hmq]) e6.out
                              clear hmq
                              have HX5:=As hS
                              replace y0:=bc hS y0;replace y1:=bc hS y1;replace y2:=bc hS y2;replace y3:=bc hS y3;replace y4:=bc hS y4;replace m0:=bc hS m0;replace m1:=bc hS m1;replace m2:=bc hS m2;replace d0:=bc hS d0;replace d1:=bc hS d1;replace d2:=bc hS d2;replace q0:=bc hS q0;replace q1:=bc hS q1;replace q2:=bc hS q2
                              clear hS
                              go_wp2
                              refine text_start (fun w' => Below wx.heap.size wx w') rfl rfl (by kernel_rfl) (below_drew (Below.refl _ _)) (fun HT => ?_)
                              repeat (first
                                | (refine text_end (fun wx hS => ?_))
                                | ((with_reducible refine text_gate (f:=98) rfl ?_);refine text_call (v:=.bool false) (args:=#[.slice Al e.log.length cl, .int .i64 k]) HT rfl Tryz.func98 (by kernel_rfl) rfl rfl (by rfl) (fun _ _ _ h => h) (by simp only [List.map_toArray,List.map_cons,List.map_nil];rfl) (fun wx hS => (l11Loaded_calls (c:=cl) HLD.out (bt HWQ.out (bt HX5.out hS)) HR.out.l HVl.out).mono fun _ _ h => ⟨h.1,h.2 ▸ hS⟩) ?_;simp only [sc0,sc1])
                                | (refine text_skip HT rfl (by rfl) (fun _ _ _ h => h) ?_;simp only [sc0,sc1])
                                | (refine text_val (v:=?_) HT rfl (by rfl) (fun _ _ _ h => h) (fun wx hS => ?_) ?_;rotate_left;(replace y0:=bc hS y0;replace y1:=bc hS y1;replace y2:=bc hS y2;replace y4:=bc hS y4;replace m0:=bc hS m0;replace m1:=bc hS m1;replace d0:=bc hS d0;replace q1:=bc hS q1;go_simp;with_reducible rfl);rotate_left;simp only [sc0,sc1]))
                              have HX6:=As (bt HX5.out hS)
                              replace y2:=bc hS y2
                              clear hS
                              go_wp2
                              try rw [decide_eq_true (show (k : Int) < 5 by omega)]
                              try rw [Bool.not_true]
                              try rw [c1]
                              go_loop [7,8] (fun h t => ∃ (j c : Nat),j ≤ 3 ∧ t = .int .i64 (4 - j : Int) ∧ h = .int .i64 (c : Int) ∧ c + j ≤ 3 ∧ Aside0 (c + heldR e.log k j = heldR e.log k 3)) (fun _ t => (4 - intOf t).toNat)
                              case atStart => exact ⟨3,0,by omega,rfl,rfl,by omega,⟨by simp⟩⟩
                              case round => as_aux_lemma =>
                                obtain ⟨j,c,hj,rfl,rfl,hc,HH⟩:=hrel
                                rcases j with _ | j
                                · rcases lts 1 (c : Int) with ⟨e7,g1,g2⟩ | ⟨e7,g1,g2⟩
                                  · go_wp2
                                    go_ret
                                    exact ⟨ret_bool (by rw [← HK2.out,HPG.out,HPX.out,decide_eq_false (by have:=HH.out;have:=e7.out;simp only [heldR] at *;omega)];rfl),bt HWQ.out HX6.out⟩
                                  · go_wp2
                                    go_roundw
                                    case rel => exact ⟨k + 1,by omega,by go_num,⟨by rw [← HK2.out,HPG.out,HPX.out,decide_eq_true (by have:=HH.out;have:=e7.out;simp only [heldR] at *;omega)];rfl⟩,⟨bt HW2.out HX6.out⟩⟩
                                    case measure => simp [intOf];omega
                                · have hw : (4 - ((j + 1 : Nat) : Int)) = 3 - (j : Int):=by omega
                                  rw [hw]
                                  have h1 : (3 - (j : Int)) ≤ 3:=by omega
                                  have h2 : 1 ≤ (3 - (j : Int)):=by omega
                                  clear hw
                                  obtain ⟨hb,hhb⟩ : ∃ hb,hasN e.log (lastN e.log (3 - (j : Int)) e.log.length) k = hb:=⟨_,rfl⟩
                                  have HHB:=As hhb
                                  clear hhb
                                  cases hb
                                  · go_wp2_with (go_at_call 56;refine (l3Has_calls (c:=cl) HHB.out (bt HWQ.out HX6.out) HR.out.l HVl.out).mono ?_;rintro x w7 ⟨rfl,rfl⟩)
                                    go_round
                                    case rel => exact ⟨j,c,by omega,by go_num,rfl,by omega,⟨by rw [← HH.out,heldR,HHB.out];simp⟩⟩
                                    case measure => simp [intOf];omega
                                  · go_wp2_with (go_at_call 56;refine (l3Has_calls (c:=cl) HHB.out (bt HWQ.out HX6.out) HR.out.l HVl.out).mono ?_;rintro x w7 ⟨rfl,rfl⟩)
                                    go_round
                                    case rel => exact ⟨j,c + 1,by omega,by go_num,by go_num,by omega,⟨by rw [← HH.out,heldR,HHB.out];simp;omega⟩⟩
                                    case measure => simp [intOf];omega
                        · as_aux_lemma =>
                            obtain ⟨fr,hfr⟩ : ∃ fr,freshB e k = fr:=⟨_,rfl⟩
                            have HFR:=As hfr
                            have HPE:=As (show memB e k = (M.owner == q.owner && fr) by rw [memB,if_pos HLD.out,HRR.out,HQQ.out, ← hfr,freshB,HMD.out.1,HMD.out.2,Bool.and_assoc])
                            have hcall : ∀ w' : World,Below wr.heap.size wr w' → Calls Tryz.prog 99 #[.agg #[.slice (some add) e.disk.length cd, .slice (some adm) e.mem.length cm, .slice Al e.log.length cl, .int .i64 e.safe, .bool false], .int .i64 k] w' fun x w2 => x = .returned (.bool fr) ∧ Below w'.heap.size w' w2:=fun w' hb => by
                              have h:=l11Fresh_calls (w0:=wr) (cd:=cd) (cm:=cm) (cl:=cl) HFR.out hlt HVd.out HVm.out hb (HR.out.up HWQ.out)
                              unfold Eng.val Eng.ag at h
                              rw [HDN.out] at h
                              exact h
                            clear hfr
                            go_wp2
                            refine text_start (fun w' => Below wr.heap.size wr w') rfl rfl (by kernel_rfl) (below_drew (Below.refl _ _)) (fun HT => ?_)
                            repeat (first
                              | (refine text_end (fun wx hS => ?_))
                              | ((with_reducible refine text_gate (f:=98) rfl ?_);refine text_call (v:=.bool true) (args:=#[.slice Al e.log.length cl, .int .i64 k]) HT rfl Tryz.func98 (by kernel_rfl) rfl rfl (by rfl) (fun _ _ _ h => h) (by simp only [List.map_toArray,List.map_cons,List.map_nil];rfl) (fun wx hS => (l11Loaded_calls (c:=cl) HLD.out (bt HWQ.out hS) HR.out.l HVl.out).mono fun _ _ h => ⟨h.1,h.2 ▸ hS⟩) ?_;simp only [sc0,sc1])
                              | (refine text_skip HT rfl (by rfl) (fun _ _ _ h => h) ?_;simp only [sc0,sc1])
                              | (refine text_val (v:=?_) HT rfl (by rfl) (fun _ _ _ h => h) (fun wx hS => ?_) ?_;rotate_left;(replace y0:=bc hS y0;replace y2:=bc hS y2;replace y3:=bc hS y3;replace y4:=bc hS y4;replace d0:=bc hS d0;go_simp;with_reducible rfl);rotate_left;simp only [sc0,sc1]))
                            have HX5:=As hS
                            replace y0:=bc hS y0;replace y1:=bc hS y1;replace y2:=bc hS y2;replace y3:=bc hS y3;replace y4:=bc hS y4;replace m0:=bc hS m0;replace m1:=bc hS m1;replace m2:=bc hS m2;replace d0:=bc hS d0;replace d1:=bc hS d1;replace d2:=bc hS d2;replace q0:=bc hS q0;replace q1:=bc hS q1;replace q2:=bc hS q2
                            clear hS
                            go_wp2
                            cases fr
                            · skip
                              refine text_start (fun w' => Below wx.heap.size wx w') rfl rfl (by kernel_rfl) (below_drew (Below.refl _ _)) (fun HT => ?_)
                              repeat (first
                                | (refine text_end (fun wx hS => ?_))
                                | ((with_reducible refine text_gate (f:=98) rfl ?_);refine text_call (v:=.bool true) (args:=#[.slice Al e.log.length cl, .int .i64 k]) HT rfl Tryz.func98 (by kernel_rfl) rfl rfl (by rfl) (fun _ _ _ h => h) (by simp only [List.map_toArray,List.map_cons,List.map_nil];rfl) (fun wx hS => (l11Loaded_calls (c:=cl) HLD.out (bt HWQ.out (bt HX5.out hS)) HR.out.l HVl.out).mono fun _ _ h => ⟨h.1,h.2 ▸ hS⟩) ?_;simp only [sc0,sc1])
                                | ((with_reducible refine text_gate (f:=99) rfl ?_);refine text_call (v:=.bool false) (args:=#[.agg #[.slice (some add) e.disk.length cd, .slice (some adm) e.mem.length cm, .slice Al e.log.length cl, .int .i64 e.safe, .bool false], .int .i64 k]) HT rfl Tryz.func99 (by kernel_rfl) rfl rfl (by rfl) (fun _ _ _ h => h) (by simp only [List.map_toArray,List.map_cons,List.map_nil];rfl) (fun wx hS => (hcall wx (bt HX5.out hS)).mono fun _ _ h => ⟨h.1,bt hS h.2⟩) ?_;simp only [sc0,sc1])
                                | (refine text_skip HT rfl (by rfl) (fun _ _ _ h => h) ?_;simp only [sc0,sc1])
                                | (refine text_val (v:=?_) HT rfl (by rfl) (fun _ _ _ h => h) (fun wx hS => ?_) ?_;rotate_left;(replace y0:=bc hS y0;replace y1:=bc hS y1;replace y2:=bc hS y2;replace y3:=bc hS y3;replace y4:=bc hS y4;go_simp;with_reducible rfl);rotate_left;simp only [sc0,sc1]))
                              go_wp2
                              go_ret
                              exact ⟨ret_bool (by rw [← HK2.out,HPG.out,HPD.out,HPE.out];simp),bt HWQ.out (bt HX5.out hS)⟩
                            · skip
                              refine text_start (fun w' => Below wx.heap.size wx w') rfl rfl (by kernel_rfl) (below_drew (Below.refl _ _)) (fun HT => ?_)
                              repeat (first
                                | (refine text_end (fun wx hS => ?_))
                                | ((with_reducible refine text_gate (f:=98) rfl ?_);refine text_call (v:=.bool true) (args:=#[.slice Al e.log.length cl, .int .i64 k]) HT rfl Tryz.func98 (by kernel_rfl) rfl rfl (by rfl) (fun _ _ _ h => h) (by simp only [List.map_toArray,List.map_cons,List.map_nil];rfl) (fun wx hS => (l11Loaded_calls (c:=cl) HLD.out (bt HWQ.out (bt HX5.out hS)) HR.out.l HVl.out).mono fun _ _ h => ⟨h.1,h.2 ▸ hS⟩) ?_;simp only [sc0,sc1])
                                | ((with_reducible refine text_gate (f:=99) rfl ?_);refine text_call (v:=.bool true) (args:=#[.agg #[.slice (some add) e.disk.length cd, .slice (some adm) e.mem.length cm, .slice Al e.log.length cl, .int .i64 e.safe, .bool false], .int .i64 k]) HT rfl Tryz.func99 (by kernel_rfl) rfl rfl (by rfl) (fun _ _ _ h => h) (by simp only [List.map_toArray,List.map_cons,List.map_nil];rfl) (fun wx hS => (hcall wx (bt HX5.out hS)).mono fun _ _ h => ⟨h.1,bt hS h.2⟩) ?_;simp only [sc0,sc1])
                                | (refine text_skip HT rfl (by rfl) (fun _ _ _ h => h) ?_;simp only [sc0,sc1])
                                | (refine text_val (v:=?_) HT rfl (by rfl) (fun _ _ _ h => h) (fun wx hS => ?_) ?_;rotate_left;(replace y0:=bc hS y0;replace y1:=bc hS y1;replace y2:=bc hS y2;replace y3:=bc hS y3;replace y4:=bc hS y4;replace m1:=bc hS m1;replace q1:=bc hS q1;go_simp;with_reducible rfl);rotate_left;simp only [sc0,sc1]))
                              rcases beqs M.owner q.owner with ⟨e6,b1,c1⟩ | ⟨e6,b1,c1⟩
                              · have HPX:=As (show pageB e k = decide (heldR e.log k 3 ≤ 1) by rw [HPD.out,HPE.out,b1];simp)
                                have HX6:=As (bt HX5.out hS)
                                replace y2:=bc hS y2
                                clear hS
                                go_wp2
                                try rw [decide_eq_true (show (k : Int) < 5 by omega)]
                                try rw [Bool.not_true]
                                try rw [c1]
                                go_loop [7,8] (fun h t => ∃ (j c : Nat),j ≤ 3 ∧ t = .int .i64 (4 - j : Int) ∧ h = .int .i64 (c : Int) ∧ c + j ≤ 3 ∧ Aside0 (c + heldR e.log k j = heldR e.log k 3)) (fun _ t => (4 - intOf t).toNat)
                                case atStart => exact ⟨3,0,by omega,rfl,rfl,by omega,⟨by simp⟩⟩
                                case round => as_aux_lemma =>
                                  obtain ⟨j,c,hj,rfl,rfl,hc,HH⟩:=hrel
                                  rcases j with _ | j
                                  · rcases lts 1 (c : Int) with ⟨e7,g1,g2⟩ | ⟨e7,g1,g2⟩
                                    · go_wp2
                                      go_ret
                                      exact ⟨ret_bool (by rw [← HK2.out,HPG.out,HPX.out,decide_eq_false (by have:=HH.out;have:=e7.out;simp only [heldR] at *;omega)];rfl),bt HWQ.out HX6.out⟩
                                    · go_wp2
                                      go_roundw
                                      case rel => exact ⟨k + 1,by omega,by go_num,⟨by rw [← HK2.out,HPG.out,HPX.out,decide_eq_true (by have:=HH.out;have:=e7.out;simp only [heldR] at *;omega)];rfl⟩,⟨bt HW2.out HX6.out⟩⟩
                                      case measure => simp [intOf];omega
                                  · have hw : (4 - ((j + 1 : Nat) : Int)) = 3 - (j : Int):=by omega
                                    rw [hw]
                                    have h1 : (3 - (j : Int)) ≤ 3:=by omega
                                    have h2 : 1 ≤ (3 - (j : Int)):=by omega
                                    clear hw
                                    obtain ⟨hb,hhb⟩ : ∃ hb,hasN e.log (lastN e.log (3 - (j : Int)) e.log.length) k = hb:=⟨_,rfl⟩
                                    have HHB:=As hhb
                                    clear hhb
                                    cases hb
                                    · go_wp2_with (go_at_call 56;refine (l3Has_calls (c:=cl) HHB.out (bt HWQ.out HX6.out) HR.out.l HVl.out).mono ?_;rintro x w7 ⟨rfl,rfl⟩)
                                      go_round
                                      case rel => exact ⟨j,c,by omega,by go_num,rfl,by omega,⟨by rw [← HH.out,heldR,HHB.out];simp⟩⟩
                                      case measure => simp [intOf];omega
                                    · go_wp2_with (go_at_call 56;refine (l3Has_calls (c:=cl) HHB.out (bt HWQ.out HX6.out) HR.out.l HVl.out).mono ?_;rintro x w7 ⟨rfl,rfl⟩)
                                      go_round
                                      case rel => exact ⟨j,c + 1,by omega,by go_num,by go_num,by omega,⟨by rw [← HH.out,heldR,HHB.out];simp;omega⟩⟩
                                      case measure => simp [intOf];omega
                              · skip
                                go_wp2
                                go_ret
                                exact ⟨ret_bool (by rw [← HK2.out,HPG.out,HPD.out,HPE.out,b1];simp),bt HWQ.out (bt HX5.out hS)⟩
                    · as_aux_lemma =>
                        obtain ⟨s1,hs1⟩ : ∃ s1,samePg M Dp = s1:=⟨_,rfl⟩
                        have HS1:=As hs1
                        have HPD:=As (show pageB e k = (decide (heldR e.log k 3 ≤ 1) && s1) by rw [HPC.out,if_pos HDN.out,hs1])
                        clear hs1
                        cases s1
                        · go_wp2
                          refine text_start (fun w' => Below wr.heap.size wr w') rfl rfl (by kernel_rfl) (below_drew (Below.refl _ _)) (fun HT => ?_)
                          repeat (first
                            | (refine text_end (fun wx hS => ?_))
                            | ((with_reducible refine text_gate (f:=97) rfl ?_);refine text_call (v:=.bool false) (args:=#[M.val Am2 cm2,Dp.val Ad2 cd2]) HT rfl Tryz.func97 (by kernel_rfl) rfl rfl (by rfl) (fun _ _ _ h => h) (by simp only [List.map_toArray,List.map_cons,List.map_nil];rfl) (fun wx hS => (l11Same_calls (c:=cm2) (d:=cd2) HS1.out HOKs.out.1 HOKs.out.2.1 (bt HWQ.out hS) HMC.out HDC.out).mono fun _ _ h => ⟨h.1,bt hS h.2⟩) ?_;simp only [sc0,sc1])
                            | (refine text_skip HT rfl (by rfl) (fun _ _ _ h => h) ?_;simp only [sc0,sc1])
                            | (refine text_val (v:=?_) HT rfl (by rfl) (fun _ _ _ h => h) (fun wx hS => ?_) ?_;rotate_left;(replace y0:=bc hS y0;replace y1:=bc hS y1;replace y3:=bc hS y3;replace y4:=bc hS y4;replace m0:=bc hS m0;replace m1:=bc hS m1;replace m2:=bc hS m2;replace d0:=bc hS d0;replace d1:=bc hS d1;replace d2:=bc hS d2;go_simp;with_reducible rfl);rotate_left;simp only [sc0,sc1]))
                          go_wp2
                          go_ret
                          exact ⟨ret_bool (by rw [← HK2.out,HPG.out,HPD.out];simp),bt HWQ.out hS⟩
                        · have HPX:=As (show pageB e k = decide (heldR e.log k 3 ≤ 1) by rw [HPD.out];simp)
                          go_wp2
                          refine text_start (fun w' => Below wr.heap.size wr w') rfl rfl (by kernel_rfl) (below_drew (Below.refl _ _)) (fun HT => ?_)
                          repeat (first
                            | (refine text_end (fun wx hS => ?_))
                            | ((with_reducible refine text_gate (f:=97) rfl ?_);refine text_call (v:=.bool true) (args:=#[M.val Am2 cm2,Dp.val Ad2 cd2]) HT rfl Tryz.func97 (by kernel_rfl) rfl rfl (by rfl) (fun _ _ _ h => h) (by simp only [List.map_toArray,List.map_cons,List.map_nil];rfl) (fun wx hS => (l11Same_calls (c:=cm2) (d:=cd2) HS1.out HOKs.out.1 HOKs.out.2.1 (bt HWQ.out hS) HMC.out HDC.out).mono fun _ _ h => ⟨h.1,bt hS h.2⟩) ?_;simp only [sc0,sc1])
                            | (refine text_skip HT rfl (by rfl) (fun _ _ _ h => h) ?_;simp only [sc0,sc1])
                            | (refine text_val (v:=?_) HT rfl (by rfl) (fun _ _ _ h => h) (fun wx hS => ?_) ?_;rotate_left;(replace y0:=bc hS y0;replace y1:=bc hS y1;replace y3:=bc hS y3;replace y4:=bc hS y4;replace m0:=bc hS m0;replace m1:=bc hS m1;replace m2:=bc hS m2;replace d0:=bc hS d0;replace d1:=bc hS d1;replace d2:=bc hS d2;go_simp;with_reducible rfl);rotate_left;simp only [sc0,sc1]))
                          have HX5:=As hS
                          replace y0:=bc hS y0;replace y1:=bc hS y1;replace y2:=bc hS y2;replace y3:=bc hS y3;replace y4:=bc hS y4;replace m0:=bc hS m0;replace m1:=bc hS m1;replace m2:=bc hS m2;replace d0:=bc hS d0;replace d1:=bc hS d1;replace d2:=bc hS d2;replace q0:=bc hS q0;replace q1:=bc hS q1;replace q2:=bc hS q2
                          clear hS
                          go_wp2
                          refine text_start (fun w' => Below wx.heap.size wx w') rfl rfl (by kernel_rfl) (below_drew (Below.refl _ _)) (fun HT => ?_)
                          repeat (first
                            | (refine text_end (fun wx hS => ?_))
                            | (refine text_skip HT rfl (by rfl) (fun _ _ _ h => h) ?_;simp only [sc0,sc1])
                            | (refine text_val (v:=?_) HT rfl (by rfl) (fun _ _ _ h => h) (fun wx hS => ?_) ?_;rotate_left;(replace y4:=bc hS y4;go_simp;with_reducible rfl);rotate_left;simp only [sc0,sc1]))
                          have HX6:=As (bt HX5.out hS)
                          replace y2:=bc hS y2
                          clear hS
                          go_wp2
                          try rw [decide_eq_true (show (k : Int) < 5 by omega)]
                          try rw [Bool.not_true]
                          try rw [c1]
                          go_loop [7,8] (fun h t => ∃ (j c : Nat),j ≤ 3 ∧ t = .int .i64 (4 - j : Int) ∧ h = .int .i64 (c : Int) ∧ c + j ≤ 3 ∧ Aside0 (c + heldR e.log k j = heldR e.log k 3)) (fun _ t => (4 - intOf t).toNat)
                          case atStart => exact ⟨3,0,by omega,rfl,rfl,by omega,⟨by simp⟩⟩
                          case round => as_aux_lemma =>
                            obtain ⟨j,c,hj,rfl,rfl,hc,HH⟩:=hrel
                            rcases j with _ | j
                            · rcases lts 1 (c : Int) with ⟨e7,g1,g2⟩ | ⟨e7,g1,g2⟩
                              · go_wp2
                                go_ret
                                exact ⟨ret_bool (by rw [← HK2.out,HPG.out,HPX.out,decide_eq_false (by have:=HH.out;have:=e7.out;simp only [heldR] at *;omega)];rfl),bt HWQ.out HX6.out⟩
                              · go_wp2
                                go_roundw
                                case rel => exact ⟨k + 1,by omega,by go_num,⟨by rw [← HK2.out,HPG.out,HPX.out,decide_eq_true (by have:=HH.out;have:=e7.out;simp only [heldR] at *;omega)];rfl⟩,⟨bt HW2.out HX6.out⟩⟩
                                case measure => simp [intOf];omega
                            · have hw : (4 - ((j + 1 : Nat) : Int)) = 3 - (j : Int):=by omega
                              rw [hw]
                              have h1 : (3 - (j : Int)) ≤ 3:=by omega
                              have h2 : 1 ≤ (3 - (j : Int)):=by omega
                              clear hw
                              obtain ⟨hb,hhb⟩ : ∃ hb,hasN e.log (lastN e.log (3 - (j : Int)) e.log.length) k = hb:=⟨_,rfl⟩
                              have HHB:=As hhb
                              clear hhb
                              cases hb
                              · go_wp2_with (go_at_call 56;refine (l3Has_calls (c:=cl) HHB.out (bt HWQ.out HX6.out) HR.out.l HVl.out).mono ?_;rintro x w7 ⟨rfl,rfl⟩)
                                go_round
                                case rel => exact ⟨j,c,by omega,by go_num,rfl,by omega,⟨by rw [← HH.out,heldR,HHB.out];simp⟩⟩
                                case measure => simp [intOf];omega
                              · go_wp2_with (go_at_call 56;refine (l3Has_calls (c:=cl) HHB.out (bt HWQ.out HX6.out) HR.out.l HVl.out).mono ?_;rintro x w7 ⟨rfl,rfl⟩)
                                go_round
                                case rel => exact ⟨j,c + 1,by omega,by go_num,by go_num,by omega,⟨by rw [← HH.out,heldR,HHB.out];simp;omega⟩⟩
                                case measure => simp [intOf];omega
                · go_wp2
                  go_ret
                  exact ⟨ret_bool (by rw [← HK2.out,show 5 - k = 0 by omega];rfl),HWQ.out⟩
set_option maxRecDepth 100000 in
set_option maxHeartbeats 8000000 in
theorem specRiseUp_calls {w0 w : World} {e : Eng} {Ad Am Al : Option Addr} {cd cm cl : Nat} (steps : Int) (hcl : e.log.length ≤ cl) (hb : Below w0.heap.size w0 w) (hr : EngC w0 e Ad Am Al) : Calls Tryz.prog 13 #[e.val Ad Am Al cd cm cl, .int .i64 steps] w (RetEB w (upR e steps).1 (upR e steps).2):=by
  have HR:=As (hr.up hb)
  clear hr hb
  obtain ⟨w1,hw1⟩ : ∃ w1,w.alloc (e.obox (.slice Ad e.disk.length cd) (.slice Am e.mem.length cm) (.slice Al e.log.length cl)) = w1:=⟨_,rfl⟩
  obtain ⟨w2,hw2⟩ : ∃ w2,w1.alloc (zE.obox (.slice none 0 0) (.slice none 0 0) (.slice none 0 0)) = w2:=⟨_,rfl⟩
  have hz1 : w1.heap.size = w.heap.size + 1:=by rw [← hw1];exact size1 _ _
  have hz2 : w2.heap.size = w.heap.size + 2:=by rw [← hw2,size1,hz1]
  have hb12 : Below w1.heap.size w1 w2:=by rw [← hw2];exact bel_alloc (Below.refl _ _) _
  have HB2 : Aside0 (Below w.heap.size w w2):=⟨by rw [← hw2, ← hw1];exact bel_alloc (bel_alloc (Below.refl _ _) _) _⟩
  have HQ2 : Aside0 (EgBox w2 w.heap.size e (.slice Ad e.disk.length cd) (.slice Am e.mem.length cm) (.slice Al e.log.length cl)):=⟨EgBox.up (by rw [← hw1];exact EgBox.mk1 _ _ _ _ _) hb12⟩
  have HP2 : Aside0 (EgBox w2 (w.heap.size + 1) zE (.slice none 0 0) (.slice none 0 0) (.slice none 0 0)):=⟨by rw [← hw2, ← hz1];exact EgBox.mk1 _ _ _ _ _⟩
  have HW2 : Aside0 ((w.alloc (e.obox (.slice Ad e.disk.length cd) (.slice Am e.mem.length cm) (.slice Al e.log.length cl))).alloc (zE.obox (.slice none 0 0) (.slice none 0 0) (.slice none 0 0)) = w2):=⟨by rw [hw1,hw2]⟩
  have HZ2:=As hz2
  clear hw1 hw2 hz1 hz2 hb12
  have x0:=HQ2.out.c0
  have x1:=HQ2.out.c1
  have x2:=HQ2.out.c2
  have x3:=HQ2.out.c3
  have x4:=HQ2.out.c4
  cases hv : eOk e
  · have HV:=As hv
    have hE : upR e steps = (zE,false):=by rw [upR,if_neg (by rw [hv];simp)]
    rw [hE]
    clear hv hE
    go_enter Tryz.func13,Tryz.ntmps13
    go_wp2_with (go_at_call 41;rw [show (w.alloc (Obj.cells #[Value.slice Ad e.disk.length cd,Value.slice Am e.mem.length cm,Value.slice Al e.log.length cl,Value.int IntKind.i64 e.safe,Value.bool e.down] 28)).alloc (Obj.cells #[Value.slice none 0 0,Value.slice none 0 0,Value.slice none 0 0,Value.int IntKind.i64 0,Value.bool false] 28) = w2 from HW2.out];refine (specEngineOk_calls (cd:=cd) (cm:=cm) HV.out hcl HB2.out HR.out).mono ?_;rintro x w3 ⟨rfl,hb3⟩;have HB3:=As (bt HB2.out hb3);have HP3:=As (HP2.out.up hb3);have y0:=HP3.out.c0;have y1:=HP3.out.c1;have y2:=HP3.out.c2;have y3:=HP3.out.c3;have y4:=HP3.out.c4;have f0:=HP3.out.frz 0;have f1:=HP3.out.frz 1;have f2:=HP3.out.frz 2;have f3:=HP3.out.frz 3;have f4:=HP3.out.frz 4;clear hb3)
    obtain ⟨z0,z1,z2,z3,z4⟩:=HP3.out.empty
    exact bodyPost_ret (v:=.tuple #[zEv, .bool false]) (by simp [results,Tryz.results13,go_sem,z0,z1,z2,z3,z4]) rfl ⟨_,_,_,rfl,own_zE _ _,bel_set5 (g:=w.heap.size + 1) HB3.out (by omega) zE _ _ _⟩
  · have HV:=As hv
    have HF:=As (okF_iff.1 hv)
    clear hv
    rcases lts steps 0 with ⟨e1,b1,c1⟩ | ⟨e1,b1,c1⟩
    · have hE : upR e steps = (zE,false):=by rw [upR,if_neg (by have:=e1.out;omega)]
      rw [hE]
      clear hE
      have hl0:=e1.out
      go_enter Tryz.func13,Tryz.ntmps13
      go_wp2_with (go_at_call 41;rw [show (w.alloc (Obj.cells #[Value.slice Ad e.disk.length cd,Value.slice Am e.mem.length cm,Value.slice Al e.log.length cl,Value.int IntKind.i64 e.safe,Value.bool e.down] 28)).alloc (Obj.cells #[Value.slice none 0 0,Value.slice none 0 0,Value.slice none 0 0,Value.int IntKind.i64 0,Value.bool false] 28) = w2 from HW2.out];refine (specEngineOk_calls (cd:=cd) (cm:=cm) HV.out hcl HB2.out HR.out).mono ?_;rintro x w3 ⟨rfl,hb3⟩;have HB3:=As (bt HB2.out hb3);have HP3:=As (HP2.out.up hb3);have y0:=HP3.out.c0;have y1:=HP3.out.c1;have y2:=HP3.out.c2;have y3:=HP3.out.c3;have y4:=HP3.out.c4;have f0:=HP3.out.frz 0;have f1:=HP3.out.frz 1;have f2:=HP3.out.frz 2;have f3:=HP3.out.frz 3;have f4:=HP3.out.frz 4;clear hb3)
      obtain ⟨z0,z1,z2,z3,z4⟩:=HP3.out.empty
      exact bodyPost_ret (v:=.tuple #[zEv, .bool false]) (by simp [results,Tryz.results13,go_sem,z0,z1,z2,z3,z4]) rfl ⟨_,_,_,rfl,own_zE _ _,bel_set5 (g:=w.heap.size + 1) HB3.out (by omega) zE _ _ _⟩
    · obtain ⟨n,hn⟩ : ∃ n : Nat,steps = (n : Int):=⟨steps.toNat,by have:=e1.out;omega⟩
      subst hn
      have HLG:=As (logOk_len HF.out.log)
      have hn0 : (0 : Int) ≤ (n : Int):=by omega
      cases hdn : e.down
      all_goals have HDN:=As hdn
      · have hE : upR e (n : Int) = (e,false):=by rw [upR,if_pos ⟨HV.out,e1.out⟩,if_neg (by rw [hdn];simp)]
        rw [hE]
        clear hE hdn
        go_enter Tryz.func13,Tryz.ntmps13
        go_wp2_with (first
          | (go_at_call 41;rw [show (w.alloc (Obj.cells #[Value.slice Ad e.disk.length cd,Value.slice Am e.mem.length cm,Value.slice Al e.log.length cl,Value.int IntKind.i64 e.safe,Value.bool e.down] 28)).alloc (Obj.cells #[Value.slice none 0 0,Value.slice none 0 0,Value.slice none 0 0,Value.int IntKind.i64 0,Value.bool false] 28) = w2 from HW2.out];refine (specEngineOk_calls (cd:=cd) (cm:=cm) HV.out hcl HB2.out HR.out).mono ?_;rintro x w3 ⟨rfl,hb3⟩;have HB3:=As (bt HB2.out hb3);have HX3:=As hb3;replace x0:=bc hb3 x0;replace x1:=bc hb3 x1;replace x2:=bc hb3 x2;replace x3:=bc hb3 x3;replace x4:=bc hb3 x4;clear hb3)
          | (go_at_call 42;refine (l11Copy_calls (cd:=cd) (cm:=cm) (cl:=cl) (psOk_geo HF.out.disk) (psOk_geo HF.out.mem) HLG.out HB3.out HR.out).mono ?_;rintro x w4 ⟨vd,vm,vl,rfl,ho,hb4⟩;obtain ⟨Bd,dd,Bm,dm,Bl,dl,rfl,rfl,rfl, -, -⟩:=ho.reads;have HO4:=As (ho.lower (b':=w2.heap.size) HX3.out.size);have HB4:=As (bt HX3.out hb4);replace x4:=bc hb4 x4;rw [HDN.out] at x4;clear ho hb4 x0 x1 x2 x3)
          | (refine wpl_box_eg (vd:=.slice Bd e.disk.length dd) (vm:=.slice Bm e.mem.length dm) (vl:=.slice Bl e.log.length dl) e ?_;intro w5 hb5 _ hq5;have HO5:=As (HO4.out.below hb5);have HX5:=As (bt HB4.out hb5);have a0:=hq5.c0;have a1:=hq5.c1;have a2:=hq5.c2;have a3:=hq5.c3;have a4:=hq5.c4;replace x4:=bc hb5 x4;have HP5:=As (HP2.out.up HX5.out);have y0:=HP5.out.c0;have y1:=HP5.out.c1;have y2:=HP5.out.c2;have y3:=HP5.out.c3;have y4:=HP5.out.c4;have f0:=HP5.out.frz 0;have f1:=HP5.out.frz 1;have f2:=HP5.out.frz 2;have f3:=HP5.out.frz 3;have f4:=HP5.out.frz 4;clear hb5 hq5))
        have hz:=HZ2.out
        have hy:=HP5.out.set5 e (.slice Bd e.disk.length dd) (.slice Bm e.mem.length dm) (.slice Bl e.log.length dl)
        have h1:=HO5.out.set5 (f:=e) (xd:=.slice Bd e.disk.length dd) (xm:=.slice Bm e.mem.length dm) (xl:=.slice Bl e.log.length dl) HP5.out
        have h2:=bel_set5 (g:=w.heap.size + 1) (bt HB2.out HX5.out) (by omega) e (.slice Bd e.disk.length dd) (.slice Bm e.mem.length dm) (.slice Bl e.log.length dl)
        have z0:=hy.c0
        have z1:=hy.c1
        have z2:=hy.c2
        have z3:=hy.c3
        have z4:=hy.c4
        exact bodyPost_ret (v:=.tuple #[e.ag (.slice Bd e.disk.length dd) (.slice Bm e.mem.length dm) (.slice Bl e.log.length dl), .bool false]) (by simp [results,Tryz.results13,go_sem,z0,z1,z2,z3,z4]) rfl ⟨_,_,_,rfl,h1.lower (by omega),h2⟩
      · obtain ⟨X,hX⟩ : ∃ X,riseK n (startE e) = X:=⟨_,rfl⟩
        have hE : upR e (n : Int) = (upE X,decide (firstO X = 0)):=by rw [upR,if_pos ⟨HV.out,e1.out⟩,if_pos hdn,Int.toNat_natCast,hX]
        rw [hE]
        obtain ⟨E,hEE⟩ : ∃ E,upE X = E:=⟨_,rfl⟩
        obtain ⟨B,hBB⟩ : ∃ B,decide (firstO X = 0) = B:=⟨_,rfl⟩
        have hup : ∀ wx vd vm vl,OwnE wx w2.heap.size vd vm vl e → Below w2.heap.size w2 wx → Calls Tryz.prog 43 #[e.ag vd vm vl, .int .i64 (n : Int)] wx fun x w' => ∃ ud um ul,x = .returned (.tuple #[E.ag ud um ul, .bool B]) ∧ OwnE w' w2.heap.size ud um ul E ∧ Below w2.heap.size w2 w':=fun wx vd vm vl ho hb => by
          have:=l21Up_calls n (psOk_geo HF.out.disk) HF.out.log HF.out.rise hb ho
          rw [← hEE, ← hBB, ← hX]
          exact this
        have HUP:=As hup
        rw [hEE,hBB]
        clear hE hdn hup hEE hBB hX
        go_enter Tryz.func13,Tryz.ntmps13
        go_wp2_with (first
          | (go_at_call 41;rw [show (w.alloc (Obj.cells #[Value.slice Ad e.disk.length cd,Value.slice Am e.mem.length cm,Value.slice Al e.log.length cl,Value.int IntKind.i64 e.safe,Value.bool e.down] 28)).alloc (Obj.cells #[Value.slice none 0 0,Value.slice none 0 0,Value.slice none 0 0,Value.int IntKind.i64 0,Value.bool false] 28) = w2 from HW2.out];refine (specEngineOk_calls (cd:=cd) (cm:=cm) HV.out hcl HB2.out HR.out).mono ?_;rintro x w3 ⟨rfl,hb3⟩;have HB3:=As (bt HB2.out hb3);have HX3:=As hb3;replace x0:=bc hb3 x0;replace x1:=bc hb3 x1;replace x2:=bc hb3 x2;replace x3:=bc hb3 x3;replace x4:=bc hb3 x4;clear hb3)
          | (go_at_call 42;refine (l11Copy_calls (cd:=cd) (cm:=cm) (cl:=cl) (psOk_geo HF.out.disk) (psOk_geo HF.out.mem) HLG.out HB3.out HR.out).mono ?_;rintro x w4 ⟨vd,vm,vl,rfl,ho,hb4⟩;obtain ⟨Bd,dd,Bm,dm,Bl,dl,rfl,rfl,rfl, -, -⟩:=ho.reads;have HO4:=As (ho.lower (b':=w2.heap.size) HX3.out.size);have HB4:=As (bt HX3.out hb4);replace x4:=bc hb4 x4;rw [HDN.out] at x4;clear ho hb4 x0 x1 x2 x3)
          | (refine wpl_box_eg (vd:=.slice Bd e.disk.length dd) (vm:=.slice Bm e.mem.length dm) (vl:=.slice Bl e.log.length dl) e ?_;intro w5 hb5 _ hq5;have HO5:=As (HO4.out.below hb5);have HX5:=As (bt HB4.out hb5);have a0:=hq5.c0;have a1:=hq5.c1;have a2:=hq5.c2;have a3:=hq5.c3;have a4:=hq5.c4;replace x4:=bc hb5 x4;clear hb5 hq5)
          | (go_at_call 43;refine (HUP.out _ _ _ _ HO5.out HX5.out).mono ?_;rintro x w6 ⟨ud,um,ul,rfl,ho,hb6⟩;obtain ⟨Cd,gd,Cm,gm,Cl,gl,rfl,rfl,rfl, -, -⟩:=ho.reads;have HO6:=As ho;have HB6:=As (bt HB2.out hb6);have HP6:=As (HP2.out.up hb6);have y0:=HP6.out.c0;have y1:=HP6.out.c1;have y2:=HP6.out.c2;have y3:=HP6.out.c3;have y4:=HP6.out.c4;have f0:=HP6.out.frz 0;have f1:=HP6.out.frz 1;have f2:=HP6.out.frz 2;have f3:=HP6.out.frz 3;have f4:=HP6.out.frz 4;clear ho hb6 a0 a1 a2 a3 a4 x4))
        have hz:=HZ2.out
        have hy:=HP6.out.set5 E (.slice Cd E.disk.length gd) (.slice Cm E.mem.length gm) (.slice Cl E.log.length gl)
        have h1:=HO6.out.set5 (f:=E) (xd:=.slice Cd E.disk.length gd) (xm:=.slice Cm E.mem.length gm) (xl:=.slice Cl E.log.length gl) HP6.out
        have h2:=bel_set5 (g:=w.heap.size + 1) HB6.out (by omega) E (.slice Cd E.disk.length gd) (.slice Cm E.mem.length gm) (.slice Cl E.log.length gl)
        have z0:=hy.c0
        have z1:=hy.c1
        have z2:=hy.c2
        have z3:=hy.c3
        have z4:=hy.c4
        exact bodyPost_ret (v:=.tuple #[E.ag (.slice Cd E.disk.length gd) (.slice Cm E.mem.length gm) (.slice Cl E.log.length gl), .bool B]) (by simp [results,Tryz.results13,go_sem,z0,z1,z2,z3,z4]) rfl ⟨_,_,_,rfl,h1.lower (by omega),h2⟩
theorem few_geo {ps : List Page} (h : geo ps) : ps.length ≤ 1048576 ∧ ∀ p ∈ ps,p.vals.length ≤ 1048576:=⟨by rw [h.1];decide,fun p hp => by rw [h.2 p hp];decide⟩
/-- What rises is no greater than its bounds. -/
theorem few_upR {e : Eng} {left : Int} (h : fewE e) : fewE (upR e left).1:=by
  unfold upR
  split
  · rename_i hv
    split
    · have hf:=okF_iff.1 hv.1
      have hr:=RiseOk.all left.toNat (startE e) hf.rise
      have hk:=(riseK_keeps left.toNat (startE e)).1
      have hd : geo (riseK left.toNat (startE e)).disk:=by rw [hk];exact psOk_geo hf.disk
      have hm : geo (riseK left.toNat (startE e)).mem:=psOk_geo (UndL.mem hr)
      have hl : (riseK left.toNat (startE e)).log.length ≤ 1048576:=Nat.le_trans (logOk_len (UndL.log hr)) (by decide)
      show fewE (upE _)
      unfold upE
      split
      · exact ⟨few_geo hd,few_geo hm,hl⟩
      · exact ⟨few_geo hd,few_geo hd,hl⟩
    · exact h
  · exact ⟨⟨by simp [zE],fun p hp => by cases hp⟩,⟨by simp [zE],fun p hp => by cases hp⟩,by simp [zE]⟩
set_option maxRecDepth 100000 in
set_option maxHeartbeats 16000000 in
theorem FnExactRiseUp_calls {w0 w : World} {e : Eng} {Ad Am Al : Option Addr} {cd cm cl : Nat} (left : Int) (hb : Below w0.heap.size w0 w) (hr : EngC w0 e Ad Am Al) : Calls Tryz.prog 4 #[e.val Ad Am Al cd cm cl, .int .i64 left] w (RetYes w):=by
  have HR:=As (hr.up hb)
  clear hr hb
  obtain ⟨W1,hW1⟩ : ∃ W1,w.alloc (.cells #[.slice Ad e.disk.length cd, .slice Am e.mem.length cm, .slice Al e.log.length cl, .int .i64 e.safe, .bool e.down] 40) = W1:=⟨_,rfl⟩
  have HW1:=As hW1
  have HI1 : Aside0 (LgBox W1 w.heap.size e (.slice Ad e.disk.length cd) (.slice Am e.mem.length cm) (.slice Al e.log.length cl)):=⟨by rw [← hW1];exact LgBox.mk1 _ _ _ _ _⟩
  have HB1 : Aside0 (Below w.heap.size w W1):=⟨by rw [← hW1];exact bel_alloc (Below.refl _ _) _⟩
  clear hW1
  have i0:=HI1.out.c0
  have i1:=HI1.out.c1
  have i2:=HI1.out.c2
  have i3:=HI1.out.c3
  have i4:=HI1.out.c4
  obtain ⟨z,hz⟩ : ∃ z,szE e 1048576 = z:=⟨_,rfl⟩
  have HZ:=As hz
  clear hz
  rcases lts z 0 with ⟨e1,b1,c1⟩ | ⟨e1,b1,c1⟩
  · go_enter Tryz.func4,Tryz.ntmps4
    go_wp2_with (first | (go_at_call 12;rw [HW1.out];refine (szEngine_calls (cd:=cd) (cm:=cm) (cl:=cl) 1048576 (by decide) (by decide) HB1.out HR.out).mono ?_;rw [HZ.out];rintro x w2 ⟨rfl,hb2⟩;have HB2:=As (bt HB1.out hb2);clear hb2))
    go_ret
    exact ⟨rfl,HB2.out⟩
  · have HF:=As (few_of_sz (e:=e) (by rw [HZ.out];exact e1.out))
    have HFE0 : fewE (upR e left).1:=few_upR HF.out
    obtain ⟨R,hR⟩ : ∃ R,upR e left = R:=⟨_,rfl⟩
    rw [hR] at HFE0
    obtain ⟨E,bb⟩:=R
    have HFE:=As (show fewE E from HFE0)
    have HE:=As hR
    have hbb:=ne_sameB bb
    have hk1 : decide (1 + (cntE e : Int) < 0) = false:=by simp;omega
    have hk2 : decide (1 + (cntE E : Int) < 0) = false:=by simp;omega
    have hk3 : ((1 + (cntE E : Int)) != (1 + (cntE E : Int))) = false:=by simp
    clear hR HFE0
    go_enter Tryz.func4,Tryz.ntmps4
    go_wp2_with (first
      | (go_at_call 12;rw [HW1.out];refine (szEngine_calls (cd:=cd) (cm:=cm) (cl:=cl) 1048576 (by decide) (by decide) HB1.out HR.out).mono ?_;rw [HZ.out];rintro x w2 ⟨rfl,hb2⟩;have HB2:=As (bt HB1.out hb2);have HI2:=As (HI1.out.up hb2);clear hb2;clear i0 i1 i2 i3 i4;have i0:=(HI2.out).c0;have i1:=(HI2.out).c1;have i2:=(HI2.out).c2;have i3:=(HI2.out).c3;have i4:=(HI2.out).c4)
      | (go_at_call 14;refine (toEngine_calls HF.out HB2.out HR.out).mono ?_;rintro x w3 ⟨vd,vm,vl,rfl,ho,hb3⟩;obtain ⟨Bd,dd,Bm,dm,Bl,dl,rfl,rfl,rfl,hdl,hc⟩:=ho.reads;have HC3:=As hc;have HDL3:=As hdl;have HB3:=As (bt HB2.out hb3);have HI3:=As (HI2.out.up hb3);clear HB2 HI2 ho hb3 hc hdl;clear i0 i1 i2 i3 i4;have i0:=(HI3.out).c0;have i1:=(HI3.out).c1;have i2:=(HI3.out).c2;have i3:=(HI3.out).c3;have i4:=(HI3.out).c4)
      | (go_at_call 13;refine (specRiseUp_calls (cd:=dd) (cm:=dm) left HDL3.out (Below.refl w3.heap.size w3) HC3.out).mono ?_;rw [HE.out];rintro x w4 ⟨vd,vm,vl,rfl,ho,hb4⟩;obtain ⟨Jd,s1_,Jm,s2_,Jl,s3_,rfl,rfl,rfl, -,hc⟩:=ho.reads;have HS4:=As hc;have HB4:=As (bt HB3.out hb4);have HI4:=As (HI3.out.up hb4);clear HB3 HI3 HC3 HDL3 ho hb4 hc;clear i0 i1 i2 i3 i4;have i0:=(HI4.out).c0;have i1:=(HI4.out).c1;have i2:=(HI4.out).c2;have i3:=(HI4.out).c3;have i4:=(HI4.out).c4)
      | (refine wpl_box_eg (vd:=.slice Jd E.disk.length s1_) (vm:=.slice Jm E.mem.length s2_) (vl:=.slice Jl E.log.length s3_) E ?_;intro w5 hb5 _ hq5;have HS5:=As (HS4.out.up hb5);have HB5:=As (bt HB4.out hb5);have HI5:=As (HI4.out.up hb5);have HQ5:=As hq5;clear HB4 HI4 HS4 hb5 hq5;clear i0 i1 i2 i3 i4;have i0:=(HI5.out).c0;have i1:=(HI5.out).c1;have i2:=(HI5.out).c2;have i3:=(HI5.out).c3;have i4:=(HI5.out).c4)
      | (go_at_call 14;refine (toEngine_calls HF.out HB5.out HR.out).mono ?_;rintro x w6 ⟨vd,vm,vl,rfl,ho,hb6⟩;obtain ⟨Xd,x1_,Xm,x2_,Xl,x3_,rfl,rfl,rfl,hdl,hc⟩:=ho.reads;have HC6:=As hc;have HDL6:=As hdl;have HX6:=As ho.toK;have HT6:=As hb6;have HN6:=As hb6.size;clear ho hb6 hc hdl;clear i0 i1 i2 i3 i4)
      | (refine wpl_box_eg (vd:=.slice Xd e.disk.length x1_) (vm:=.slice Xm e.mem.length x2_) (vl:=.slice Xl e.log.length x3_) e ?_;intro w7 hb7 hz7 hq7;have HZ7:=As hz7;have HC7:=As (HC6.out.up hb7);have HX7:=As (HX6.out.below hb7);have HT7:=As (bt HT6.out hb7);have HQ7:=As hq7;clear HC6 HX6 HT6 hb7 hz7 hq7;have x0:=(HQ7.out).c0;have x1:=(HQ7.out).c1;have x2:=(HQ7.out).c2;have x3:=(HQ7.out).c3;have x4:=(HQ7.out).c4)
      | (go_at_call 15;refine (RiseUp_calls (cd:=x1_) (cm:=x2_) left HDL6.out (Below.refl w7.heap.size w7) HC7.out).mono ?_;rw [HE.out];rintro x w8 ⟨vd,vm,vl,rfl,ho,hb8⟩;obtain ⟨Gd,g1_,Gm,g2_,Gl,g3_,rfl,rfl,rfl, -,hc⟩:=ho.reads;have HG8:=As ho.toK;have HC8:=As hc;have HXC8:=As (HC7.out.up hb8);have HX8:=As (HX7.out.below hb8);have HT8:=As (bt HT7.out hb8);have HQ8:=As (HQ7.out.up hb8);have HN8:=As hb8.size;clear HC7 HX7 HT7 HQ7 ho hb8 hc;clear x0 x1 x2 x3 x4)
      | (refine wpl_box_eg (vd:=.slice Gd E.disk.length g1_) (vm:=.slice Gm E.mem.length g2_) (vl:=.slice Gl E.log.length g3_) E ?_;intro w9 hb9 hz9 hq9;have HZ9:=As hz9;have HG9:=As (HG8.out.below hb9);have HC9:=As (HC8.out.up hb9);have HXC9:=As (HXC8.out.up hb9);have HX9:=As (HX8.out.below hb9);have HT9:=As (bt HT8.out hb9);have HQ9:=As (HQ8.out.up hb9);have HR9:=As hq9;clear HG8 HC8 HXC8 HX8 HT8 HQ8 hb9 hz9 hq9;have g0:=(HR9.out).c0;have g1:=(HR9.out).c1;have g2:=(HR9.out).c2;have g3:=(HR9.out).c3;have g4:=(HR9.out).c4;have s0:=(HQ5.out.up HT9.out).c0;have s1:=(HQ5.out.up HT9.out).c1;have s2:=(HQ5.out.up HT9.out).c2;have s3:=(HQ5.out.up HT9.out).c3;have s4:=(HQ5.out.up HT9.out).c4)
      | (go_at_call 16;refine (eqEngine_calls (Below.refl w9.heap.size w9) HC9.out HT9.out HS5.out).mono ?_;rintro x w10 ⟨rfl,hb10⟩;have HG10:=As (HG9.out.below hb10);have HXC10:=As (HXC9.out.up hb10);have HX10:=As (HX9.out.below hb10);have HT10:=As (bt HT9.out hb10);have HQ10:=As (HQ9.out.up hb10);have HR10:=As (HR9.out.up hb10);clear HG9 HC9 HXC9 HX9 HT9 HQ9 HR9 hb10;clear g0 g1 g2 g3 g4 s0 s1 s2 s3 s4))
    refine reg_start (fun lx a wx => Below w10.heap.size w10 wx ∧ Sl 2 47 (fun v wx => ∃ D1 D2 D3 k1 k2 k3,v = e.val D1 D2 D3 k1 k2 k3 ∧ EngC wx e D1 D2 D3) lx a wx) 5 rfl (by kernel_rfl) (⟨below_drew (Below.refl _ _),sl_start⟩) (fun HT => ?_)
    refine reg_val (i:=0) (v:=?_) HT rfl (by kernel_rfl) rfl (kA keeps_world (keeps_sl rfl rfl)) (by rfl) (fun _ _ _ h => h) (fun lx ax wx hS => ?_) ?_;rotate_left;(have hq:=HQ10.out.up hS.1;have hi:=HI5.out.up (bt HT10.out hS.1);have x0:=hq.c0;have x1:=hq.c1;have x2:=hq.c2;have x3:=hq.c3;have x4:=hq.c4;have i0:=hi.c0;have i1:=hi.c1;have i2:=hi.c2;have i3:=hi.c3;have i4:=hi.c4;clear hq hi;go_simp;with_reducible rfl);rotate_left;simp only [sc0,sc1]
    refine reg_val (i:=1) (v:=?_) HT rfl (by kernel_rfl) rfl (kA keeps_world (keeps_sl rfl rfl)) (by rfl) (fun _ _ _ h => h) (fun lx ax wx hS => ?_) ?_;rotate_left;(have hq:=HQ10.out.up hS.1;have hi:=HI5.out.up (bt HT10.out hS.1);have x0:=hq.c0;have x1:=hq.c1;have x2:=hq.c2;have x3:=hq.c3;have x4:=hq.c4;have i0:=hi.c0;have i1:=hi.c1;have i2:=hi.c2;have i3:=hi.c3;have i4:=hi.c4;clear hq hi;go_simp;with_reducible rfl);rotate_left;simp only [sc0,sc1]
    refine reg_only (i:=2) (f:=14) (args:=#[e.val Ad Am Al cd cm cl]) (fun v => ∃ D1 D2 D3 k1 k2 k3,v = e.val D1 D2 D3 k1 k2 k3) rfl (by kernel_rfl) rfl Tryz.func14 (by kernel_rfl) rfl rfl (by rfl) (by simp only [List.map_toArray,List.map_cons,List.map_nil];rfl) (fun wx hS => (toEngine_calls HF.out (bt HB5.out (bt HT10.out hS.1)) HR.out).mono (by rintro x w8' ⟨vd,vm,vl,rfl,ho,hb8⟩;obtain ⟨D1,k1,D2,k2,D3,k3,rfl,rfl,rfl, -,hc⟩:=ho.reads;exact ⟨_,rfl,⟨D1,D2,D3,k1,k2,k3,rfl⟩,bt hS.1 hb8,fun _ => ⟨D1,D2,D3,k1,k2,k3,rfl,hc⟩⟩)) (fun vx hg => ?_);simp only [sc0,sc1]
    obtain ⟨D1,D2,D3,k1,k2,k3,rfl⟩:=hg
    refine reg_only (i:=3) (f:=16) (args:=#[e.val Xd Xm Xl x1_ x2_ x3_,e.val D1 D2 D3 k1 k2 k3]) (fun v => v = .bool true) rfl (by kernel_rfl) rfl Tryz.func16 (by kernel_rfl) rfl rfl (by rfl) (by simp only [List.map_toArray,List.map_cons,List.map_nil];rfl) (fun wx hS => (by obtain ⟨E1,E2,E3,j1,j2,j3,e3,hC⟩:=hS.2 (by kernel_rfl);obtain ⟨rfl,rfl,rfl,rfl,rfl,rfl⟩:=Eng.val_inj e3;exact (eqEngine_calls hS.1 HXC10.out (Below.refl _ _) hC).mono (by rintro x w8' ⟨rfl,hb8⟩;exact ⟨_,rfl,rfl,bt hS.1 hb8,fun _ => ⟨D1,D2,D3,k1,k2,k3,rfl,hC.up hb8⟩⟩))) (fun vx hg => ?_);simp only [sc0,sc1]
    subst hg
    refine reg_val (i:=4) (v:=?_) HT rfl (by kernel_rfl) rfl (kA keeps_world (keeps_sl rfl rfl)) (by rfl) (fun _ _ _ h => h) (fun lx ax wx hS => ?_) ?_;rotate_left;(go_simp;with_reducible rfl);rotate_left;simp only [sc0,sc1]
    refine reg_end (by kernel_rfl) (fun wx hS => ?_)
    have HTx:=As (bt HT10.out hS.1)
    have HGx:=As (HG10.out.below hS.1)
    have HXx:=As (HX10.out.below hS.1)
    have HQx:=As (HQ10.out.up hS.1)
    have HRx:=As (HR10.out.up hS.1)
    have HN7 : Aside0 (w5.heap.size ≤ w6.heap.size):=⟨HN6.out⟩
    clear hS HT10 HG10 HX10 HQ10 HR10 HXC10
    have x0:=(HQx.out).c0
    have x1:=(HQx.out).c1
    have x2:=(HQx.out).c2
    have x3:=(HQx.out).c3
    have x4:=(HQx.out).c4
    have i0:=(HI5.out.up HTx.out).c0
    have i1:=(HI5.out.up HTx.out).c1
    have i2:=(HI5.out.up HTx.out).c2
    have i3:=(HI5.out.up HTx.out).c3
    have i4:=(HI5.out.up HTx.out).c4
    go_wp2_with (first
      | (go_at_call 17;refine (markEngine_calls 1 (by decide) (by decide) HF.out HXx.out).mono ?_;rintro x w11 ⟨rfl, -,hw⟩;have hz7:=HZ7.out;have HT11:=As (HTx.out.trans (hw.bel (N:=w5.heap.size) (fun m hm => hm.1) HTx.out.size));have HG11:=As (HGx.out.kept hw.kept (fun m hm hn => by have h1:=hm.1;have h2:=hn.2;omega));have hr11 : EgBox w11 w8.heap.size E (.slice Gd E.disk.length g1_) (.slice Gm E.mem.length g2_) (.slice Gl E.log.length g3_):=(hw.kept.2 _ HRx.out.lt (fun hn => by have h1:=hn.2;have h2:=HN8.out;omega)).trans HRx.out;have HR11:=As hr11;clear HGx HXx HTx HQx HRx hz7 hw hr11;clear i0 i1 i2 i3 i4 x0 x1 x2 x3 x4;have g0:=(HR11.out).c0;have g1:=(HR11.out).c1;have g2:=(HR11.out).c2;have g3:=(HR11.out).c3;have g4:=(HR11.out).c4;have s0:=(HQ5.out.up HT11.out).c0;have s1:=(HQ5.out.up HT11.out).c1;have s2:=(HQ5.out.up HT11.out).c2;have s3:=(HQ5.out.up HT11.out).c3;have s4:=(HQ5.out.up HT11.out).c4)
      | (go_at_call 16;refine (eqEngine_calls (Below.refl w11.heap.size w11) HG11.out.C HT11.out HS5.out).mono ?_;rintro x w12 ⟨rfl,hb12⟩;have HG12:=As (HG11.out.below hb12);have HT12:=As (bt HT11.out hb12);have HR12:=As (HR11.out.up hb12);clear HG11 HT11 HR11 hb12;clear g0 g1 g2 g3 g4 s0 s1 s2 s3 s4;have g0:=(HR12.out).c0;have g1:=(HR12.out).c1;have g2:=(HR12.out).c2;have g3:=(HR12.out).c3;have g4:=(HR12.out).c4)
      | (go_at_call 17;refine (markEngine_calls 1 (by decide) (by decide) HFE.out HG12.out).mono ?_;rintro x w13 ⟨rfl,hm,hw⟩;have hz7:=HZ7.out;have hn7:=HN7.out;have HT13:=As (HT12.out.trans (hw.bel (N:=w5.heap.size) (fun m hm => by have h1:=hm.1;omega) HT12.out.size));have HC13:=As hm.C;have hr13 : EgBox w13 w8.heap.size E (.slice Gd E.disk.length g1_) (.slice Gm E.mem.length g2_) (.slice Gl E.log.length g3_):=(hw.kept.2 _ HR12.out.lt (fun hn => by have h1:=hn.2;omega)).trans HR12.out;have HR13:=As hr13;clear HG12 HT12 HR12 hz7 hn7 hw hm hr13;clear g0 g1 g2 g3 g4;have g0:=(HR13.out).c0;have g1:=(HR13.out).c1;have g2:=(HR13.out).c2;have g3:=(HR13.out).c3;have g4:=(HR13.out).c4)
      | (go_at_call 18;refine (heldEngine_calls 1 (by decide) (by decide) HFE.out (Below.refl w13.heap.size w13) HC13.out).mono ?_;rintro x w14 ⟨rfl,hb14⟩;have HU14:=As hb14;have HB14:=As (bt HB5.out (bt HT13.out hb14));clear hb14;clear g0 g1 g2 g3 g4;have i0:=(HI5.out.up (bt HT13.out HU14.out)).c0;have i1:=(HI5.out.up (bt HT13.out HU14.out)).c1;have i2:=(HI5.out.up (bt HT13.out HU14.out)).c2;have i3:=(HI5.out.up (bt HT13.out HU14.out)).c3;have i4:=(HI5.out.up (bt HT13.out HU14.out)).c4)
      | (go_at_call 14;refine (toEngine_calls HF.out HB14.out HR.out).mono ?_;rintro x w15 ⟨vd,vm,vl,rfl,ho,hb15⟩;obtain ⟨Yd,y1_,Ym,y2_,Yl,y3_,rfl,rfl,rfl,hdl,hc⟩:=ho.reads;have HC15:=As hc;have HDL15:=As hdl;have HU15:=As (bt HU14.out hb15);clear HU14 ho hb15 hc hdl;clear i0 i1 i2 i3 i4)
      | (go_at_call 15;refine (RiseUp_calls (cd:=y1_) (cm:=y2_) left HDL15.out (Below.refl w15.heap.size w15) HC15.out).mono ?_;rw [HE.out];rintro x w16 ⟨vd,vm,vl,rfl,ho,hb16⟩;obtain ⟨Hd,h1_,Hm,h2_,Hl,h3_,rfl,rfl,rfl, -,hc⟩:=ho.reads;have HC16:=As hc;have HU16:=As (bt HU15.out hb16);clear HU15 HC15 ho hb16 hc; )
      | (refine wpl_box_eg (vd:=.slice Hd E.disk.length h1_) (vm:=.slice Hm E.mem.length h2_) (vl:=.slice Hl E.log.length h3_) E ?_;intro w17 hb17 _ hq17;have HC17:=As (HC16.out.up hb17);have HU17:=As (bt HU16.out hb17);have HQ17:=As hq17;clear HC16 HU16 hb17 hq17;have h0:=(HQ17.out).c0;have h1:=(HQ17.out).c1;have h2:=(HQ17.out).c2;have h3:=(HQ17.out).c3;have h4:=(HQ17.out).c4;have s0:=(HQ5.out.up (bt HT13.out HU17.out)).c0;have s1:=(HQ5.out.up (bt HT13.out HU17.out)).c1;have s2:=(HQ5.out.up (bt HT13.out HU17.out)).c2;have s3:=(HQ5.out.up (bt HT13.out HU17.out)).c3;have s4:=(HQ5.out.up (bt HT13.out HU17.out)).c4)
      | (go_at_call 16;refine (eqEngine_calls (Below.refl w17.heap.size w17) HC17.out (bt HT13.out HU17.out) HS5.out).mono ?_;rintro x w18 ⟨rfl,hb18⟩;have HU18:=As (bt HU17.out hb18);clear HC17 HU17 HQ17 hb18;clear h0 h1 h2 h3 h4 s0 s1 s2 s3 s4;have g0:=(HR13.out.up HU18.out).c0;have g1:=(HR13.out.up HU18.out).c1;have g2:=(HR13.out.up HU18.out).c2;have g3:=(HR13.out.up HU18.out).c3;have g4:=(HR13.out.up HU18.out).c4)
      | (go_at_call 18;refine (heldEngine_calls 1 (by decide) (by decide) HFE.out HU18.out HC13.out).mono ?_;rintro x w19 ⟨rfl,hb19⟩;have HB19:=As (bt HB5.out (bt HT13.out (bt HU18.out hb19)));clear hb19;clear g0 g1 g2 g3 g4))
    go_ret
    exact ⟨rfl,HB19.out⟩
open Go.RowKit Go.Proofs.YtlmlcnokiipilabGreatW.PrintWords Go.Proofs.YtlmlcnokiipilabGreatW.PrintLast Go.Proofs.YtlmlcnokiipilabGreatW.PrintMore Go.ChangeShapes Go.WideShapes Go.Deep
section
variable {H : Type} {enc : TypeId × Value → H} {P : Program} {w : World} {spare : Nat → Bool} {held : Bool}
/-- Whatever is read at this type has cells of this kind. -/
def Opens (P : Program) (enc : TypeId × Value → H) (w : World) (spare : Nat → Bool) (held : Bool) {α : Type} (d : Kd α) (t : TypeId) : Prop:=
  ∀ fuel cs x,DataW.trod enc P w 0 spare held fuel t cs = some x → ∃ a,d.K w a cs
theorem opens_int {t : TypeId} {k : IntKind} (ht : P.underlying t = some (.int k)) : Opens P enc w spare held (Kd.int k) t:=by
  intro fuel cs x h
  obtain ⟨n,rfl, -⟩:=DataW.trod_int ht h
  exact ⟨n,rfl⟩
theorem opens_bool {t : TypeId} (ht : P.underlying t = some .bool) : Opens P enc w spare held Kd.bool t:=by
  intro fuel cs x h
  obtain ⟨n,rfl, -⟩:=DataW.trod_bool ht h
  exact ⟨n,rfl⟩
theorem cells_at {a : Addr} {n : Nat} {cs : List Value} (h : w.cells? 0 a n = some cs) (i : Nat) (u : Value) (hi : cs[i]? = some u) : w.cell? (a.add i) = some u:=by
  unfold World.cells? at h
  rw [if_pos (Nat.zero_le _)] at h
  have hl:=mapM_some_length h
  have hlt : i < n:=by have:=(List.getElem?_eq_some_iff.1 hi).1;simp at hl;omega
  rw [mapM_some_get h i i (by simp [hlt]),hi]
theorem opens_slice {α : Type} {d : Kd α} {t e : TypeId} (ht : P.underlying t = some (.slice e)) (hsz : P.cellsOf e = d.sz) (hd : Opens P enc w (fun _ => true) held d e) : Opens P enc w (fun _ => true) held (Kd.slice e d) t:=by
  intro fuel cs x h
  rcases open_slice ht h with ⟨rfl, -⟩ | ⟨a,len,cap,m,n,D,Pl,rfl, -,hl,hc,hm, -,hel⟩
  · exact ⟨[],none,0,rfl,Nat.le_refl _,rfl,by simp,fun h0 => by simp at h0⟩
  · rw [if_pos rfl] at hm
    subst hm
    have key : ∀ j,j ≤ len → ∃ xs : List α,xs.length = j ∧ ∀ i p,xs[i]? = some p → ∃ c,c.length = d.sz ∧ d.K w p c ∧ ∀ k u,c[k]? = some u → w.cell? (a.add (i * d.sz + k)) = some u:=by
      intro j
      induction j with
      | zero => exact fun _ => ⟨[],rfl,fun i p hp => by simp at hp⟩
      | succ j ih =>
        intro hj
        obtain ⟨xs,h1,h2⟩:=ih (by omega)
        obtain ⟨cs',h3,h4⟩:=hel j (by omega)
        obtain ⟨p,hp⟩:=hd _ _ _ h4
        refine ⟨xs ++ [p],by simp [h1],fun i q hq => ?_⟩
        by_cases hi : i < j
        · exact h2 i q (by rwa [List.getElem?_append_left (by omega)] at hq)
        · have hlt:=(List.getElem?_eq_some_iff.1 hq).1
          have hij : i = j:=by simp [h1] at hlt;omega
          subst hij
          rw [List.getElem?_append_right (by omega),h1,Nat.sub_self] at hq
          cases hq
          refine ⟨cs',d.K_len hp,hp,fun k u hk => ?_⟩
          rw [hsz] at h3
          rw [← Go.Deep.add_add]
          exact cells_at h3 k u hk
    obtain ⟨xs,h1,h2⟩:=key len (Nat.le_refl _)
    exact ⟨xs,some a,m,by rw [h1],by rw [h1];exact hl,rfl,by rw [h1];have : maxLen = 9223372036854775807:=rfl;omega,fun _ => ⟨a,rfl,h2⟩⟩
theorem struct_fields {t : TypeId} {fs : Array Field} {fuel : Nat} {cs : List Value} {x : DataW H × List MemPlace} (ht : P.underlying t = some (.struct fs)) (h : DataW.trod enc P w 0 spare held fuel t cs = some x) :
    cs.length = P.cellsOf t ∧ ∃ n, ∀ (i : Nat) (f : Field),fs[i]? = some f → ∃ y,DataW.trod enc P w 0 spare held n f.type ((cs.drop f.offset).take (P.cellsOf f.type)) = some y:=by
  obtain ⟨xs,n, -, -,hl,hx,hf⟩:=DataW.trod_struct ht h
  refine ⟨hl,n,fun i f hi => ?_⟩
  have hlt : i < xs.length:=by rw [hx];exact (Array.getElem?_eq_some_iff.1 hi).1
  exact ⟨_,(hf i f hi).trans (List.getElem?_eq_getElem hlt)⟩
end
section
variable {H : Type} {enc : TypeId × Value → H} {w : World} {held : Bool}
theorem int_at {n : Nat} {u : Value} {y : DataW H × List MemPlace} {spare : Nat → Bool} (h : DataW.trod enc Tryz.prog w 0 spare held n 3 [u] = some y) : ∃ a : Int,u = .int .i64 a:=by
  obtain ⟨a,ha⟩:=opens_int Tryz.underlying3 _ _ _ h
  exact ⟨a,by injection ha⟩
theorem ints_at {n : Nat} {u : Value} {y : DataW H × List MemPlace} (h : DataW.trod enc Tryz.prog w 0 (fun _ => true) held n 33 [u] = some y) : ∃ A xs c,u = .slice A (List.length xs) c ∧ xs.length ≤ c ∧ (Kd.int .i64).C w A xs.length xs:=by
  obtain ⟨xs,A,c,he,h1,h2⟩:=opens_slice (d:=Kd.int .i64) Tryz.underlying33 (by kernel_rfl) (opens_int Tryz.underlying3) _ _ _ h
  exact ⟨A,xs,c,by injection he,h1,h2⟩
set_option maxRecDepth 100000 in
theorem opens_page : Opens Tryz.prog enc w (fun _ => true) held kPage 107:=by
  intro fuel cs x h
  obtain ⟨hl,n,hf⟩:=struct_fields Tryz.underlying107 h
  have hl3 : cs.length = 3:=hl.trans (by kernel_rfl)
  match cs,hl3 with
  | [u0,u1,u2],_ =>
    obtain ⟨y0,h0⟩:=hf 0 _ rfl
    obtain ⟨y1,h1⟩:=hf 1 _ rfl
    obtain ⟨y2,h2⟩:=hf 2 _ rfl
    obtain ⟨a,rfl⟩:=int_at (u:=u0) h0
    obtain ⟨b,rfl⟩:=int_at (u:=u1) h1
    obtain ⟨A,xs,c,rfl,h3,h4⟩:=ints_at (u:=u2) h2
    exact ⟨⟨a,b,xs⟩,kPage_mk w ⟨a,b,xs⟩ h3 h4⟩
set_option maxRecDepth 100000 in
theorem opens_rec : Opens Tryz.prog enc w (fun _ => true) held kRec 115:=by
  intro fuel cs x h
  obtain ⟨hl,n,hf⟩:=struct_fields Tryz.underlying115 h
  have hl3 : cs.length = 8:=hl.trans (by kernel_rfl)
  match cs,hl3 with
  | [u0,u1,u2,u3,u4,u5,u6,u7],_ =>
    obtain ⟨y0,h0⟩:=hf 0 _ rfl
    obtain ⟨y1,h1⟩:=hf 1 _ rfl
    obtain ⟨y2,h2⟩:=hf 2 _ rfl
    obtain ⟨y3,h3⟩:=hf 3 _ rfl
    obtain ⟨y4,h4⟩:=hf 4 _ rfl
    obtain ⟨y5,h5⟩:=hf 5 _ rfl
    obtain ⟨y6,h6⟩:=hf 6 _ rfl
    obtain ⟨y7,h7⟩:=hf 7 _ rfl
    obtain ⟨a0,rfl⟩:=int_at (u:=u0) h0
    obtain ⟨a1,rfl⟩:=int_at (u:=u1) h1
    obtain ⟨a2,rfl⟩:=int_at (u:=u2) h2
    obtain ⟨a3,rfl⟩:=int_at (u:=u3) h3
    obtain ⟨a4,rfl⟩:=int_at (u:=u4) h4
    obtain ⟨a5,rfl⟩:=int_at (u:=u5) h5
    obtain ⟨a6,rfl⟩:=int_at (u:=u6) h6
    obtain ⟨a7,rfl⟩:=int_at (u:=u7) h7
    exact ⟨⟨a0,a1,a2,a3,a4,a5,a6,a7⟩,Kd.K_of_M _ (kRec_mk w 0 (fun _ => True) ⟨a0,a1,a2,a3,a4,a5,a6,a7⟩)⟩
set_option maxRecDepth 100000 in
theorem opens_engine {fuel : Nat} {cs : List Value} {x : DataW H × List MemPlace} (h : DataW.trod enc Tryz.prog w 0 (fun _ => true) held fuel 40 cs = some x) :
    ∃ (e : Eng) (Ad Am Al : Option Addr) (cd cm cl : Nat),cs = [.slice Ad e.disk.length cd, .slice Am e.mem.length cm, .slice Al e.log.length cl, .int .i64 e.safe, .bool e.down] ∧ e.log.length ≤ cl ∧ EngC w e Ad Am Al:=by
  obtain ⟨hl,n,hf⟩:=struct_fields Tryz.underlying40 h
  have hl3 : cs.length = 5:=hl.trans (by kernel_rfl)
  match cs,hl3 with
  | [u0,u1,u2,u3,u4],_ =>
    obtain ⟨y0,h0⟩:=hf 0 _ rfl
    obtain ⟨y1,h1⟩:=hf 1 _ rfl
    obtain ⟨y2,h2⟩:=hf 2 _ rfl
    obtain ⟨y3,h3⟩:=hf 3 _ rfl
    obtain ⟨y4,h4⟩:=hf 4 _ rfl
    obtain ⟨ps,Ad,cd,e0, -,k0⟩:=opens_slice (d:=kPage) Tryz.underlying37 (by kernel_rfl) opens_page _ [u0] _ h0
    obtain ⟨qs,Am,cm,e1, -,k1⟩:=opens_slice (d:=kPage) Tryz.underlying37 (by kernel_rfl) opens_page _ [u1] _ h1
    obtain ⟨l,Al,cl,e2,k3,k2⟩:=opens_slice (d:=kRec) Tryz.underlying38 (by kernel_rfl) opens_rec _ [u2] _ h2
    obtain ⟨s,rfl⟩:=int_at (u:=u3) h3
    obtain ⟨b,e4⟩:=opens_bool Tryz.underlying4 _ [u4] _ h4
    injection e0 with e0
    injection e1 with e1
    injection e2 with e2
    injection e4 with e4
    subst e0 e1 e2 e4
    exact ⟨⟨ps,qs,l,s,b⟩,Ad,Am,Al,cd,cm,cl,rfl,k3,⟨k0,k1,k2⟩⟩
end
end Go.Proofs.YtlmlcnokiipilabGreat
/- laws.FnExactRiseUp: whatever the engine, and the number, it returns true, and the engine reads as it did. -/
namespace Go.Proofs.YtlmlcnokiipilabGreat.fnExactRiseUp
open Go.ChangeShapes Go.WideShapes Go.ChangeAt Go.RowKit Go.Proofs.YtlmlcnokiipilabGreat
theorem own : ownKnob Tryz.prog.godebug = none:=by kernel_rfl
theorem laidOut : laidOutB Tryz.prog = true:=by kernel_rfl
set_option maxRecDepth 100000 in
theorem lifted (os : Os) (started : os.Started) (H : Type) (enc : TypeId × Value → H) :
    ReturnsInHanded {} Tryz.checked os 4 .any (Rows.fnExactRiseUpSpec.pre6 enc Tryz.prog Tryz.f4 Rows.fnExactRiseUpRow.domain false) (Rows.fnExactRiseUpSpec.post enc Tryz.prog Tryz.f4 false true false false):=by
  refine returnsInHanded_of_change_sized (C:=Tryz.checked) own started (by kernel_rfl) Tryz.func4
    (ChangeSpec.witness6 (enc:=enc) (C:=Tryz.checked) false ⟨#[],#[.agg #[.slice none 0 0, .slice none 0 0, .slice none 0 0, .int .i64 0, .bool false], .int .i64 0], []⟩ 8 (by kernel_rfl) (by kernel_rfl) (by kernel_rfl) (by kernel_rfl)) ?_
  intro W base args ds gs before hval0 hW hcnd hsz0 _
  have hval : ∀ (j : Nat) t v,Tryz.f4.params[j]? = some t → args[j]? = some v → Value.okWide Tryz.prog W .any base t v:=hval0
  have hW':=hW
  obtain ⟨p,q,hA0,hV,rfl,hfz,hnd⟩:=hW
  have hA : DataW.TrodAll enc Tryz.prog W 0 (fun _ => true) true Tryz.f4.params.toList args.toList ds p:=hA0
  rw [Tryz.params4] at hA hval
  obtain ⟨v0,vs0,d0,ds0,p0,q0,hargs,rfl,rfl,h0,r0⟩:=trodAll_cons hA
  obtain ⟨v1,vs1,d1,ds1,p1,q1,rfl,rfl,rfl,h1,r1⟩:=trodAll_cons r0
  obtain ⟨rfl,rfl,rfl⟩:=trodAll_nil r1
  obtain rfl : args = #[v0,v1]:=by cases args;simp_all
  obtain ⟨rfl,rfl⟩:=trodVars_none hV
  have k1:=h1
  have lt1 : ∀ x ∈ p1,x.block < W.heap.size:=by obtain ⟨m,hm⟩:=k1;exact DataW.trod_lt m _ _ _ hm
  obtain ⟨left,rfl⟩:=okWide_int Tryz.underlying3 (hval 1 3 v1 rfl rfl)
  have k0:=h0
  have lt0 : ∀ x ∈ p0,x.block < W.heap.size:=by obtain ⟨m,hm⟩:=k0;exact DataW.trod_lt m _ _ _ hm
  obtain ⟨cs,rfl,hcs⟩:=okWide_struct Tryz.underlying40 (hval 0 40 v0 rfl rfl)
  obtain ⟨fuel,hf⟩:=h0
  obtain ⟨e,Ad,Am,Al,cd,cm,cl,he,hcl,hr⟩:=opens_engine hf
  obtain rfl : cs = #[.slice Ad e.disk.length cd, .slice Am e.mem.length cm, .slice Al e.log.length cl, .int .i64 e.safe, .bool e.down]:=by
    apply Array.ext'
    simpa [Value.cells] using he
  clear hA0 hval0 hsz0 hval hA
  refine (FnExactRiseUp_calls (w0:=W) left (Below.refl _ _) hr).mono fun e1 W' ⟨he1,bel⟩ => ?_
  subst he1
  exact ⟨_,rfl,_,_,_, [],_, [],hW',trodAll_mk1 (shut_bool Tryz.underlying4 _),(trodAll_cons_mk (Below.trod laidOut (by kernel_rfl) (of_decide_eq_true (by kernel_rfl)) k0 bel lt0) (trodAll_cons_mk (Below.trod laidOut (by kernel_rfl) (of_decide_eq_true (by kernel_rfl)) k1 bel lt1) trodAll_mk0)),rfl,bel.frame _,fun h => by cases h⟩
theorem k24b : (Rows.fnExactRiseUpRow.lifted == Tryz.pinned.checked.prog.liftsFinal) = true:=by
  rw [show Tryz.pinned.checked.prog.liftsFinal = false from lifts_final]
  rfl
theorem k24c : (Tryz.pinned.checked.prog.make == some Rows.fnExactRiseUpRow.make) = true:=by
  rw [show Tryz.pinned.checked.prog.make = some Make.cut from made_cut]
  rfl
set_option maxRecDepth 100000 in
set_option maxHeartbeats 8000000 in
theorem closed : joinedFacts Tryz.pinned.checked.prog 4 Tryz.f4 Rows.fnExactRiseUpSpec Rows.fnExactRiseUpRow = true:=by
  simp only [joinedFacts,Bool.and_eq_true]
  exact ⟨⟨⟨⟨⟨⟨⟨⟨⟨⟨⟨⟨⟨⟨⟨⟨⟨⟨⟨⟨⟨⟨⟨⟨⟨⟨⟨⟨⟨⟨⟨(by as_aux_lemma => kernel_rfl),(by as_aux_lemma => kernel_rfl)⟩,(by as_aux_lemma => kernel_rfl)⟩,(by as_aux_lemma => kernel_rfl)⟩,(by as_aux_lemma => kernel_rfl)⟩,(by as_aux_lemma => kernel_rfl)⟩,(by as_aux_lemma => kernel_rfl)⟩,(by as_aux_lemma => kernel_rfl)⟩,(by as_aux_lemma => kernel_rfl)⟩,(by as_aux_lemma => kernel_rfl)⟩,(by as_aux_lemma => kernel_rfl)⟩,(by as_aux_lemma => kernel_rfl)⟩,(by as_aux_lemma => kernel_rfl)⟩,(by as_aux_lemma => kernel_rfl)⟩,(by as_aux_lemma => kernel_rfl)⟩,(by as_aux_lemma => kernel_rfl)⟩,(by as_aux_lemma => kernel_rfl)⟩,(by as_aux_lemma => kernel_rfl)⟩,(by as_aux_lemma => kernel_rfl)⟩,(by as_aux_lemma => kernel_rfl)⟩,(by as_aux_lemma => kernel_rfl)⟩,(by as_aux_lemma => kernel_rfl)⟩,(by as_aux_lemma => kernel_rfl)⟩,(by as_aux_lemma => kernel_rfl)⟩,(by as_aux_lemma => kernel_rfl)⟩,may_enter⟩,k24b⟩,k24c⟩,(by as_aux_lemma => kernel_rfl)⟩,(by as_aux_lemma => kernel_rfl)⟩,(by as_aux_lemma => kernel_rfl)⟩,(by as_aux_lemma => kernel_rfl)⟩
theorem over : Rows.fnExactRiseUpRow.holds Tryz.pinned (OpenSpec.ofChange Rows.fnExactRiseUpSpec):=
  OpenClaim.holds_of_wide 4 Tryz.f4 rfl rfl rfl rfl rfl rfl rfl ⟨rfl,rfl,rfl,rfl,rfl⟩ rfl rfl rfl rfl rfl (by kernel_rfl) Tryz.func4 closed
    (of_decide_eq_true (by kernel_rfl)) (by unfold Func.isWrapper;first | (rw [if_pos (by decide +kernel)];kernel_rfl) | (rw [if_neg (by decide +kernel)];exact ⟨rfl,rfl⟩))
    (fun os started H enc _ => lifted os started H enc)
theorem proved : Rows.FnExactRiseUpSaid:=over
end Go.Proofs.YtlmlcnokiipilabGreat.fnExactRiseUp
namespace Go.Proofs.YtlmlcnokiipilabGreat
/-- The row, under a short name, for the claim. -/
theorem fnExactRiseUp_holds : Rows.FnExactRiseUpSaid:=fnExactRiseUp.proved
end Go.Proofs.YtlmlcnokiipilabGreat
