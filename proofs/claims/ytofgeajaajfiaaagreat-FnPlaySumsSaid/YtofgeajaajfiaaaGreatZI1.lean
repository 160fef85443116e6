/- A part of the proof: what the last text of the claim says leans on this one. -/
import Derived.Test.YtofgeajaajfiaaaGreatZP1
import Derived.Test.YtofgeajaajfiaaaGreatZV1
import Derived.Test.YtofgeajaajfiaaaGreatZA1
import Derived.Test.YtofgeajaajfiaaaGreatZV2
set_option linter.unusedVariables false
set_option linter.unusedSimpArgs false
namespace Go.Proofs.YtofgeajaajfiaaaGreat
open Go.RowKit Go.Proofs.YtofgeajaajfiaaaGreatW.PrintWords Go.Proofs.YtofgeajaajfiaaaGreatW.PrintLast Go.Proofs.YtofgeajaajfiaaaGreatW.PrintMore
set_option maxRecDepth 100000 in
set_option maxHeartbeats 4000000 in
theorem Fh {w0 w : World} {A : Option Addr} {c : Nat} {p : Page} {b : Bool} (hv : F5 p.vals = b) (hb : Below w0.heap.size w0 w) (hr : Kd.C (Kd.int .i64) w0 A p.vals.length p.vals) : Calls Tryz.prog 114 #[p.val A c] w fun x w' => x = .returned (.bool b) ∧ Below w.heap.size w w':=by
 have HR:=As (BA hr hb)
 have HV:=As hv
 have hmx:=(Cg hr).2
 clear hr hb hv
 obtain ⟨w1,hw1⟩ : ∃ w1,w.alloc (Obj.cells #[Value.int IntKind.i64 p.lsn,Value.int IntKind.i64 p.owner,Value.slice A p.vals.length c] 41) = w1:=⟨_,rfl⟩
 have HB : Aa (Below w.heap.size w w1):=⟨by rw [← hw1];exact Ab (Below.refl _ _) _⟩
 have hq1 : AU w1 w.heap.size p (.slice A p.vals.length c):=by rw [← hw1];exact AU.mk1 _ _ _
 have x2:=hq1.c2
 have HW1:=As hw1
 clear hw1 hq1
 go_enter Tryz.func114,Tryz.ntmps114
 go_wp2
 rw [HW1.out]
 go_loop [3] (fun i => ∃ k : Nat,k ≤ p.vals.length ∧ i = .int .i64 (k : Int) ∧ Aa (∀ j,j < k → iv p.vals j = 0)) (fun i => (p.vals.length - intOf i).toNat)
 case atStart => exact ⟨0,Nat.zero_le _,rfl,⟨fun j hj => by omega⟩⟩
 case round =>
  obtain ⟨k,hk,rfl,HK⟩:=hrel
  by_cases hlt : k < p.vals.length
  ·obtain ⟨ad,rfl,g0⟩:=Dj HR.out k hlt
   replace g0:=bc HB.out g0
   rcases BQ (iv p.vals k) 0 with ⟨e1,b1,c1⟩ | ⟨e1,b1,c1⟩
   ·go_wp2
    go_round
    case rel => exact ⟨k + 1,by omega,by go_num,⟨fun j hj => by
     rcases Nat.lt_succ_iff_lt_or_eq.1 hj with h | h
     ·exact HK.out j h
     ·rw [h];exact e1.out⟩⟩
    case measure => simp [intOf];omega
   ·go_wp2
    go_ret
    exact ⟨Au (by
     rw [← HV.out]
     cases hz : F5 p.vals
     ·rfl
     ·exact absurd (KO.1 hz _ (by rw [iv,List.getD_eq_getElem?_getD,List.getElem?_eq_getElem hlt];exact List.getElem_mem hlt)) e1.out),HB.out⟩
  ·have hke : k = p.vals.length:=by omega
   go_wp2
   go_ret
   exact ⟨Au (by
    rw [← HV.out]
    refine (KO.2 (fun x hx => ?_)).symm
    obtain ⟨j,hj,rfl⟩:=List.getElem_of_mem hx
    have:=HK.out j (by omega)
    rwa [iv,List.getD_eq_getElem?_getD,List.getElem?_eq_getElem hj] at this),HB.out⟩
def Gx (l : List Rec) (p : Int) : Int:=if has l 1 l.length p = true then 1 else if has l 2 l.length p = true then 2 else if has l 3 l.length p = true then 3 else 0
theorem S9 {l : List Rec} {p : Int} {j : Nat} (h1 : 1 ≤ j) (h3 : j ≤ 3) (hp : ∀ t : Nat,1 ≤ t → t < j → has l (t : Int) l.length p = false) (hj : has l (j : Int) l.length p = true) : Gx l p = j:=by
 have h : j = 1 ∨ j = 2 ∨ j = 3:=by omega
 rcases h with rfl | rfl | rfl
 ·rw [Gx,if_pos (by exact hj)];rfl
 ·rw [Gx,if_neg (by rw [show has l 1 l.length p = false from hp 1 (by omega) (by omega)];simp),if_pos (by exact hj)];rfl
 ·rw [Gx,if_neg (by rw [show has l 1 l.length p = false from hp 1 (by omega) (by omega)];simp),if_neg (by rw [show has l 2 l.length p = false from hp 2 (by omega) (by omega)];simp),if_pos (by exact hj)];rfl
theorem RZ {l : List Rec} {p : Int} (hp : ∀ t : Nat,1 ≤ t → t < 4 → has l (t : Int) l.length p = false) : Gx l p = 0:=by
 rw [Gx,if_neg (by rw [show has l 1 l.length p = false from hp 1 (by omega) (by omega)];simp),if_neg (by rw [show has l 2 l.length p = false from hp 2 (by omega) (by omega)];simp),if_neg (by rw [show has l 3 l.length p = false from hp 3 (by omega) (by omega)];simp)]
theorem Core.Gx {e : Eng} {C : Nat → Page} {B : Nat} (h : Core e C B) (p : Int) : Go.Proofs.YtofgeajaajfiaaaGreat.Gx e.log p = lk e.log p:=by
 have hone:=h.one_holds p
 obtain ⟨-,hl | hl⟩:=OZ hone
 ·rw [hl.1]
  exact RZ (fun t h1 h4 => hl.2 t (by omega))
 ·obtain ⟨j,hj⟩ : ∃ j : Nat,lk e.log p = (j : Int):=⟨(lk e.log p).toNat,by omega⟩
  rw [hj] at hl ⊢
  exact S9 (by omega) (by omega) (fun t h1 h2 => hone (j : Int) (t : Int) (by omega) hl.2) hl.2
set_option maxRecDepth 100000 in
set_option maxHeartbeats 4000000 in
theorem Fj {w0 w : World} {e : Eng} {Ad Am Al : Option Addr} {cd cm cl : Nat} (page : Int) (hlog : AB e.log = true) (hb : Below w0.heap.size w0 w) (hr : DC w0 e Ad Am Al) : Calls Tryz.prog 110 #[e.val Ad Am Al cd cm cl, .int .i64 page] w fun x w' => x = .returned (.int .i64 (Gx e.log page)) ∧ Below w.heap.size w w':=by
 have HR:=As (hr.up hb)
 have HL:=As hlog
 clear hr hb hlog
 obtain ⟨w1,hw1⟩ : ∃ w1,w.alloc (Obj.cells #[Value.slice Ad e.disk.length cd,Value.slice Am e.mem.length cm,Value.slice Al e.log.length cl,Value.int IntKind.i64 e.safe,Value.bool e.down] 28) = w1:=⟨_,rfl⟩
 have HB : Aa (Below w.heap.size w w1):=⟨by rw [← hw1];exact Ab (Below.refl _ _) _⟩
 have hq1 : Ac w1 w.heap.size e (.slice Ad e.disk.length cd) (.slice Am e.mem.length cm) (.slice Al e.log.length cl):=by rw [← hw1];exact Ac.mk1 _ _ _ _ _
 have x2:=hq1.c2
 have HW1:=As hw1
 clear hw1 hq1
 go_enter Tryz.func110,Tryz.ntmps110
 go_wp2
 rw [HW1.out]
 go_loop [5] (fun i => ∃ j : Nat,1 ≤ j ∧ j ≤ 4 ∧ i = .int .i64 (j : Int) ∧ Aa (∀ t : Nat,1 ≤ t → t < j → has e.log (t : Int) e.log.length page = false)) (fun i => (5 - intOf i).toNat)
 case atStart => exact ⟨1,by omega,by omega,rfl,⟨fun t h1 h2 => by omega⟩⟩
 case round =>
  obtain ⟨j,hj1,hj4,rfl,HJ⟩:=hrel
  by_cases hlt : j ≤ 3
  ·have hlt3 : (j : Int) ≤ 3:=by omega
   cases hh : has e.log (j : Int) e.log.length page
   all_goals
    have HH:=As hh
    clear hh
    go_wp2_with (go_at_call 68;refine (KF (c:=cl) HH.out HB.out HR.out.l HL.out).mono ?_;rintro x w' ⟨rfl,rfl⟩)
   ·go_round
    case rel => exact ⟨j + 1,by omega,by omega,by go_num,⟨fun t h1 h2 => by
     rcases Nat.lt_succ_iff_lt_or_eq.1 h2 with h | h
     ·exact HJ.out t h1 h
     ·rw [h];exact HH.out⟩⟩
    case measure => simp [intOf];omega
   ·go_ret
    exact ⟨by rw [S9 hj1 hlt HJ.out HH.out];rfl,HB.out⟩
  ·have hj : j = 4:=by omega
   subst hj
   go_wp2
   go_ret
   exact ⟨by rw [RZ HJ.out];rfl,HB.out⟩
theorem QO {w0 w : World} {e : Eng} {b : Bool} {Ad Am Al : Option Addr} {cd cm cl : Nat} (page : Int) (hd : e.down = b) (hlog : AB e.log = true) (hb : Below w0.heap.size w0 w) (hr : DC w0 e Ad Am Al) : Calls Tryz.prog 110 #[.agg #[.slice Ad e.disk.length cd, .slice Am e.mem.length cm, .slice Al e.log.length cl, .int .i64 e.safe, .bool b], .int .i64 page] w fun x w' => x = .returned (.int .i64 (Gx e.log page)) ∧ Below w.heap.size w w':=by
 subst hd
 exact Fj page hlog hb hr
set_option maxRecDepth 100000 in
set_option maxHeartbeats 8000000 in
theorem BU {w0 w : World} {e : Eng} {C : Nat → Page} {B : Nat} {Ad Am Al : Option Addr} {cd cm cl : Nat} (tx page : Int) {m : Bool} (hm : DR e tx page = m) (hi : Core e C B) (hb : Below w0.heap.size w0 w) (hr : DC w0 e Ad Am Al) : Calls Tryz.prog 112 #[e.val Ad Am Al cd cm cl, .int .i64 tx, .int .i64 page] w fun x w' => x = .returned (.bool m) ∧ Below w.heap.size w w':=by
 have HR:=As (hr.up hb)
 have HL:=As hi.log
 have HM:=As hm
 obtain ⟨by_,hby⟩ : ∃ k,lk e.log page = k:=⟨_,rfl⟩
 have HLK : Aa (Gx e.log page = by_):=⟨by rw [hi.Gx,hby]⟩
 have HBY:=As hby
 clear hr hb hi hm hby
 cases hd : e.down
 rotate_left
 ·have HD:=As hd
  have hmf : m = false:=by rw [← HM.out,DR,hd];rfl
  subst hmf
  clear hd
  go_enter Tryz.func112,Tryz.ntmps112
  go_wp2_with (first
   | (with_reducible refine Ag (vd:=.slice Ad e.disk.length cd) (vm:=.slice Am e.mem.length cm) (vl:=.slice Al e.log.length cl) e ?_;intro w1 hb1 hz1 hq1;clear hz1;have HB:=As hb1;have x0:=hq1.c0;have x1:=hq1.c1;have x2:=hq1.c2;have x3:=hq1.c3;have x4:=hq1.c4;rw [HD.out] at x4;clear hb1 hq1))
  go_ret
  exact ⟨rfl,HB.out⟩
 have HD:=As hd
 clear hd
 cases h1 : inB tx 1 3
 ·have H1:=As h1
  have hmf : m = false:=by rw [← HM.out,DR,HD.out,h1];rfl
  subst hmf
  clear h1
  go_enter Tryz.func112,Tryz.ntmps112
  go_wp2_with (first
   | (with_reducible refine Ag (vd:=.slice Ad e.disk.length cd) (vm:=.slice Am e.mem.length cm) (vl:=.slice Al e.log.length cl) e ?_;intro w1 hb1 hz1 hq1;clear hz1;have HB:=As hb1;have x0:=hq1.c0;have x1:=hq1.c1;have x2:=hq1.c2;have x3:=hq1.c3;have x4:=hq1.c4;rw [HD.out] at x4;clear hb1 hq1)
   | (go_at_call 67;refine (BS tx 1 3 _).mono ?_;rw [H1.out];rintro x w' ⟨rfl,rfl⟩))
  go_ret
  exact ⟨rfl,HB.out⟩
 have H1:=As h1
 clear h1
 cases h2 : inB page 0 4
 ·have H2:=As h2
  have hmf : m = false:=by rw [← HM.out,DR,HD.out,H1.out,h2];rfl
  subst hmf
  clear h2
  go_enter Tryz.func112,Tryz.ntmps112
  go_wp2_with (first
   | (with_reducible refine Ag (vd:=.slice Ad e.disk.length cd) (vm:=.slice Am e.mem.length cm) (vl:=.slice Al e.log.length cl) e ?_;intro w1 hb1 hz1 hq1;clear hz1;have HB:=As hb1;have x0:=hq1.c0;have x1:=hq1.c1;have x2:=hq1.c2;have x3:=hq1.c3;have x4:=hq1.c4;rw [HD.out] at x4;clear hb1 hq1)
   | (go_at_call 67;refine (BS _ _ _ _).mono ?_;(first | rw [H1.out] | rw [H2.out]);rintro x w' ⟨rfl,rfl⟩))
  go_ret
  exact ⟨rfl,HB.out⟩
 have H2:=As h2
 clear h2
 rcases BQ by_ 0 with ⟨e1,b1,c1⟩ | ⟨e1,b1,c1⟩
 all_goals rcases BQ by_ tx with ⟨e2,b2,c2⟩ | ⟨e2,b2,c2⟩
 all_goals
  go_enter Tryz.func112,Tryz.ntmps112
  go_wp2_with (first
   | (with_reducible refine Ag (vd:=.slice Ad e.disk.length cd) (vm:=.slice Am e.mem.length cm) (vl:=.slice Al e.log.length cl) e ?_;intro w1 hb1 hz1 hq1;clear hz1;have HB:=As hb1;have x0:=hq1.c0;have x1:=hq1.c1;have x2:=hq1.c2;have x3:=hq1.c3;have x4:=hq1.c4;rw [HD.out] at x4;clear hb1 hq1)
   | (go_at_call 67;refine (BS _ _ _ _).mono ?_;(first | rw [H1.out] | rw [H2.out]);rintro x w' ⟨rfl,rfl⟩)
   | (go_at_call 110;refine (QO (cd:=cd) (cm:=cm) (cl:=cl) page HD.out HL.out HB.out HR.out).mono ?_;rw [HLK.out];rintro x w2 ⟨rfl,hb2⟩;have HB2:=As (bj HB.out hb2);clear hb2))
  go_ret
  exact ⟨Au (by rw [← HM.out,DR,HD.out,H1.out,H2.out,HBY.out];simp [b1,b2]),HB2.out⟩
def Ap3 (i3 i0 s0 i5 s5 : Nat) (l : Array Bool) (a : Act) (_w : World) : Prop:=l.getD i3 false = false → l.getD i0 false = true → l.getD i5 false = true → (a.tmps.getD s0 undef).ownBlock ≠ (a.tmps.getD s5 undef).ownBlock
theorem Sq {k i3 i0 s0 i5 s5 d : Nat} (h1 : (d == s0) = false) (h2 : (d == s5) = false) (h3 : (k == i3) = false) (h4 : (k == i0) = false) (h5 : (k == i5) = false) : Keeps (Ap3 i3 i0 s0 i5 s5) k (some d):=fun l a v w => by
 have h1 : d ≠ s0:=by simpa using h1
 have h2 : d ≠ s5:=by simpa using h2
 have h3 : k ≠ i3:=by simpa using h3
 have h4 : k ≠ i0:=by simpa using h4
 have h5 : k ≠ i5:=by simpa using h5
 have e1 : (a.put (some d) v).tmps.getD s0 undef = a.tmps.getD s0 undef:=by simp [Act.put,h1]
 have e2 : (a.put (some d) v).tmps.getD s5 undef = a.tmps.getD s5 undef:=by simp [Act.put,h2]
 have e3 : (l.setIfInBounds k true).getD i3 false = l.getD i3 false:=getD_set_ne false h3
 have e4 : (l.setIfInBounds k true).getD i0 false = l.getD i0 false:=getD_set_ne false h4
 have e5 : (l.setIfInBounds k true).getD i5 false = l.getD i5 false:=getD_set_ne false h5
 rw [Ap3,Ap3,e1,e2,e3,e4,e5]
theorem WW {n i3 i0 s0 i5 s5 : Nat} {a : Act} {w : World} : Ap3 i3 i0 s0 i5 s5 (lsd n []) a w:=fun _ h => by
 rw [KV] at h
 simp [Array.getD] at h
theorem SY {w : World} {B n : Nat} {l : List Rec} (hC : Kd.C Ca w (some ⟨B,0,none⟩) n l) (hn : 0 < n) : B < w.heap.size:=by
 obtain ⟨ad,e,q⟩:=CS hC 0 hn
 injection e with e
 subst e
 exact World.block_lt_of_cell? _ _ q.c0
theorem VI {w : World} {B : Nat} {l : List Rec} {v : Value} (hC : Kd.C Ca w (some ⟨B,0,none⟩) 1 l) (hv : v = .slice (some ⟨B,0,none⟩) 1 1) : (Value.slice (some ⟨w.heap.size,0,none⟩) 0 0).ownBlock ≠ v.ownBlock:=fun e => by
 have:=SY hC (by omega)
 subst hv
 simp only [Value.ownBlock,Option.some.injEq] at e
 omega
theorem TV {w : World} {b : Nat} {l : List Rec} {v : Value} (h : OwnRs w b v l) : v.ownBlock ≠ (Value.slice (some ⟨w.heap.size,0,none⟩) 1 1).ownBlock:=fun e => by
 have:=Kd.VN h w.heap.size (by rw [e];simp [Value.ownBlock])
 omega
theorem V4 {w w1 : World} {B : Nat} {r : Rec} {u : Value} (hC : Kd.C Ca w (some ⟨B,0,none⟩) 1 [r]) (hg : w.grownBy w1 u.ownBlock) (hne : u.ownBlock ≠ (Value.slice (some ⟨B,0,none⟩) 1 1).ownBlock) : Kd.C Ca w1 (some ⟨B,0,none⟩) 1 [r]:=by
 have hlt:=SY hC (by omega)
 have hb : w1.heap[B]? = w.heap[B]?:=hg.block B hlt (fun e => hne (by rw [← e];simp [Value.ownBlock]))
 obtain ⟨ad,e,q⟩:=CS hC 0 (by omega)
 injection e with e
 subst e
 have hc : ∀ j : Nat,w1.cell? ⟨B,j,none⟩ = w.cell? ⟨B,j,none⟩:=fun j => World.cell?_of_block (w:=w) hb
 have e0 : (⟨B,0,none⟩ : Addr).add (0 * 8) = ⟨B,0,none⟩:=by simp [Addr.add]
 rw [e0] at q
 obtain ⟨q0,q1,q2,q3,q4,q5,q6,q7⟩:=q
 have hr : rc [r] 0 = r:=rfl
 rw [hr] at q0 q1 q2 q3 q4 q5 q6 q7
 exact T9 ⟨by rw [hc];exact q0,by rw [hc];exact q1,by rw [hc];exact q2,by rw [hc];exact q3,by rw [hc];exact q4,by rw [hc];exact q5,by rw [hc];exact q6,by rw [hc];exact q7⟩
theorem Ty {w : World} {b g : Nat} {vd vm vl : Value} {e : Eng} {r : Rec} (h : AO w b vd vm vl e) (hr : Dv w g r) (j : Nat) (u : Value) (hn : ∀ k,vl.ownBlock = some k → k ≠ g) : AO (w.setCell ⟨g,j,none⟩ u) b vd vm vl e:=by
 obtain ⟨⟨okd,okm,ha,hx,hy⟩,hz⟩:=h
 refine ⟨⟨okd,okm,ha,Kd.SK hx hr (fun q hq => by rcases Ms q hq with rfl | rfl <;> decide) j u,Kd.SK hy hr (fun q hq => by rcases Ms q hq with rfl | rfl <;> decide) j u⟩,?_⟩
 exact Kd.ED (Kd.XR (p:=⟨g,j,none⟩) (Kd.Oo rfl hz) (fun k hk => hn k hk.symm) u) (fun _ _ => trivial)
theorem Dv.far {w : World} {g : Nat} {r : Rec} (h : Dv w g r) {b : Nat} (hne : b ≠ g) (j : Nat) (u : Value) : Dv (w.setCell ⟨b,j,none⟩ u) g r:=(Below.heap_setCell w ⟨b,j,none⟩ u g (Ne.symm hne)).trans h
theorem Tm {R : Option Addr → Nat → Nat → Nat → Prop} {G : Prop} (h1 : (∀ a b c d,R a b c d) → G) (h2 : ∀ a b c d,R a b c d) : G:=h1 h2
theorem CY {w W : World} {S : Nat → Prop} {g : Nat} (h : Kept w W S) (hg : w.heap.size ≤ g) (e : Eng) (a b c : Value) : Kept w (Go.Proofs.YtofgeajaajfiaaaGreat.Ao W g e a b c) S:=((((h.setCell (p:=⟨g,0,none⟩) (.inr hg) _).setCell (p:=⟨g,1,none⟩) (.inr hg) _).setCell (p:=⟨g,2,none⟩) (.inr hg) _).setCell (p:=⟨g,3,none⟩) (.inr hg) _).setCell (p:=⟨g,4,none⟩) (.inr hg) _
abbrev Jo (w : World) (vm : Value) (w' : World) : Prop:=Kept w w' (fun k => some k = vm.ownBlock)
theorem Ac.Jh {w w1 : World} {b g : Nat} {vd vm vl ud um ul : Value} {e q : Eng} (h : Ac w g q ud um ul) (ho : AO w b vd vm vl e) (hk : Jo w vm w1) : Ac w1 g q ud um ul:=by
 refine (hk.2 g h.lt (fun e2 => ?_)).trans h
 obtain ⟨okd,okm, -, -,hm⟩:=ho.ex
 obtain ⟨cells,hc⟩:=Kd.Fw hm g e2.symm
 have h1 : w.heap[g]? = _:=h
 rw [hc] at h1
 injection h1 with h1
 injection h1 with _ h2
 exact absurd h2 (by decide)
def Iq (w0 w : World) (vm : Value) (e : Eng) (b : Bool) (x : Ending) (w' : World) : Prop := ∃ vd' vm' vl',x = .returned (.tuple #[e.ag vd' vm' vl', .bool b]) ∧ AO w' w0.heap.size vd' vm' vl' e ∧ Below w0.heap.size w0 w' ∧ Jo w vm w'
set_option maxRecDepth 100000 in
set_option maxHeartbeats 8000000 in
theorem EW {w0 w : World} {e : Eng} {vd vm vl : Value} (r : Rec) (hgm : geo e.mem) (hlog : AB (e.log ++ [DN r (Ai e.log r.tx e.log.length)]) = true) (hroom : e.log.length + 1 + Bu (e.log ++ [DN r (Ai e.log r.tx e.log.length)]) (e.log.length + 1) ≤ 150) (hrt : Cw r.kind = true → 0 ≤ r.page ∧ r.page < 5 ∧ r.slot < 3) (hb : Below w0.heap.size w0 w) (hr : AO w w0.heap.size vd vm vl e) : Calls Tryz.prog 113 #[e.ag vd vm vl,r.val] w (Iq w0 w vm (e.app r) true):=by
 obtain ⟨Ad,cd,Am,cm,Al,cl,rfl,rfl,rfl,hcl,hrd⟩:=hr.reads
 obtain ⟨w1a,hw1a⟩ : ∃ w1a,w.alloc (e.obox (.slice Ad e.disk.length cd) (.slice Am e.mem.length cm) (.slice Al e.log.length cl)) = w1a:=⟨_,rfl⟩
 obtain ⟨w1b,hw1b⟩ : ∃ w1b,w1a.alloc r.box = w1b:=⟨_,rfl⟩
 obtain ⟨w1,hw1⟩ : ∃ w1,w1b.alloc (zE.obox (.slice none 0 0) (.slice none 0 0) (.slice none 0 0)) = w1:=⟨_,rfl⟩
 have hza : w1a.heap.size = w.heap.size + 1:=by rw [← hw1a];exact BJ _ _
 have hzb : w1b.heap.size = w.heap.size + 1 + 1:=by rw [← hw1b,BJ,hza]
 have hz1 : w1.heap.size = w.heap.size + 3:=by rw [← hw1,BJ,hzb]
 have hba : Below w1a.heap.size w1a w1:=by rw [← hw1, ← hw1b];exact Ab (Ab (Below.refl _ _) _) _
 have hbb : Below w1b.heap.size w1b w1:=by rw [← hw1];exact Ab (Below.refl _ _) _
 have hb1 : Below w.heap.size w w1:=by rw [← hw1, ← hw1b, ← hw1a];exact Ab (Ab (Ab (Below.refl _ _) _) _) _
 have HQ1 : Aa (Ac w1 w.heap.size e (.slice Ad e.disk.length cd) (.slice Am e.mem.length cm) (.slice Al e.log.length cl)):=⟨Ac.up (by rw [← hw1a];exact Ac.mk1 _ _ _ _ _) hba⟩
 have HRB1 : Aa (Dv w1 (w.heap.size + 1) r):=⟨Dv.up (by rw [← hw1b, ← hza];exact Dv.mk1 _ _) hbb⟩
 have HP1 : Aa (Ac w1 (w.heap.size + 1 + 1) zE (.slice none 0 0) (.slice none 0 0) (.slice none 0 0)):=⟨by rw [← hw1, ← hzb];exact Ac.mk1 _ _ _ _ _⟩
 have HW1 : Aa (((w.alloc (e.obox (.slice Ad e.disk.length cd) (.slice Am e.mem.length cm) (.slice Al e.log.length cl))).alloc r.box).alloc (zE.obox (.slice none 0 0) (.slice none 0 0) (.slice none 0 0)) = w1):=⟨by rw [hw1a,hw1b,hw1]⟩
 have HZ1s:=As hz1
 have HB1:=As hb1
 have HB:=As hb
 have HO1:=As (hr.below hb1)
 have HOw:=As hr
 have HC1:=As (hrd.up hb1)
 obtain ⟨ln,hln⟩ : ∃ ln : Nat,Ai e.log r.tx e.log.length = ln:=⟨_,rfl⟩
 rw [hln] at hlog hroom
 obtain ⟨r1,hr1⟩ : ∃ r1,DN r ln = r1:=⟨_,rfl⟩
 rw [hr1] at hlog hroom
 obtain ⟨l1,hl1⟩ : ∃ l1,e.log ++ [r1] = l1:=⟨_,rfl⟩
 rw [hl1] at hlog hroom
 have hll : l1.length = e.log.length + 1:=by rw [← hl1];simp
 obtain ⟨nd,hnd⟩ : ∃ nd,need l1 = nd:=⟨_,rfl⟩
 have hsum : l1.length + nd ≤ 150:=by rw [← hnd,Oi,hll];exact hroom
 have HLOG:=As hlog
 have HLN:=As hln
 have HR1:=As hr1
 have HL1:=As hl1
 have HLL:=As hll
 have HND:=As hnd
 have HSUM:=As hsum
 have HGM:=As hgm
 have HRT:=As hrt
 have HL:=As (show e.log.length ≤ 150 by omega)
 have HE:=As (show e.app r = { e with log:=l1,mem:=if Cw r.kind = true then e.mem.set r.page.toNat (doR (pg e.mem r.page.toNat) r1 (e.log.length + 1 : Nat)) else e.mem } by unfold Eng.app;rw [← hl1, ← hr1, ← hln];rfl)
 have x2:=HQ1.out.c2
 have r1c:=HRB1.out.at.c1
 have r6c:=HRB1.out.at.c6
 have fr6:=HRB1.out.frz 6
 simp only [Nat.zero_add] at r1c r6c
 clear hw1a hw1b hw1 hza hzb hz1 hba hbb hb1 hb hr hrd hln hr1 hl1 hll hnd hsum hgm hrt hlog hroom
 go_enter Tryz.func113,Tryz.ntmps113
 go_wp2_with (go_at_call 109;rw [show ((w.alloc (Obj.cells #[Value.slice Ad e.disk.length cd,Value.slice Am e.mem.length cm,Value.slice Al e.log.length cl,Value.int IntKind.i64 e.safe,Value.bool e.down] 28)).alloc (Obj.cells #[Value.int IntKind.i64 r.kind,Value.int IntKind.i64 r.tx,Value.int IntKind.i64 r.page,Value.int IntKind.i64 r.slot,Value.int IntKind.i64 r.old,Value.int IntKind.i64 r.new,Value.int IntKind.i64 r.prev,Value.int IntKind.i64 r.next] 73)).alloc (Obj.cells #[Value.slice none 0 0,Value.slice none 0 0,Value.slice none 0 0,Value.int IntKind.i64 0,Value.bool false] 28) = w1 from HW1.out];refine (DW (c:=cl) HLN.out (Below.refl w1.heap.size w1) HC1.out.l).mono ?_;rintro x w' ⟨rfl,rfl⟩)
 obtain ⟨w2,hw2⟩ : ∃ w2,w1.setCell ⟨w.heap.size + 1,6,none⟩ (.int .i64 ln) = w2:=⟨_,rfl⟩
 have hrb2 : Dv w2 (w.heap.size + 1) r1:=by rw [← hw2, ← HR1.out];exact HRB1.out.FB ln
 have hq2 : Ac w2 w.heap.size e (.slice Ad e.disk.length cd) (.slice Am e.mem.length cm) (.slice Al e.log.length cl):=by rw [← hw2];exact HQ1.out.far (by omega) _ _
 have hp2 : Ac w2 (w.heap.size + 1 + 1) zE (.slice none 0 0) (.slice none 0 0) (.slice none 0 0):=by rw [← hw2];exact HP1.out.far (by omega) _ _
 have hb2 : Below w.heap.size w w2:=by rw [← hw2];exact HB1.out.setCell (p:=⟨w.heap.size + 1,6,none⟩) (by simp) _
 have hs2 : w2.heap.size = w.heap.size + 3:=by rw [← hw2];simp [HZ1s.out]
 rw [hw2]
 have HRB2:=As hrb2
 have HQ2:=As hq2
 have HP2:=As hp2
 have HB2:=As hb2
 have HS2:=As hs2
 have HO2 : Aa (AO w2 w0.heap.size (.slice Ad e.disk.length cd) (.slice Am e.mem.length cm) (.slice Al e.log.length cl) e):=⟨by rw [← hw2];exact Ty HO1.out HRB1.out 6 _ (fun k hk => by have h1:=Kd.VN HOw.out.l k hk;omega)⟩
 have HCL:=As (HO2.out.reads').l
 have x2:=hq2.c2
 obtain ⟨z0,z1,z2,z3,z4,z5,z6,z7⟩:=hrb2.at
 simp only [Nat.zero_add] at z1 z2 z3 z4 z5 z6 z7
 clear hw2 hrb2 hq2 hp2 hb2 hs2 r1c r6c fr6
 refine AQ (fun lx a wx => Below w2.heap.size w2 wx ∧ (Pre 3 0 13 (fun _ => True) (fun v wx => OwnRs wx w2.heap.size v []) lx a wx ∧ (Pre 6 3 16 (fun _ => True) (fun v wx => ∃ A c,v = .slice A e.log.length c ∧ OwnRs wx w2.heap.size v e.log) lx a wx ∧ (Pre 6 5 18 (fun _ => True) (fun v wx => ∃ B,v = .slice (some ⟨B,0,none⟩) 1 1 ∧ Kd.C Ca wx (some ⟨B,0,none⟩) 1 [r1]) lx a wx ∧ (Ap3 3 0 13 5 18 lx a wx ∧ Sl 6 19 (fun v wx => ∃ A c,v = .slice A l1.length c ∧ OwnRs wx w2.heap.size v l1) lx a wx))))) 8 rfl (by kernel_rfl) (⟨Af (Below.refl _ _),FN trivial,FN trivial,FN trivial,WW,Bb⟩) (fun HT => ?_)
 refine AX [1,2,4] ?_
 iterate 3 (refine AR (v:=?_) HT rfl (by kernel_rfl) rfl (kA Ae (kA (Ce rfl rfl rfl) (kA (Ce rfl rfl rfl) (kA (Ce rfl rfl rfl) (kA (Sq rfl rfl rfl rfl rfl) (Aj rfl rfl)))))) (by rfl) (fun _ _ _ h => h) (fun lx ax wx hS => ?_) ?_;rotate_left;(have hbx:=hS.1;clear hS;replace x2:=bc hbx x2;replace z0:=bc hbx z0;replace z1:=bc hbx z1;replace z2:=bc hbx z2;replace z3:=bc hbx z3;replace z4:=bc hbx z4;replace z5:=bc hbx z5;replace z6:=bc hbx z6;replace z7:=bc hbx z7;go_simp;with_reducible rfl);rotate_left;simp only [sc0,sc1])
 refine AV ?_
 apply Tm
 ·intro hrest
  refine AJ [0,5] (by kernel_rfl) (fun i hi wx hS => ?_)
  rcases List.mem_cons.1 hi with rfl | hi
  ·clear hi
   have hb : Below wx.heap.size wx (wx.alloc (.cells #[] 73)):=Ab (Below.refl _ _) _
   refine BH (w1:=wx.alloc (.cells #[] 73)) (.slice (some ⟨wx.heap.size,0,none⟩) 0 0) rfl rfl (by rfl) (by go_simp) ?_
   refine ⟨⟨bj hS.1 hb,fun _ => ⟨trivial,fun _ => rs_empty rfl hS.1.size⟩,fun _ => ⟨trivial,fun h => (Ap h (by kernel_rfl)).elim⟩,fun _ => ⟨trivial,fun h => (Ap h (by kernel_rfl)).elim⟩,fun _ => fun _ h => (Ap h (by kernel_rfl)).elim,fun h => (Ap h (by kernel_rfl)).elim⟩,?_⟩
   obtain ⟨B0,hB⟩ : ∃ B,wx.heap.size = B:=⟨_,rfl⟩
   rw [hB]
   clear hb hB hS
   simp only [sc0,sc1]
   refine AJ [3,5] (by kernel_rfl) (fun i hi wx hS => ?_)
   rcases List.mem_cons.1 hi with rfl | hi
   ·clear hi
    have hr0 : OwnRs wx w2.heap.size (.slice (some ⟨B0,0,none⟩) 0 0) []:=(hS.2.1 (by kernel_rfl)).2 (by kernel_rfl)
    refine wpOp_step rfl (Kd.CG Ca (Rr:=Ca.K wx) (w0:=w2) w2.heap.size (by rfl) (.tmp 13) (.tmp 15) 26 73 _ 64 rfl EL Ij rfl (by decide) (by decide) (.slice (some ⟨B0,0,none⟩) 0 0) [] e.log Al e.log.length cl (fun _ => True) (fun _ => False) rfl rfl hr0 (BA HCL.out hS.1) (fun _ _ hk => JH hk) (fun _ hk => hk.elim) (fun _ _ => trivial) hS.1 hS.1.size (by have:=HL.out;simp;omega) (fun v1 w4 hown hb4 hg4 _ => ?_))
    have hown : OwnRs w4 w2.heap.size v1 e.log:=hown
    obtain ⟨A1,c1,rfl, -, -⟩:=Kd.Ea hown
    simp only [Cu,sc0,sc1]
    refine ⟨⟨hb4,fun h => (Ap (by kernel_rfl) h).elim,fun _ => ⟨trivial,fun _ => ⟨_,_,rfl,hown⟩⟩,fun _ => ⟨trivial,fun h => (Ap h (by kernel_rfl)).elim⟩,fun h => (Ap (by kernel_rfl) h).elim,fun h => (Ap h (by kernel_rfl)).elim⟩,?_⟩
    clear hr0 hown hb4 hg4 hS
    refine AJ [5] (by kernel_rfl) (fun i hi wx hS => ?_)
    obtain rfl:=List.mem_singleton.1 hi
    clear hi
    have hb : Below wx.heap.size wx (wx.alloc r1.box):=Ab (Below.refl _ _) _
    refine BH (w1:=wx.alloc r1.box) (.slice (some ⟨wx.heap.size,0,none⟩) 1 1) rfl rfl (by rfl) (by go_simp) ?_
    refine ⟨⟨bj hS.1 hb,fun h => (Ap (by kernel_rfl) h).elim,fun _ => ⟨trivial,fun _ => ((hS.2.2.1 (by kernel_rfl)).2 (by kernel_rfl)).elim fun A' h' => h'.elim fun c' h2 => ⟨A',c',h2.1,Kd.Ct h2.2 hb⟩⟩,fun _ => ⟨trivial,fun _ => ⟨wx.heap.size,rfl,T9 (GR wx r1)⟩⟩,fun h _ _ => (Ap (by kernel_rfl) h).elim,fun h => (Ap h (by kernel_rfl)).elim⟩,?_⟩
    obtain ⟨B5,hB⟩ : ∃ B,wx.heap.size = B:=⟨_,rfl⟩
    rw [hB]
    clear hb hB hS
    simp only [sc0,sc1]
    exact Fe (done := [5,3,0,4,2,1]) (by kernel_rfl) (hrest A1 c1 B0 B5)
   ·obtain rfl:=List.mem_singleton.1 hi
    clear hi
    have hb : Below wx.heap.size wx (wx.alloc r1.box):=Ab (Below.refl _ _) _
    refine BH (w1:=wx.alloc r1.box) (.slice (some ⟨wx.heap.size,0,none⟩) 1 1) rfl rfl (by rfl) (by go_simp) ?_
    refine ⟨⟨bj hS.1 hb,fun _ => ⟨trivial,fun _ => Kd.Ct ((hS.2.1 (by kernel_rfl)).2 (by kernel_rfl)) hb⟩,fun _ => ⟨trivial,fun h => (Ap h (by kernel_rfl)).elim⟩,fun _ => ⟨trivial,fun _ => ⟨wx.heap.size,rfl,T9 (GR wx r1)⟩⟩,fun _ => fun _ _ => TV ((hS.2.1 (by kernel_rfl)).2 (by kernel_rfl)),fun h => (Ap h (by kernel_rfl)).elim⟩,?_⟩
    obtain ⟨B5,hB⟩ : ∃ B,wx.heap.size = B:=⟨_,rfl⟩
    rw [hB]
    clear hb hB hS
    simp only [sc0,sc1]
    refine AJ [3] (by kernel_rfl) (fun i hi wx hS => ?_)
    obtain rfl:=List.mem_singleton.1 hi
    clear hi
    have hr0 : OwnRs wx w2.heap.size (.slice (some ⟨B0,0,none⟩) 0 0) []:=(hS.2.1 (by kernel_rfl)).2 (by kernel_rfl)
    obtain ⟨B',hB',hC'⟩:=(hS.2.2.2.1 (by kernel_rfl)).2 (by kernel_rfl)
    have hB' : Value.slice (some ⟨B5,0,none⟩) 1 1 = .slice (some ⟨B',0,none⟩) 1 1:=hB'
    obtain rfl : B5 = B':=by simpa using hB'
    have hap : (Value.slice (some ⟨B0,0,none⟩) 0 0).ownBlock ≠ (Value.slice (some ⟨B5,0,none⟩) 1 1).ownBlock:=hS.2.2.2.2.1 (by kernel_rfl) (by kernel_rfl) (by kernel_rfl)
    refine wpOp_step rfl (Kd.CG Ca (Rr:=Ca.K wx) (w0:=w2) w2.heap.size (by rfl) (.tmp 13) (.tmp 15) 26 73 _ 64 rfl EL Ij rfl (by decide) (by decide) (.slice (some ⟨B0,0,none⟩) 0 0) [] e.log Al e.log.length cl (fun _ => True) (fun _ => False) rfl rfl hr0 (BA HCL.out hS.1) (fun _ _ hk => JH hk) (fun _ hk => hk.elim) (fun _ _ => trivial) hS.1 hS.1.size (by have:=HL.out;simp;omega) (fun v1 w4 hown hb4 hg4 _ => ?_))
    have hown : OwnRs w4 w2.heap.size v1 e.log:=hown
    obtain ⟨A1,c1,rfl, -, -⟩:=Kd.Ea hown
    simp only [Cu,sc0,sc1]
    have hC5 : Kd.C Ca w4 (some ⟨B5,0,none⟩) 1 [r1]:=V4 hC' hg4 hap
    refine ⟨⟨hb4,fun h => (Ap (by kernel_rfl) h).elim,fun _ => ⟨trivial,fun _ => ⟨_,_,rfl,hown⟩⟩,fun _ => ⟨trivial,fun _ => ⟨_,rfl,hC5⟩⟩,fun h => (Ap (by kernel_rfl) h).elim,fun h => (Ap h (by kernel_rfl)).elim⟩,?_⟩
    clear hr0 hown hb4 hg4 hS hC' hB' hap hC5
    exact Fe (done := [5,3,0,4,2,1]) (by kernel_rfl) (hrest A1 c1 B0 B5)
  ·obtain rfl:=List.mem_singleton.1 hi
   clear hi
   have hb : Below wx.heap.size wx (wx.alloc r1.box):=Ab (Below.refl _ _) _
   refine BH (w1:=wx.alloc r1.box) (.slice (some ⟨wx.heap.size,0,none⟩) 1 1) rfl rfl (by rfl) (by go_simp) ?_
   refine ⟨⟨bj hS.1 hb,fun _ => ⟨trivial,fun h => (Ap h (by kernel_rfl)).elim⟩,fun _ => ⟨trivial,fun h => (Ap h (by kernel_rfl)).elim⟩,fun _ => ⟨trivial,fun _ => ⟨wx.heap.size,rfl,T9 (GR wx r1)⟩⟩,fun _ => fun h => (Ap h (by kernel_rfl)).elim,fun h => (Ap h (by kernel_rfl)).elim⟩,?_⟩
   obtain ⟨B5,hB⟩ : ∃ B,wx.heap.size = B:=⟨_,rfl⟩
   rw [hB]
   clear hb hB hS
   simp only [sc0,sc1]
   refine AJ [0] (by kernel_rfl) (fun i hi wx hS => ?_)
   obtain rfl:=List.mem_singleton.1 hi
   clear hi
   have hb : Below wx.heap.size wx (wx.alloc (.cells #[] 73)):=Ab (Below.refl _ _) _
   refine BH (w1:=wx.alloc (.cells #[] 73)) (.slice (some ⟨wx.heap.size,0,none⟩) 0 0) rfl rfl (by rfl) (by go_simp) ?_
   refine ⟨⟨bj hS.1 hb,fun _ => ⟨trivial,fun _ => rs_empty rfl hS.1.size⟩,fun _ => ⟨trivial,fun h => (Ap h (by kernel_rfl)).elim⟩,fun _ => ⟨trivial,fun _ => ((hS.2.2.2.1 (by kernel_rfl)).2 (by kernel_rfl)).elim fun B' h' => ⟨B',h'.1,BA h'.2 hb⟩⟩,fun _ => fun _ _ => (((hS.2.2.2.1 (by kernel_rfl)).2 (by kernel_rfl)).elim fun B' h' => VI h'.2 h'.1),fun h => (Ap h (by kernel_rfl)).elim⟩,?_⟩
   obtain ⟨B0,hB⟩ : ∃ B,wx.heap.size = B:=⟨_,rfl⟩
   rw [hB]
   clear hb hB hS
   simp only [sc0,sc1]
   refine AJ [3] (by kernel_rfl) (fun i hi wx hS => ?_)
   obtain rfl:=List.mem_singleton.1 hi
   clear hi
   have hr0 : OwnRs wx w2.heap.size (.slice (some ⟨B0,0,none⟩) 0 0) []:=(hS.2.1 (by kernel_rfl)).2 (by kernel_rfl)
   obtain ⟨B',hB',hC'⟩:=(hS.2.2.2.1 (by kernel_rfl)).2 (by kernel_rfl)
   have hB' : Value.slice (some ⟨B5,0,none⟩) 1 1 = .slice (some ⟨B',0,none⟩) 1 1:=hB'
   obtain rfl : B5 = B':=by simpa using hB'
   have hap : (Value.slice (some ⟨B0,0,none⟩) 0 0).ownBlock ≠ (Value.slice (some ⟨B5,0,none⟩) 1 1).ownBlock:=hS.2.2.2.2.1 (by kernel_rfl) (by kernel_rfl) (by kernel_rfl)
   refine wpOp_step rfl (Kd.CG Ca (Rr:=Ca.K wx) (w0:=w2) w2.heap.size (by rfl) (.tmp 13) (.tmp 15) 26 73 _ 64 rfl EL Ij rfl (by decide) (by decide) (.slice (some ⟨B0,0,none⟩) 0 0) [] e.log Al e.log.length cl (fun _ => True) (fun _ => False) rfl rfl hr0 (BA HCL.out hS.1) (fun _ _ hk => JH hk) (fun _ hk => hk.elim) (fun _ _ => trivial) hS.1 hS.1.size (by have:=HL.out;simp;omega) (fun v1 w4 hown hb4 hg4 _ => ?_))
   have hown : OwnRs w4 w2.heap.size v1 e.log:=hown
   obtain ⟨A1,c1,rfl, -, -⟩:=Kd.Ea hown
   simp only [Cu,sc0,sc1]
   have hC5 : Kd.C Ca w4 (some ⟨B5,0,none⟩) 1 [r1]:=V4 hC' hg4 hap
   refine ⟨⟨hb4,fun h => (Ap (by kernel_rfl) h).elim,fun _ => ⟨trivial,fun _ => ⟨_,_,rfl,hown⟩⟩,fun _ => ⟨trivial,fun _ => ⟨_,rfl,hC5⟩⟩,fun h => (Ap (by kernel_rfl) h).elim,fun h => (Ap h (by kernel_rfl)).elim⟩,?_⟩
   clear hr0 hown hb4 hg4 hS hC' hB' hap hC5
   exact Fe (done := [5,3,0,4,2,1]) (by kernel_rfl) (hrest A1 c1 B0 B5)
 intro A1 c1 B0 B5
 refine AJ [6] (by kernel_rfl) (fun i hi w3 hS => ?_)
 obtain rfl:=List.mem_singleton.1 hi
 clear hi
 obtain ⟨h1, -,hB,hC, -, -⟩:=hS
 obtain ⟨A',c',hv,hown16⟩:=(hB (by kernel_rfl)).2 (by kernel_rfl)
 have hv : Value.slice A1 e.log.length c1 = .slice A' e.log.length c':=hv
 obtain ⟨rfl,rfl⟩ : A1 = A' ∧ c1 = c':=by simpa using hv
 have hown16 : OwnRs w3 w2.heap.size (.slice A1 e.log.length c1) e.log:=hown16
 obtain ⟨B',hB',hC'⟩:=(hC (by kernel_rfl)).2 (by kernel_rfl)
 have hB' : Value.slice (some ⟨B5,0,none⟩) 1 1 = .slice (some ⟨B',0,none⟩) 1 1:=hB'
 obtain rfl : B5 = B':=by simpa using hB'
 refine wpOp_step rfl (Kd.CG Ca (Rr:=Ca.K w3) (w0:=w2) w2.heap.size (by rfl) (.tmp 16) (.tmp 18) 26 73 _ 64 rfl EL Ij rfl (by decide) (by decide) (.slice A1 e.log.length c1) e.log [r1] (some ⟨B5,0,none⟩) 1 1 (fun _ => True) (fun _ => False) rfl rfl hown16 hC' (fun _ _ hk => JH hk) (fun _ hk => hk.elim) (fun _ _ => trivial) h1 h1.size (by have:=HL.out;simp;omega) (fun v1 w4 hown hb4 hg4 _ => ?_))
 rw [HL1.out] at hown
 obtain ⟨A6,c6,rfl, -, -⟩:=Kd.Ea hown
 simp only [Cu,sc0,sc1]
 refine ⟨⟨hb4,fun h => (Ap (by kernel_rfl) h).elim,fun h => (Ap (by kernel_rfl) h).elim,fun h => (Ap (by kernel_rfl) h).elim,fun h => (Ap (by kernel_rfl) h).elim,fun _ => ⟨_,_,rfl,hown⟩⟩,?_⟩
 clear h1 hB hC hv hown16 hB' hC' hown hb4 hg4
 refine CR (i:=7) (v:=?_) HT rfl (by kernel_rfl) rfl (kA Ae (kA (Ce rfl rfl rfl) (kA (Ce rfl rfl rfl) (kA (Ce rfl rfl rfl) (kA (Sq rfl rfl rfl rfl rfl) (Aj rfl rfl)))))) (by rfl) (fun _ _ _ h => h) (fun lx ax wx hS => ?_) ?_;rotate_left;(go_simp;with_reducible rfl);rotate_left;simp only [sc0,sc1]
 refine Ej (by kernel_rfl) (fun w5 hS => ?_)
 obtain ⟨hb5, -, -, -, -,h6⟩:=hS
 obtain ⟨A',c',hv,hown⟩:=h6 (by kernel_rfl)
 have hv : Value.slice A6 l1.length c6 = .slice A' l1.length c':=hv
 obtain ⟨rfl,rfl⟩ : A6 = A' ∧ c6 = c':=by simpa using hv
 have hown : OwnRs w5 w2.heap.size (.slice A6 l1.length c6) l1:=hown
 have HB5:=As hb5
 have HL5:=As hown
 have hs0:=HSUM.out
 have hwr : IntKind.i64.wrap ((l1.length : Int) + nd) = (l1.length : Int) + nd:=by simp (disch:=omega) only [IntWalk.i64_in]
 have hcmp : decide (150 < (l1.length : Int) + nd) = false:=by simp;omega
 clear h6 hv hown hb5 x2 z0 z1 z2 z3 z4 z5 z6 z7
 have hkd : r1.kind = r.kind:=by rw [← HR1.out];rfl
 have HKD:=As hkd
 clear hkd
 cases hc : Cw r.kind
 ·have HEC : Aa (e.app r = { e with log:=l1 }):=⟨by rw [HE.out,if_neg (by rw [hc];simp)]⟩
  have HCH:=As hc
  clear hc
  go_wp2_with (first
   | (go_at_call 141;refine (Lv (c:=c6) (Below.refl w5.heap.size w5) (Kd.Ef HL5.out).2.2 HLOG.out).mono ?_;rw [HND.out];rintro x w6 ⟨rfl,hb6⟩;have hb26:=bj HB5.out hb6;have HB26:=As hb26;have HL6:=As (Kd.Ct HL5.out hb6);have hq6:=HQ2.out.up hb26;have HQ6:=As hq6;have HO6:=As (HO2.out.below hb26);have q2:=hq6.c2;have g2:=hq6.frz 2;have z0:=(HRB2.out.up hb26).at.c0;clear hb6 hb26 hq6)
   | (go_at_call 142;obtain ⟨w7,hw7⟩ : ∃ w7,w6.setCell ⟨w.heap.size,2,none⟩ (.slice A6 l1.length c6) = w7:=⟨_,rfl⟩;have hs2:=HS2.out;have h26:=HB26.out.size;have hq7 : Ac w7 w.heap.size { e with log:=l1 } (.slice Ad e.disk.length cd) (.slice Am e.mem.length cm) (.slice A6 l1.length c6):=(by rw [← hw7];exact HQ6.out.set2 _);have hrb7 : Dv w7 (w.heap.size + 1) r1:=(by rw [← hw7];exact (HRB2.out.up HB26.out).far (by omega) _ _);have hp7 : Ac w7 (w.heap.size + 1 + 1) zE (.slice none 0 0) (.slice none 0 0) (.slice none 0 0):=(by rw [← hw7];exact (HP2.out.up HB26.out).far (by omega) _ _);have ho7 : AO w7 w0.heap.size (.slice Ad e.disk.length cd) (.slice Am e.mem.length cm) (.slice A6 l1.length c6) { e with log:=l1 }:=(by rw [← hw7];exact ⟨(HO6.out.FQ HQ6.out 2 _).ex,Kd.Hf (OL HL6.out HQ6.out 2 _) (by have:=HB.out.size;omega)⟩);have hb7 : Below w.heap.size w w7:=(by rw [← hw7];exact (bj HB2.out HB26.out).setCell (p:=⟨w.heap.size,2,none⟩) (Nat.le_refl _) _);have HQ7:=As hq7;have HRB7:=As hrb7;have HP7:=As hp7;have HO7:=As ho7;have HB7:=As hb7;have HN7:=As (show w.heap.size + 3 ≤ w7.heap.size by (have : w7.heap.size = w6.heap.size:=(by rw [← hw7];simp));omega);rw [hw7];refine (FW (k:=r1.kind) (b:=false) (by rw [HKD.out];exact HCH.out) _).mono ?_;rintro x w' ⟨rfl,rfl⟩;clear hw7 hs2 h26 hq7 hrb7 hp7 ho7 hb7 q2 g2 z0;have x0:=HQ7.out.c0;have x1:=HQ7.out.c1;have x2:=HQ7.out.c2;have x3:=HQ7.out.c3;have x4:=HQ7.out.c4;have y0:=HP7.out.c0;have y1:=HP7.out.c1;have y2:=HP7.out.c2;have y3:=HP7.out.c3;have y4:=HP7.out.c4;have f0:=HP7.out.frz 0;have f1:=HP7.out.frz 1;have f2:=HP7.out.frz 2;have f3:=HP7.out.frz 3;have f4:=HP7.out.frz 4))
  have HPZ:=HP7
  have HQZ:=HQ7
  have HOZ:=HO7
  have HBZ:=As (bj HB.out HB7.out)
  have HBZw:=HN7
  have HKZ:=As (show Jo w (.slice Am e.mem.length cm) w7 from Kept.of_below HB7.out _)
  have hwz:=HBZw.out
  have hsz:=HB.out.size
  have hy:=HPZ.out.Ao { e with log:=l1 } (.slice Ad e.disk.length cd) (.slice Am e.mem.length cm) (.slice A6 l1.length c6)
  have h1:=HOZ.out.Ao (f:={ e with log:=l1 }) (xd:=.slice Ad e.disk.length cd) (xm:=(.slice Am e.mem.length cm)) (xl:=.slice A6 l1.length c6) HPZ.out
  have h2:=Ah (g:=w.heap.size + 1 + 1) HBZ.out (by omega) { e with log:=l1 } (.slice Ad e.disk.length cd) (.slice Am e.mem.length cm) (.slice A6 l1.length c6)
  have z0:=hy.c0
  have z1:=hy.c1
  have z2:=hy.c2
  have z3:=hy.c3
  have z4:=hy.c4
  simp only at z0 z1 z2 z3 z4
  exact bodyPost_ret (v:=.tuple #[.agg #[.slice Ad e.disk.length cd,(.slice Am e.mem.length cm), .slice A6 l1.length c6, .int .i64 e.safe, .bool e.down], .bool true]) (by simp [results,Tryz.results113,go_sem,z0,z1,z2,z3,z4]) rfl ⟨.slice Ad e.disk.length cd,(.slice Am e.mem.length cm), .slice A6 l1.length c6,by rw [HEC.out],by rw [HEC.out];exact h1,h2,CY HKZ.out (by omega) _ _ _ _⟩
 ·have HCH:=As hc
  obtain ⟨p,hpp⟩ : ∃ p : Nat,r.page = (p : Int):=⟨r.page.toNat,by have:=(HRT.out hc).1;omega⟩
  have hp5 : p < 5:=by have:=(HRT.out hc).2.1;omega
  have hsl:=(HRT.out hc).2.2
  obtain ⟨q,hqq⟩ : ∃ q,doR (pg e.mem p) r1 (l1.length : Nat) = q:=⟨_,rfl⟩
  have HEC : Aa (e.app r = { e with log:=l1,mem:=e.mem.set p q }):=⟨by rw [HE.out,if_pos hc,show r.page.toNat = p by omega, ← hqq,HLL.out]⟩
  have HQQ:=As hqq
  have HPP:=As (show r1.page = (p : Int) by rw [← HR1.out];exact hpp)
  have HSL:=As (show r1.slot < 3 by rw [← HR1.out];exact hsl)
  clear hc hpp hsl hqq
  go_wp2_with (first
   | (go_at_call 141;refine (Lv (c:=c6) (Below.refl w5.heap.size w5) (Kd.Ef HL5.out).2.2 HLOG.out).mono ?_;rw [HND.out];rintro x w6 ⟨rfl,hb6⟩;have hb26:=bj HB5.out hb6;have HB26:=As hb26;have HL6:=As (Kd.Ct HL5.out hb6);have hq6:=HQ2.out.up hb26;have HQ6:=As hq6;have HO6:=As (HO2.out.below hb26);have q2:=hq6.c2;have g2:=hq6.frz 2;have z0:=(HRB2.out.up hb26).at.c0;clear hb6 hb26 hq6)
   | (go_at_call 142;obtain ⟨w7,hw7⟩ : ∃ w7,w6.setCell ⟨w.heap.size,2,none⟩ (.slice A6 l1.length c6) = w7:=⟨_,rfl⟩;have hs2:=HS2.out;have h26:=HB26.out.size;have hq7 : Ac w7 w.heap.size { e with log:=l1 } (.slice Ad e.disk.length cd) (.slice Am e.mem.length cm) (.slice A6 l1.length c6):=(by rw [← hw7];exact HQ6.out.set2 _);have hrb7 : Dv w7 (w.heap.size + 1) r1:=(by rw [← hw7];exact (HRB2.out.up HB26.out).far (by omega) _ _);have hp7 : Ac w7 (w.heap.size + 1 + 1) zE (.slice none 0 0) (.slice none 0 0) (.slice none 0 0):=(by rw [← hw7];exact (HP2.out.up HB26.out).far (by omega) _ _);have ho7 : AO w7 w0.heap.size (.slice Ad e.disk.length cd) (.slice Am e.mem.length cm) (.slice A6 l1.length c6) { e with log:=l1 }:=(by rw [← hw7];exact ⟨(HO6.out.FQ HQ6.out 2 _).ex,Kd.Hf (OL HL6.out HQ6.out 2 _) (by have:=HB.out.size;omega)⟩);have hb7 : Below w.heap.size w w7:=(by rw [← hw7];exact (bj HB2.out HB26.out).setCell (p:=⟨w.heap.size,2,none⟩) (Nat.le_refl _) _);have HQ7:=As hq7;have HRB7:=As hrb7;have HP7:=As hp7;have HO7:=As ho7;have HB7:=As hb7;have HN7:=As (show w.heap.size + 3 ≤ w7.heap.size by (have : w7.heap.size = w6.heap.size:=(by rw [← hw7];simp));omega);rw [hw7];refine (FW (k:=r1.kind) (b:=true) (by rw [HKD.out];exact HCH.out) _).mono ?_;rintro x w' ⟨rfl,rfl⟩;clear hw7 hs2 h26 hq7 hrb7 hp7 ho7 hb7 q2 g2 z0))
  have hgm5:=HGM.out.1
  obtain ⟨okd,okm,hap,hpd,hpm⟩:=HO7.out.ex
  obtain ⟨gm,capm,hfm, -,hgml⟩:=Ci hpm (by show 0 < e.mem.length;omega)
  injection hfm with hf1 hf2 hf3
  subst hf1 hf3
  have hpl : p < e.mem.length:=by omega
  have hp5i : (p : Int) < 5:=by omega
  obtain ⟨A2,c2,p0,p1,p2,pC, -⟩:=E5 hpm p hpl
  have x1:=HQ7.out.c1
  obtain ⟨z0,z1,z2,z3,z4,z5,z6,z7⟩:=HRB7.out.at
  simp only [Nat.zero_add] at z1 z2 z3 z4 z5 z6 z7
  rw [HPP.out] at z2
  have HPC:=As pC
  have HPD:=As hpd
  have HPM:=As hpm
  have HAP:=As hap
  have HVL3:=As (FZ HGM.out hp5)
  have hcall : ∀ wx,Below w7.heap.size w7 wx → Calls Tryz.prog 143 #[(pg e.mem p).val A2 c2, .agg #[.int .i64 r1.kind, .int .i64 r1.tx, .int .i64 (p : Int), .int .i64 r1.slot, .int .i64 r1.old, .int .i64 r1.new, .int .i64 r1.prev, .int .i64 r1.next], .int .i64 (l1.length : Int)] wx (PX wx q):=fun wx hb => by
   have h:=P9 (c:=c2) r1 (l1.length : Int) (by rw [HVL3.out];decide) (by rw [HVL3.out];exact HSL.out) hb HPC.out
   rw [show doR (pg e.mem p) r1 (l1.length : Int) = q from HQQ.out] at h
   unfold Rec.val at h
   rw [HPP.out] at h
   exact h
  have HCALL:=As hcall
  clear pC hpd hpm hap hgml hcall hf2
  refine AQ (fun lx a wx => Below w7.heap.size w7 wx ∧ Sl 13 45 (fun v wx => ∃ u,v = q.own u ∧ AL wx w7.heap.size u q.vals) lx a wx) 15 rfl (by kernel_rfl) (⟨Af (Below.refl _ _),Bb⟩) (fun HT => ?_)
  refine AX [0,1,2,3,4,5,6,7,8,9,10,11,12] ?_
  iterate 13 (refine AR (v:=?_) HT rfl (by kernel_rfl) rfl (kA Ae (Aj rfl rfl)) (by rfl) (fun _ _ _ h => h) (fun lx ax wx hS => ?_) ?_;rotate_left;(have hbx:=hS.1;clear hS;replace x1:=bc hbx x1;replace p0:=bc hbx p0;replace p1:=bc hbx p1;replace p2:=bc hbx p2;replace z0:=bc hbx z0;replace z1:=bc hbx z1;replace z2:=bc hbx z2;replace z3:=bc hbx z3;replace z4:=bc hbx z4;replace z5:=bc hbx z5;replace z6:=bc hbx z6;replace z7:=bc hbx z7;go_simp;with_reducible rfl);rotate_left;simp only [sc0,sc1])
  refine AV ?_
  refine C8 (i:=13) (f:=143) (args:=#[(pg e.mem p).val A2 c2, .agg #[.int .i64 r1.kind, .int .i64 r1.tx, .int .i64 (p : Int), .int .i64 r1.slot, .int .i64 r1.old, .int .i64 r1.new, .int .i64 r1.prev, .int .i64 r1.next], .int .i64 (l1.length : Int)]) (fun v => ∃ u,v = q.own u) rfl (by kernel_rfl) rfl Tryz.func143 (by kernel_rfl) rfl rfl (by rfl) (by simp only [List.map_toArray,List.map_cons,List.map_nil];rfl) (fun wx hS => (HCALL.out wx hS.1).mono (by rintro x w8 ⟨u,rfl,ho,hb⟩;exact ⟨_,rfl,⟨u,rfl⟩,bj hS.1 hb,fun _ => ⟨u,rfl,ho.lower hS.1.size⟩⟩)) (fun vx hg => ?_);simp only [sc0,sc1]
  obtain ⟨u,rfl⟩:=hg
  refine CR (i:=14) (v:=?_) HT rfl (by kernel_rfl) rfl (kA Ae (Aj rfl rfl)) (by rfl) (fun _ _ _ h => h) (fun lx ax wx hS => ?_) ?_;rotate_left;(go_simp;with_reducible rfl);rotate_left;simp only [sc0,sc1]
  refine BZ (i:=15) (by kernel_rfl) rfl (fun wx hS => ?_)
  obtain ⟨h1,h3⟩:=hS
  obtain ⟨u1,hu1,hown⟩:=h3 (by kernel_rfl)
  have hu1 : q.own u = q.own u1:=hu1
  obtain rfl : u = u1:=by simpa using hu1
  refine EK (ok:=okm) (w0:=w0) (N:=w7.heap.size) (q:=q) p rfl (.tmp 46) (.tmp 45) rfl (by rfl) rfl rfl rfl hown (by have:=HB.out.size;have:=HN7.out;omega) (Kd.Ee HPM.out h1) hpl (bj HB.out (bj HB7.out h1)) (fun w8 hO8 hB8 hg8 => ?_)
  refine BM (by kernel_rfl) ?_
  have hd8:=Kd.Ee HPD.out h1
  have hty:=Kd.Fw (Kd.BG HPM.out h1) gm (by simp [Value.ownBlock])
  have he8:=AO.Qz (e:={ e with log:=l1 }) HAP.out hd8 (Kd.Ct HO7.out.l h1) hown hO8 (Mr HPM.out gm (by simp [Value.ownBlock])) hg8 hty
  have hq8 : Ac w8 w.heap.size { e with log:=l1,mem:=e.mem.set p q } (.slice Ad e.disk.length cd) (.slice (some ⟨gm,0,none⟩) e.mem.length cm) (.slice A6 l1.length c6):=(hg8.block _ (by have:=HN7.out;have:=h1.size;omega) (fun e2 => by injection e2 with e2;exact G6 HQ7.out HPM.out e2)).trans (HQ7.out.up h1)
  have hp8 : Ac w8 (w.heap.size + 1 + 1) zE (.slice none 0 0) (.slice none 0 0) (.slice none 0 0):=(hg8.block _ (by have:=HN7.out;have:=h1.size;omega) (fun e2 => by injection e2 with e2;exact G6 HP7.out HPM.out e2)).trans (HP7.out.up h1)
  have HKZ:=As (show Jo w (.slice (some ⟨gm,0,none⟩) e.mem.length cm) w8 from Kept.Ib hg8 (Kept.of_below (bj HB7.out h1) _) (fun k hk => .inl (by simp only [Value.ownBlock];exact hk.symm)))
  have HPZ:=As hp8
  have HQZ:=As hq8
  have HOZ:=As he8
  have HBZ:=As hB8
  have HBZw : Aa (w.heap.size + 3 ≤ w8.heap.size):=⟨by have:=HN7.out;have:=h1.size;have:=hg8.size;omega⟩
  clear h1 h3 hu1 hown hO8 hB8 hg8 hd8 hty he8 hq8 hp8 x1 p0 p1 p2 z0 z1 z2 z3 z4 z5 z6 z7 hpl hgm5 hp5i hp5
  have y:=HPZ.out
  have y0:=y.c0
  have y1:=y.c1
  have y2:=y.c2
  have y3:=y.c3
  have y4:=y.c4
  have f0:=y.frz 0
  have f1:=y.frz 1
  have f2:=y.frz 2
  have f3:=y.frz 3
  have f4:=y.frz 4
  have x0:=HQZ.out.c0
  have x1:=HQZ.out.c1
  have x2:=HQZ.out.c2
  have x3:=HQZ.out.c3
  have x4:=HQZ.out.c4
  clear y
  go_wp2
  have hwz:=HBZw.out
  have hsz:=HB.out.size
  have hy:=HPZ.out.Ao { e with log:=l1,mem:=e.mem.set p q } (.slice Ad e.disk.length cd) (.slice (some ⟨gm,0,none⟩) e.mem.length cm) (.slice A6 l1.length c6)
  have h1:=HOZ.out.Ao (f:={ e with log:=l1,mem:=e.mem.set p q }) (xd:=.slice Ad e.disk.length cd) (xm:=(.slice (some ⟨gm,0,none⟩) e.mem.length cm)) (xl:=.slice A6 l1.length c6) HPZ.out
  have h2:=Ah (g:=w.heap.size + 1 + 1) HBZ.out (by omega) { e with log:=l1,mem:=e.mem.set p q } (.slice Ad e.disk.length cd) (.slice (some ⟨gm,0,none⟩) e.mem.length cm) (.slice A6 l1.length c6)
  have z0:=hy.c0
  have z1:=hy.c1
  have z2:=hy.c2
  have z3:=hy.c3
  have z4:=hy.c4
  simp only at z0 z1 z2 z3 z4
  exact bodyPost_ret (v:=.tuple #[.agg #[.slice Ad e.disk.length cd,(.slice (some ⟨gm,0,none⟩) e.mem.length cm), .slice A6 l1.length c6, .int .i64 e.safe, .bool e.down], .bool true]) (by simp [results,Tryz.results113,go_sem,z0,z1,z2,z3,z4]) rfl ⟨.slice Ad e.disk.length cd,(.slice (some ⟨gm,0,none⟩) e.mem.length cm), .slice A6 l1.length c6,by rw [HEC.out],by rw [HEC.out];exact h1,h2,CY HKZ.out (by omega) _ _ _ _⟩
def XO (w0 w : World) (vm : Value) (e : Eng) (x : Ending) (w' : World) : Prop := ∃ vd' vm' vl',x = .returned (e.ag vd' vm' vl') ∧ AO w' w0.heap.size vd' vm' vl' e ∧ Below w0.heap.size w0 w' ∧ Jo w vm w'
theorem Tk {R : Value → Value → Value → Nat → Prop} {G : Prop} (h1 : (∀ a b c d,R a b c d) → G) (h2 : ∀ a b c d,R a b c d) : G:=h1 h2
theorem AO.YE {w w1 : World} {b n c : Nat} {A : Option Addr} {vd vm : Value} {e : Eng} (h : AO w b vd vm (.slice A n c) e) (hk : Jo w vm w1) : Kd.C Ca w1 A e.log.length e.log:=by
 obtain ⟨okd,okm, -, -,hm⟩:=h.ex
 have hr:=Kd.M9 (Kd.Oo rfl h.l) hk (fun k hx hy => by
  obtain ⟨c1,h1⟩:=I6 h.l k hx.symm
  obtain ⟨c2,h2⟩:=Kd.Fw hm k hy.symm
  rw [h1] at h2
  injection h2 with h2
  injection h2 with _ h3
  exact absurd h3 (by decide))
 obtain ⟨A',c',h1, -,h2⟩:=Kd.Ea hr
 injection h1 with h1
 subst h1
 exact h2
theorem Tj {e : Eng} {tx : Int} (hs : JN e tx) : Cw (Dn e tx).kind = true → 0 ≤ (Dn e tx).page ∧ (Dn e tx).page < 5 ∧ (Dn e tx).slot < 3:=fun hc => by
 have h1:=hs.may hc
 simp only [FR,Bool.and_eq_true] at h1
 have h2:=Im h1.2.1 hc
 have h3 : (CU e tx).page = (Dn e tx).page:=rfl
 have h4 : (CU e tx).slot = (Dn e tx).slot:=rfl
 omega
theorem W9 {e : Eng} {tx : Int} (hs : JN e tx) : AB (e.log ++ [DN (Dn e tx) (Ai e.log (Dn e tx).tx e.log.length)]) = true:=hs.log'
theorem Vd {e : Eng} {tx : Int} (hs : JN e tx) : e.log.length + 1 + Bu (e.log ++ [DN (Dn e tx) (Ai e.log (Dn e tx).tx e.log.length)]) (e.log.length + 1) ≤ 150:=hs.room
set_option maxRecDepth 100000 in
set_option maxHeartbeats 8000000 in
theorem Ls {w0 w : World} {e : Eng} {vd vm vl : Value} {tx : Int} (hs : JN e tx) (hb : Below w0.heap.size w0 w) (hr : AO w w0.heap.size vd vm vl e) : Calls Tryz.prog 116 #[e.ag vd vm vl, .int .i64 tx] w (XO w0 w vm (Be e tx)):=by
 obtain ⟨Ad,cd,Am,cm,Al,cl,rfl,rfl,rfl,hcl,hrd⟩:=hr.reads
 obtain ⟨w1a,hw1a⟩ : ∃ w1a,w.alloc (e.obox (.slice Ad e.disk.length cd) (.slice Am e.mem.length cm) (.slice Al e.log.length cl)) = w1a:=⟨_,rfl⟩
 obtain ⟨w1,hw1⟩ : ∃ w1,w1a.alloc (zE.obox (.slice none 0 0) (.slice none 0 0) (.slice none 0 0)) = w1:=⟨_,rfl⟩
 have hza : w1a.heap.size = w.heap.size + 1:=by rw [← hw1a];exact BJ _ _
 have hz1 : w1.heap.size = w.heap.size + 2:=by rw [← hw1,BJ,hza]
 have hba : Below w1a.heap.size w1a w1:=by rw [← hw1];exact Ab (Below.refl _ _) _
 have hb1 : Below w.heap.size w w1:=by rw [← hw1, ← hw1a];exact Ab (Ab (Below.refl _ _) _) _
 have HQ1 : Aa (Ac w1 w.heap.size e (.slice Ad e.disk.length cd) (.slice Am e.mem.length cm) (.slice Al e.log.length cl)):=⟨Ac.up (by rw [← hw1a];exact Ac.mk1 _ _ _ _ _) hba⟩
 have HP1 : Aa (Ac w1 (w.heap.size + 1) zE (.slice none 0 0) (.slice none 0 0) (.slice none 0 0)):=⟨by rw [← hw1, ← hza];exact Ac.mk1 _ _ _ _ _⟩
 have HW1 : Aa ((w.alloc (e.obox (.slice Ad e.disk.length cd) (.slice Am e.mem.length cm) (.slice Al e.log.length cl))).alloc (zE.obox (.slice none 0 0) (.slice none 0 0) (.slice none 0 0)) = w1):=⟨by rw [hw1a,hw1]⟩
 have HZ1s:=As hz1
 have HB1:=As hb1
 have HB:=As hb
 have HO1:=As (hr.below hb1)
 have HC1:=As (hrd.up hb1)
 have HS:=As hs
 have hlg:=Bo hs.log
 obtain ⟨ln,hln⟩ : ∃ ln : Nat,Ai e.log tx e.log.length = ln:=⟨_,rfl⟩
 have hlnl : ln ≤ e.log.length:=by rw [← hln];exact Bc _ _ _
 obtain ⟨k,hk⟩ : ∃ k : Nat,Br e.log ln = k:=⟨_,rfl⟩
 have hkl : k ≤ e.log.length:=by rw [← hk];exact Nat.le_trans I5 hlnl
 have HLN:=As hln
 have HLL:=As hlnl
 have HK:=As hk
 obtain ⟨r,hnx⟩ : ∃ r,Dn e tx = r:=⟨_,rfl⟩
 have HNX : Aa (r = if k = 0 then ⟨5,tx,0,0,0,0,0,0⟩ else Bz (rc e.log (k - 1)) 0):=⟨by rw [← hnx];unfold Dn;rw [show lastT e tx = ln from hln,hk]⟩
 have h1:=Tj hs
 have h2:=W9 hs
 have h3:=Vd hs
 have hE : Be e tx = e.app r:=by unfold Be;rw [hnx]
 rw [hnx] at h1 h2 h3
 rw [hE]
 have HRT:=As h1
 have HLOG:=As h2
 have HROOM:=As h3
 have x0:=HQ1.out.c0
 have x1:=HQ1.out.c1
 have x2:=HQ1.out.c2
 have x3:=HQ1.out.c3
 have x4:=HQ1.out.c4
 have HGM:=As hs.geo
 clear hw1a hw1 hza hz1 hba hb1 hb hr hrd hs hln hlnl hk h1 h2 h3 hE hnx
 have hadd : ∀ wx vd' vm' vl',AO wx w0.heap.size vd' vm' vl' e → Below w0.heap.size w0 wx → Calls Tryz.prog 113 #[e.ag vd' vm' vl',r.val] wx (Iq w0 wx vm' (e.app r) true):=fun wx vd' vm' vl' ho hb => EW r HGM.out HLOG.out HROOM.out HRT.out hb ho
 have HADD:=As hadd
 have hback : ∀ wx,Below w1.heap.size w1 wx → Calls Tryz.prog 144 #[.slice Al e.log.length cl, .int .i64 ln] wx fun x w' => x = .returned (.int .i64 k) ∧ Below w1.heap.size w1 w':=fun wx hb => by
  have:=Gr (c:=cl) HLL.out hb HC1.out.l HS.out.log
  rw [HK.out] at this
  exact this
 have HBACK:=As hback
 obtain ⟨E,hEE⟩ : ∃ E,e.app r = E:=⟨_,rfl⟩
 have HEE:=As hEE
 rw [hEE]
 clear hadd hback hEE
 rcases k with _ | k
 ·have hr0 : r = ⟨5,tx,0,0,0,0,0,0⟩:=by rw [HNX.out,if_pos rfl]
  have HR0:=As hr0
  clear hr0
  go_enter Tryz.func116,Tryz.ntmps116
  go_wp2_with (first
   | (go_at_call 109;rw [show (w.alloc (Obj.cells #[Value.slice Ad e.disk.length cd,Value.slice Am e.mem.length cm,Value.slice Al e.log.length cl,Value.int IntKind.i64 e.safe,Value.bool e.down] 28)).alloc (Obj.cells #[Value.slice none 0 0,Value.slice none 0 0,Value.slice none 0 0,Value.int IntKind.i64 0,Value.bool false] 28) = w1 from HW1.out];refine (DW (c:=cl) HLN.out (Below.refl w1.heap.size w1) HC1.out.l).mono ?_;rintro x w' ⟨rfl,rfl⟩)
   | (go_at_call 144;refine (HBACK.out _ (Below.refl _ _)).mono ?_;rintro x w2 ⟨rfl,hb2⟩;have HB2:=As hb2;replace x0:=bc hb2 x0;replace x1:=bc hb2 x1;replace x2:=bc hb2 x2;replace x3:=bc hb2 x3;replace x4:=bc hb2 x4;clear hb2)
   | (go_at_call 113;have h:=HADD.out w2 _ _ _ (HO1.out.below HB2.out) (bj HB.out (bj HB1.out HB2.out));rw [HR0.out] at h;refine h.mono ?_;rw [← HR0.out,HEE.out];clear h;rintro x w3 ⟨ud,um,ul,rfl,ho,hb3,hk3⟩;obtain ⟨Bd,dd,Bm,dm,Bl,dl,rfl,rfl,rfl, -, -⟩:=ho.reads;have HO3:=As ho;have HB3:=As hb3;have HP3:=As ((HP1.out.up HB2.out).Jh (HO1.out.below HB2.out) hk3);have HK3:=As ((Kept.of_below (bj HB1.out HB2.out) (fun k => some k = (Value.slice Am e.mem.length cm).ownBlock)).CX hk3 (fun k hk => .inl hk));have HN3:=As hk3.1;clear ho hb3 hk3 x0 x1 x2 x3 x4)
   | (refine Ag (vd:=.slice Bd E.disk.length dd) (vm:=.slice Bm E.mem.length dm) (vl:=.slice Bl E.log.length dl) E ?_;intro w4 hb4 _ hq4;have HO4:=As (HO3.out.below hb4);have HB4:=As (bj HB3.out hb4);have HK4:=As (HK3.out.below hb4);have hp4:=HP3.out.up hb4;have HP4:=As hp4;have x0:=hq4.c0;have x1:=hq4.c1;have x2:=hq4.c2;have x3:=hq4.c3;have x4:=hq4.c4;have y0:=hp4.c0;have y1:=hp4.c1;have y2:=hp4.c2;have y3:=hp4.c3;have y4:=hp4.c4;have f0:=hp4.frz 0;have f1:=hp4.frz 1;have f2:=hp4.frz 2;have f3:=hp4.frz 3;have f4:=hp4.frz 4;clear hb4 hq4 hp4))
  have hy:=HP4.out.Ao E (.slice Bd E.disk.length dd) (.slice Bm E.mem.length dm) (.slice Bl E.log.length dl)
  have h1:=HO4.out.Ao (f:=E) (xd:=.slice Bd E.disk.length dd) (xm:=.slice Bm E.mem.length dm) (xl:=.slice Bl E.log.length dl) HP4.out
  have h2:=Ah (g:=w.heap.size + 1) HB4.out (by have:=HB.out.size;omega) E (.slice Bd E.disk.length dd) (.slice Bm E.mem.length dm) (.slice Bl E.log.length dl)
  have h3:=CY (g:=w.heap.size + 1) HK4.out (by omega) E (.slice Bd E.disk.length dd) (.slice Bm E.mem.length dm) (.slice Bl E.log.length dl)
  have z0:=hy.c0
  have z1:=hy.c1
  have z2:=hy.c2
  have z3:=hy.c3
  have z4:=hy.c4
  exact bodyPost_ret (v:=E.ag (.slice Bd E.disk.length dd) (.slice Bm E.mem.length dm) (.slice Bl E.log.length dl)) (by simp [results,Tryz.results116,go_sem,z0,z1,z2,z3,z4]) rfl ⟨_,_,_,rfl,h1,h2,h3⟩
 ·have hkk : k < e.log.length:=by omega
  obtain ⟨rb,hrb⟩ : ∃ rb,Bz (rc e.log k) (ln : Int) = rb:=⟨_,rfl⟩
  have hr0 : rb = DN r (ln : Int):=by rw [HNX.out,if_neg (by omega),Nat.add_sub_cancel, ← hrb];rfl
  have HRB:=As hrb
  have HADD2 : Aa (∀ wx,AO wx w0.heap.size (.slice Ad e.disk.length cd) (.slice Am e.mem.length cm) (.slice Al e.log.length cl) e → Below w0.heap.size w0 wx → Calls Tryz.prog 113 #[e.val Ad Am Al cd cm cl,rb.val] wx (Iq w0 wx (.slice Am e.mem.length cm) E true)):=⟨fun wx ho hb => by
   rw [hr0, ← HEE.out]
   exact EW (DN r (ln : Int)) HGM.out HLOG.out HROOM.out HRT.out hb ho⟩
  have hwr0 : IntKind.i64.wrap (k : Int) = (k : Int):=by simp (disch:=omega) only [IntWalk.i64_in]
  have hwr1 : IntKind.i64.wrap ((k : Int) + 1 - 1) = (k : Int):=by rw [show ((k : Int) + 1 - 1) = (k : Int) by omega];exact hwr0
  have hwr2 : IntKind.i64.wrap (((k + 1 : Nat) : Int) - 1) = (k : Int):=by rw [show (((k + 1 : Nat) : Int) - 1) = (k : Int) by omega];exact hwr0
  obtain ⟨ad,had, -⟩:=CS HC1.out.l k hkk
  subst had
  clear hrb hr0
  go_enter Tryz.func116,Tryz.ntmps116
  go_wp2_with (first
   | (go_at_call 109;rw [show (w.alloc (Obj.cells #[Value.slice Ad e.disk.length cd,Value.slice Am e.mem.length cm,Value.slice (some ad) e.log.length cl,Value.int IntKind.i64 e.safe,Value.bool e.down] 28)).alloc (Obj.cells #[Value.slice none 0 0,Value.slice none 0 0,Value.slice none 0 0,Value.int IntKind.i64 0,Value.bool false] 28) = w1 from HW1.out];refine (DW (c:=cl) HLN.out (Below.refl w1.heap.size w1) HC1.out.l).mono ?_;rintro x w' ⟨rfl,rfl⟩)
   | (go_at_call 144;refine (HBACK.out _ (Below.refl _ _)).mono ?_;rintro x w2 ⟨rfl,hb2⟩;have HB2:=As hb2;replace x0:=bc hb2 x0;replace x1:=bc hb2 x1;replace x2:=bc hb2 x2;replace x3:=bc hb2 x3;replace x4:=bc hb2 x4;clear hb2))
  have HO2:=As (HO1.out.below HB2.out)
  have HQ2:=As (HQ1.out.up HB2.out)
  have HP2:=As (HP1.out.up HB2.out)
  have HW2:=As (bj HB1.out HB2.out)
  have HZ2 : Aa (w.heap.size + 2 ≤ w2.heap.size):=⟨by have:=HZ1s.out;have:=HB2.out.size;omega⟩
  clear x0 x1 x2 x3 x4
  refine AQ (fun lx a wx => (Below w0.heap.size w0 wx ∧ Jo w2 (.slice Am e.mem.length cm) wx) ∧ (Un 9 (fun wx => Below w2.heap.size w2 wx) lx a wx ∧ (Sl 9 39 (fun v wx => ∃ ud um ul,v = .tuple #[E.ag ud um ul, .bool true] ∧ AO wx w0.heap.size ud um ul E) lx a wx ∧ (Pre 14 13 9 (fun _ => True) (fun v wx => ∃ B,v = ptr B ∧ w2.heap.size ≤ B ∧ Ac wx B zE (.slice none 0 0) (.slice none 0 0) (.slice none 0 0)) lx a wx ∧ Sl 14 9 (fun v wx => ∃ B ud um ul,v = ptr B ∧ w2.heap.size ≤ B ∧ Ac wx B E ud um ul ∧ AO wx w0.heap.size ud um ul E) lx a wx)))) 16 rfl (by kernel_rfl) (⟨⟨Af (bj HB.out HW2.out),Kept.drew (Kept.refl _ _)⟩,fun _ => Af (Below.refl _ _),Bb,FN trivial,Bb⟩) (fun HT => ?_)
  refine AX [0,1,2,3,4,5,6,7] ?_
  iterate 8 (refine AR (v:=?_) HT rfl (by kernel_rfl) rfl (kA Ae (kA (AA rfl) (kA (Aj rfl rfl) (kA (Ce rfl rfl rfl) (Aj rfl rfl))))) (by rfl) (fun _ _ _ h => h) (fun lx ax wx hS => ?_) ?_;rotate_left;(have hk:=hS.1.2;clear hS;have hq:=HQ2.out.Jh HO2.out hk;have x0:=hq.c0;have x1:=hq.c1;have x2:=hq.c2;have x3:=hq.c3;have x4:=hq.c4;obtain ⟨ad',he',QR⟩:=CS (HO2.out.YE hk) k hkk;(injection he' with he';subst he');obtain ⟨z0,z1,z2,z3,z4,z5,z6,z7⟩:=QR;go_simp;with_reducible rfl);rotate_left;simp only [sc0,sc1])
  refine AV ?_
  refine Kn (i:=8) (f:=145) (v:=rb.val) (args:=#[(rc e.log k).val, .int .i64 ln]) HT rfl (by kernel_rfl) rfl Tryz.func145 (by kernel_rfl) rfl rfl (kA Ae (kA (AA rfl) (kA (Aj rfl rfl) (kA (Ce rfl rfl rfl) (Aj rfl rfl))))) (by rfl) (fun _ _ _ h => h) (by simp only [List.map_toArray,List.map_cons,List.map_nil];rfl) (fun lx ax wx hS => (HRB.out ▸ QI (rc e.log k) (ln : Int) wx : Calls Tryz.prog 145 #[(rc e.log k).val, .int .i64 ln] wx fun e w' => e = .returned rb.val ∧ Below wx.heap.size wx w').mono fun _ w' h => ⟨h.1,⟨bj hS.1.1 h.2,hS.1.2.below h.2⟩,fun h9 => bj (hS.2.1 h9) h.2,fun h9 => (hS.2.2.1 h9).elim fun a' q => q.elim fun b' q => q.elim fun c' q => ⟨a',b',c',q.1,q.2.below h.2⟩,fun h9 => ⟨trivial,fun h8 => ((hS.2.2.2.1 h9).2 h8).elim fun B q => ⟨B,q.1,q.2.1,q.2.2.up h.2⟩⟩,fun h9 => (hS.2.2.2.2 h9).elim fun B q => q.elim fun a' q => q.elim fun b' q => q.elim fun c' q => ⟨B,a',b',c',q.1,q.2.1,q.2.2.1.up h.2,q.2.2.2.below h.2⟩⟩) ?_;simp only [sc0,sc1]
  apply Tk
  ·intro hrest
   refine AJ [9,13] (by kernel_rfl) (fun i hi wx hS => ?_)
   rcases List.mem_cons.1 hi with rfl | hi
   ·clear hi
    refine Da (f:=113) (args:=#[e.val Ad Am (some ad) cd cm cl,rb.val]) rfl rfl Tryz.func113 (by kernel_rfl) rfl rfl (by rfl) (by simp only [List.map_toArray,List.map_cons,List.map_nil];rfl) ((HADD2.out wx (HO2.out.below (hS.2.1 (by kernel_rfl))) hS.1.1).mono ?_)
    rintro x w6 ⟨ud,um,ul,rfl,ho,hb,hk⟩
    refine ⟨_,rfl,⟨⟨hb,hS.1.2.CX hk (fun k hk => .inl hk)⟩,fun h => (Ap (by kernel_rfl) h).elim,fun _ => ⟨ud,um,ul,rfl,ho⟩,fun _ => ⟨trivial,fun h => (Ap h (by kernel_rfl)).elim⟩,fun h => (Ap h (by kernel_rfl)).elim⟩,?_⟩
    clear hS ho hb hk
    simp only [sc0,sc1]
    refine AX [10,11,12] ?_
    iterate 3 (refine AR (v:=?_) HT rfl (by kernel_rfl) rfl (kA Ae (kA (AA rfl) (kA (Aj rfl rfl) (kA (Ce rfl rfl rfl) (Aj rfl rfl))))) (by rfl) (fun _ _ _ h => h) (fun lx ax wx hS => ?_) ?_;rotate_left;(go_simp;with_reducible rfl);rotate_left;simp only [sc0,sc1])
    refine AV ?_
    refine AJ [13] (by kernel_rfl) (fun i hi wx hS => ?_)
    obtain rfl:=List.mem_singleton.1 hi
    clear hi
    have hbx : Below wx.heap.size wx (wx.alloc (zE.obox (.slice none 0 0) (.slice none 0 0) (.slice none 0 0))):=Ab (Below.refl _ _) _
    refine BH (w1:=wx.alloc (zE.obox (.slice none 0 0) (.slice none 0 0) (.slice none 0 0))) (ptr wx.heap.size) rfl rfl (by rfl) (by go_simp;rfl) ?_
    refine ⟨⟨⟨bj hS.1.1 hbx,hS.1.2.below hbx⟩,fun h => (Ap (by kernel_rfl) h).elim,fun _ => (hS.2.2.1 (by kernel_rfl)).elim fun a' h' => h'.elim fun b' h' => h'.elim fun c' h' => ⟨a',b',c',h'.1,h'.2.below hbx⟩,fun _ => ⟨trivial,fun _ => ⟨wx.heap.size,rfl,hS.1.2.1,Ac.mk1 wx zE _ _ _⟩⟩,fun h => (Ap h (by kernel_rfl)).elim⟩,?_⟩
    obtain ⟨B,hB⟩ : ∃ B,wx.heap.size = B:=⟨_,rfl⟩
    rw [hB]
    clear hB hS hbx
    simp only [sc0,sc1]
    exact Fe (done := [13,12,11,10,9,8,7,6,5,4,3,2,1,0]) (by kernel_rfl) (hrest ud um ul B)
   ·obtain rfl:=List.mem_singleton.1 hi
    clear hi
    have hbx : Below wx.heap.size wx (wx.alloc (zE.obox (.slice none 0 0) (.slice none 0 0) (.slice none 0 0))):=Ab (Below.refl _ _) _
    refine BH (w1:=wx.alloc (zE.obox (.slice none 0 0) (.slice none 0 0) (.slice none 0 0))) (ptr wx.heap.size) rfl rfl (by rfl) (by go_simp;rfl) ?_
    refine ⟨⟨⟨bj hS.1.1 hbx,hS.1.2.below hbx⟩,fun h => bj (hS.2.1 h) hbx,fun h => (Ap h (by kernel_rfl)).elim,fun _ => ⟨trivial,fun _ => ⟨wx.heap.size,rfl,hS.1.2.1,Ac.mk1 wx zE _ _ _⟩⟩,fun h => (Ap h (by kernel_rfl)).elim⟩,?_⟩
    obtain ⟨B,hB⟩ : ∃ B,wx.heap.size = B:=⟨_,rfl⟩
    rw [hB]
    clear hB hS hbx
    simp only [sc0,sc1]
    refine AJ [9] (by kernel_rfl) (fun i hi wx hS => ?_)
    obtain rfl:=List.mem_singleton.1 hi
    clear hi
    refine Da (f:=113) (args:=#[e.val Ad Am (some ad) cd cm cl,rb.val]) rfl rfl Tryz.func113 (by kernel_rfl) rfl rfl (by rfl) (by simp only [List.map_toArray,List.map_cons,List.map_nil];rfl) ((HADD2.out wx (HO2.out.below (hS.2.1 (by kernel_rfl))) hS.1.1).mono ?_)
    rintro x w6 ⟨ud,um,ul,rfl,ho,hb,hk⟩
    refine ⟨_,rfl,⟨⟨hb,hS.1.2.CX hk (fun k hk => .inl hk)⟩,fun h => (Ap (by kernel_rfl) h).elim,fun _ => ⟨ud,um,ul,rfl,ho⟩,fun _ => ⟨trivial,fun _ => ((hS.2.2.2.1 (by kernel_rfl)).2 (by kernel_rfl)).elim fun B' h' => ⟨B',h'.1,h'.2.1,h'.2.2.Jh (HO2.out.below (hS.2.1 (by kernel_rfl))) hk⟩⟩,fun h => (Ap h (by kernel_rfl)).elim⟩,?_⟩
    clear hS ho hb hk
    simp only [sc0,sc1]
    refine AX [10,11,12] ?_
    iterate 3 (refine AR (v:=?_) HT rfl (by kernel_rfl) rfl (kA Ae (kA (AA rfl) (kA (Aj rfl rfl) (kA (Ce rfl rfl rfl) (Aj rfl rfl))))) (by rfl) (fun _ _ _ h => h) (fun lx ax wx hS => ?_) ?_;rotate_left;(go_simp;with_reducible rfl);rotate_left;simp only [sc0,sc1])
    refine AV ?_
    exact Fe (done := [13,12,11,10,9,8,7,6,5,4,3,2,1,0]) (by kernel_rfl) (hrest ud um ul B)
  intro ud um ul B
  refine AJ [14] (by kernel_rfl) (fun i hi wx hS => ?_)
  obtain rfl:=List.mem_singleton.1 hi
  clear hi
  obtain ⟨⟨h1,h2⟩, -,h3,h4, -⟩:=hS
  obtain ⟨ud',um',ul',hu',hown⟩:=h3 (by kernel_rfl)
  have hu' : Value.tuple #[E.ag ud um ul, .bool true] = .tuple #[E.ag ud' um' ul', .bool true]:=hu'
  obtain ⟨rfl,rfl,rfl⟩ : ud = ud' ∧ um = um' ∧ ul = ul':=by simpa using hu'
  obtain ⟨B',hB',hN,hP⟩:=(h4 (by kernel_rfl)).2 (by kernel_rfl)
  have hB' : ptr B = ptr B':=hB'
  obtain rfl : B = B':=by simpa using hB'
  obtain ⟨Bd,dd,Bm,dm,Bl,dl,rfl,rfl,rfl, -, -⟩:=hown.reads
  have y0:=hP.c0
  have y1:=hP.c1
  have y2:=hP.c2
  have y3:=hP.c3
  have y4:=hP.c4
  have f0:=hP.frz 0
  have f1:=hP.frz 1
  have f2:=hP.frz 2
  have f3:=hP.frz 3
  have f4:=hP.frz 4
  refine Bv (w1:=Go.Proofs.YtofgeajaajfiaaaGreat.Ao wx B E (.slice Bd E.disk.length dd) (.slice Bm E.mem.length dm) (.slice Bl E.log.length dl)) rfl (by rfl) (by go_simp) ?_
  have hP5:=hP.Ao E (.slice Bd E.disk.length dd) (.slice Bm E.mem.length dm) (.slice Bl E.log.length dl)
  have ho5:=hown.Ao (f:=E) (xd:=.slice Bd E.disk.length dd) (xm:=.slice Bm E.mem.length dm) (xl:=.slice Bl E.log.length dl) hP
  have hb5:=Ah (g:=B) h1 (by have:=HB.out.size;have:=HZ2.out;omega) E (.slice Bd E.disk.length dd) (.slice Bm E.mem.length dm) (.slice Bl E.log.length dl)
  have hk5:=CY (g:=B) h2 hN E (.slice Bd E.disk.length dd) (.slice Bm E.mem.length dm) (.slice Bl E.log.length dl)
  refine ⟨⟨⟨hb5,hk5⟩,fun h => (Ap (by kernel_rfl) h).elim,fun _ => ⟨_,_,_,rfl,ho5⟩,fun h => (Ap (by kernel_rfl) h).elim,fun _ => ⟨B,_,_,_,rfl,hN,hP5,ho5⟩⟩,?_⟩
  clear h1 h2 h3 h4 hu' hown hB' hN hP y0 y1 y2 y3 y4 f0 f1 f2 f3 f4 hP5 ho5 hb5 hk5
  refine CR (i:=15) (v:=?_) HT rfl (by kernel_rfl) rfl (kA Ae (kA (AA rfl) (kA (Aj rfl rfl) (kA (Ce rfl rfl rfl) (Aj rfl rfl))))) (by rfl) (fun _ _ _ h => h) (fun lx ax wx hS => ?_) ?_;rotate_left;(go_simp;with_reducible rfl);rotate_left;simp only [sc0,sc1]
  refine Ej (by kernel_rfl) (fun w5 hS => ?_)
  obtain ⟨⟨hb5,hk5⟩, -, -, -,h4⟩:=hS
  obtain ⟨B',ud',um',ul',hB',hN,hP5,ho5⟩:=h4 (by kernel_rfl)
  have hB' : ptr B = ptr B':=hB'
  obtain rfl : B = B':=by simpa using hB'
  obtain ⟨Ed,n1,Em,n2,El,n3,rfl,rfl,rfl, -, -⟩:=ho5.reads
  have hp:=HP2.out.Jh HO2.out hk5
  have y0:=hp.c0
  have y1:=hp.c1
  have y2:=hp.c2
  have y3:=hp.c3
  have y4:=hp.c4
  have f0:=hp.frz 0
  have f1:=hp.frz 1
  have f2:=hp.frz 2
  have f3:=hp.frz 3
  have f4:=hp.frz 4
  have x0:=hP5.c0
  have x1:=hP5.c1
  have x2:=hP5.c2
  have x3:=hP5.c3
  have x4:=hP5.c4
  have HX:=As (And.intro hb5 (And.intro hk5 (And.intro ho5 hp)))
  clear h4 hB' hN hP5 ho5 hb5 hk5 hp
  go_wp2
  have hy:=HX.out.2.2.2.Ao E (.slice Ed E.disk.length n1) (.slice Em E.mem.length n2) (.slice El E.log.length n3)
  have h1:=HX.out.2.2.1.Ao (f:=E) (xd:=.slice Ed E.disk.length n1) (xm:=.slice Em E.mem.length n2) (xl:=.slice El E.log.length n3) HX.out.2.2.2
  have h2:=Ah (g:=w.heap.size + 1) HX.out.1 (by have:=HB.out.size;omega) E (.slice Ed E.disk.length n1) (.slice Em E.mem.length n2) (.slice El E.log.length n3)
  have h3:=CY (g:=w.heap.size + 1) ((Kept.of_below HW2.out (fun k => some k = (Value.slice Am e.mem.length cm).ownBlock)).CX HX.out.2.1 (fun k hk => .inl hk)) (by omega) E (.slice Ed E.disk.length n1) (.slice Em E.mem.length n2) (.slice El E.log.length n3)
  have z0:=hy.c0
  have z1:=hy.c1
  have z2:=hy.c2
  have z3:=hy.c3
  have z4:=hy.c4
  exact bodyPost_ret (v:=E.ag (.slice Ed E.disk.length n1) (.slice Em E.mem.length n2) (.slice El E.log.length n3)) (by simp [results,Tryz.results116,go_sem,z0,z1,z2,z3,z4]) rfl ⟨_,_,_,rfl,h1,h2,h3⟩
set_option maxRecDepth 100000 in
set_option maxHeartbeats 16000000 in
theorem QL {w0 w : World} {e : Eng} {C : Nat → Page} {B : Nat} {vd vm vl : Value} (tx page slot val : Int) (hi : Inv e C B) (hB : B + 3 ≤ 150) (hb : Below w0.heap.size w0 w) (hr : AO w w0.heap.size vd vm vl e) : Calls Tryz.prog 72 #[e.ag vd vm vl, .int .i64 tx, .int .i64 page, .int .i64 slot, .int .i64 val] w (Iq w0 w vm (Ko e tx page slot val).1 (Ko e tx page slot val).2):=by
 have hFE : Ko e tx page slot val = if OT e tx page slot val = true then (e.app (Mq e tx page slot val),true) else (e,false):=Inv.R5 (fun hp => hi.Vi hB hp)
 obtain ⟨Ad,cd,Am,cm,Al,cl,rfl,rfl,rfl,hcl,hrd⟩:=hr.reads
 obtain ⟨w1a,hw1a⟩ : ∃ w1a,w.alloc (e.obox (.slice Ad e.disk.length cd) (.slice Am e.mem.length cm) (.slice Al e.log.length cl)) = w1a:=⟨_,rfl⟩
 obtain ⟨w1,hw1⟩ : ∃ w1,w1a.alloc (zE.obox (.slice none 0 0) (.slice none 0 0) (.slice none 0 0)) = w1:=⟨_,rfl⟩
 have hza : w1a.heap.size = w.heap.size + 1:=by rw [← hw1a];exact BJ _ _
 have hz1 : w1.heap.size = w.heap.size + 2:=by rw [← hw1,BJ,hza]
 have hba : Below w1a.heap.size w1a w1:=by rw [← hw1];exact Ab (Below.refl _ _) _
 have hb1 : Below w.heap.size w w1:=by rw [← hw1, ← hw1a];exact Ab (Ab (Below.refl _ _) _) _
 have HQ1 : Aa (Ac w1 w.heap.size e (.slice Ad e.disk.length cd) (.slice Am e.mem.length cm) (.slice Al e.log.length cl)):=⟨Ac.up (by rw [← hw1a];exact Ac.mk1 _ _ _ _ _) hba⟩
 have HP1 : Aa (Ac w1 (w.heap.size + 1) zE (.slice none 0 0) (.slice none 0 0) (.slice none 0 0)):=⟨by rw [← hw1, ← hza];exact Ac.mk1 _ _ _ _ _⟩
 have HW1 : Aa ((w.alloc (Obj.cells #[Value.slice Ad e.disk.length cd,Value.slice Am e.mem.length cm,Value.slice Al e.log.length cl,Value.int IntKind.i64 e.safe,Value.bool e.down] 28)).alloc (Obj.cells #[Value.slice none 0 0,Value.slice none 0 0,Value.slice none 0 0,Value.int IntKind.i64 0,Value.bool false] 28) = w1):=⟨by rw [← hw1, ← hw1a];rfl⟩
 have HZ1:=As hz1
 have HB1:=As hb1
 have HB:=As hb
 have HO1:=As (hr.below hb1)
 have HC1:=As (hrd.up hb1)
 have HI:=As hi
 have HBB:=As hB
 have x0:=HQ1.out.c0
 have x1:=HQ1.out.c1
 have x2:=HQ1.out.c2
 have x3:=HQ1.out.c3
 have x4:=HQ1.out.c4
 clear hw1a hw1 hza hz1 hba hb1 hb hr hrd hB
 obtain ⟨m,hm⟩ : ∃ m,DR e tx page = m:=⟨_,rfl⟩
 have HM:=As hm
 have HFE:=As hFE
 clear hm hi hFE
 cases m
 ·rw [HFE.out,if_neg (by rw [OT,HM.out];simp)]
  go_enter Tryz.func72,Tryz.ntmps72
  go_wp2_with (first
   | (go_at_call 112;rw [show (w.alloc (Obj.cells #[Value.slice Ad e.disk.length cd,Value.slice Am e.mem.length cm,Value.slice Al e.log.length cl,Value.int IntKind.i64 e.safe,Value.bool e.down] 28)).alloc (Obj.cells #[Value.slice none 0 0,Value.slice none 0 0,Value.slice none 0 0,Value.int IntKind.i64 0,Value.bool false] 28) = w1 from HW1.out];refine (BU (cd:=cd) (cm:=cm) (cl:=cl) tx page HM.out HI.out.core (Below.refl w1.heap.size w1) HC1.out).mono ?_;rintro x w2 ⟨rfl,hb2⟩;replace x0:=bc hb2 x0;replace x1:=bc hb2 x1;replace x2:=bc hb2 x2;replace x3:=bc hb2 x3;replace x4:=bc hb2 x4;have HO2:=As (HO1.out.below hb2);have HB2:=As (bj HB1.out hb2);have hp:=HP1.out.up hb2;have HP2:=As hp;have y0:=hp.c0;have y1:=hp.c1;have y2:=hp.c2;have y3:=hp.c3;have y4:=hp.c4;have f0:=hp.frz 0;have f1:=hp.frz 1;have f2:=hp.frz 2;have f3:=hp.frz 3;have f4:=hp.frz 4;clear hp hb2))
  have hz:=HZ1.out
  have hs0:=HB.out.size
  have hy:=HP2.out.Ao e (.slice Ad e.disk.length cd) (.slice Am e.mem.length cm) (.slice Al e.log.length cl)
  have h1:=HO2.out.Ao (f:=e) (xd:=.slice Ad e.disk.length cd) (xm:=.slice Am e.mem.length cm) (xl:=.slice Al e.log.length cl) HP2.out
  have h2:=Ah (g:=w.heap.size + 1) (bj HB.out HB2.out) (by omega) e (.slice Ad e.disk.length cd) (.slice Am e.mem.length cm) (.slice Al e.log.length cl)
  have h3:=CY (g:=w.heap.size + 1) (Kept.of_below HB2.out (fun k => some k = (Value.slice Am e.mem.length cm).ownBlock)) (by omega) e (.slice Ad e.disk.length cd) (.slice Am e.mem.length cm) (.slice Al e.log.length cl)
  have z0:=hy.c0
  have z1:=hy.c1
  have z2:=hy.c2
  have z3:=hy.c3
  have z4:=hy.c4
  exact bodyPost_ret (v:=.tuple #[e.ag (.slice Ad e.disk.length cd) (.slice Am e.mem.length cm) (.slice Al e.log.length cl), .bool false]) (by simp [results,Tryz.results72,go_sem,z0,z1,z2,z3,z4]) rfl ⟨_,_,_,rfl,h1,h2,h3⟩
 have hmp:=(DI.1 HM.out).2.2.1
 obtain ⟨p,rfl⟩ : ∃ p : Nat,page = (p : Int):=⟨page.toNat,by omega⟩
 have hp5 : p < 5:=by omega
 have hp5i : (p : Int) < 5:=by omega
 have hgm:=Ak HI.out.FT
 have hmem5:=hgm.1
 obtain ⟨okd,okm, -, -,hpm⟩:=HO1.out.ex
 obtain ⟨gm,capm,hAm, -, -⟩:=Ci hpm (by omega)
 injection hAm with hA1 _ hA3
 subst hA1 hA3
 have hpl : p < e.mem.length:=by omega
 have hpli : (p : Int) < (e.mem.length : Int):=by omega
 obtain ⟨A2,c2,p0,p1,p2,pC, -⟩:=E5 hpm p hpl
 have hv3 : (pg e.mem p).vals.length = 3:=FZ hgm hp5
 have HMF:=As (DI.1 HM.out).1
 have HGM:=As hgm
 have HPC:=As pC
 have HP5:=As hp5
 obtain ⟨P,hP⟩ : ∃ P,pg e.mem p = P:=⟨_,rfl⟩
 have HPP:=As hP
 rw [hP] at p0 p1 p2 HPC hv3
 have HFB : Aa (OT e tx (p : Int) slot val = true ↔ P.owner ≠ 0 ∧ inB slot 0 2 = true ∧ inB val 0 9 = true):=⟨by rw [OT,HM.out,Int.toNat_natCast,hP];simp⟩
 clear hmp hgm hpm pC hP hmem5
 cases h1 : inB slot 0 2
 ·have H1:=As h1
  rw [HFE.out,if_neg (fun h => by have:=(HFB.out.1 h).2.1;rw [h1] at this;cases this)]
  clear h1 hv3
  go_enter Tryz.func72,Tryz.ntmps72
  go_wp2_with (first
   | (go_at_call 112;rw [show (w.alloc (Obj.cells #[Value.slice Ad e.disk.length cd,Value.slice (some ⟨gm,0,none⟩) e.mem.length cm,Value.slice Al e.log.length cl,Value.int IntKind.i64 e.safe,Value.bool e.down] 28)).alloc (Obj.cells #[Value.slice none 0 0,Value.slice none 0 0,Value.slice none 0 0,Value.int IntKind.i64 0,Value.bool false] 28) = w1 from HW1.out];refine (BU (cd:=cd) (cm:=cm) (cl:=cl) tx (p : Int) HM.out HI.out.core (Below.refl w1.heap.size w1) HC1.out).mono ?_;rintro x w2 ⟨rfl,hb2⟩;replace x0:=bc hb2 x0;replace x1:=bc hb2 x1;replace x2:=bc hb2 x2;replace x3:=bc hb2 x3;replace x4:=bc hb2 x4;replace p1:=bc hb2 p1;have HO2:=As (HO1.out.below hb2);have HB2:=As (bj HB1.out hb2);have hp:=HP1.out.up hb2;have HP2:=As hp;have y0:=hp.c0;have y1:=hp.c1;have y2:=hp.c2;have y3:=hp.c3;have y4:=hp.c4;have f0:=hp.frz 0;have f1:=hp.frz 1;have f2:=hp.frz 2;have f3:=hp.frz 3;have f4:=hp.frz 4;clear hp hb2)
   | (go_at_call 67;refine (BS _ _ _ _).mono ?_;(first | rw [H1.out]);rintro x w' ⟨rfl,rfl⟩))
  have hz:=HZ1.out
  have hs0:=HB.out.size
  have hy:=HP2.out.Ao e (.slice Ad e.disk.length cd) (.slice (some ⟨gm,0,none⟩) e.mem.length cm) (.slice Al e.log.length cl)
  have h1:=HO2.out.Ao (f:=e) (xd:=.slice Ad e.disk.length cd) (xm:=.slice (some ⟨gm,0,none⟩) e.mem.length cm) (xl:=.slice Al e.log.length cl) HP2.out
  have h2:=Ah (g:=w.heap.size + 1) (bj HB.out HB2.out) (by omega) e (.slice Ad e.disk.length cd) (.slice (some ⟨gm,0,none⟩) e.mem.length cm) (.slice Al e.log.length cl)
  have h3:=CY (g:=w.heap.size + 1) (Kept.of_below HB2.out (fun k => some k = (Value.slice (some ⟨gm,0,none⟩) e.mem.length cm).ownBlock)) (by omega) e (.slice Ad e.disk.length cd) (.slice (some ⟨gm,0,none⟩) e.mem.length cm) (.slice Al e.log.length cl)
  have z0:=hy.c0
  have z1:=hy.c1
  have z2:=hy.c2
  have z3:=hy.c3
  have z4:=hy.c4
  exact bodyPost_ret (v:=.tuple #[e.ag (.slice Ad e.disk.length cd) (.slice (some ⟨gm,0,none⟩) e.mem.length cm) (.slice Al e.log.length cl), .bool false]) (by simp [results,Tryz.results72,go_sem,z0,z1,z2,z3,z4]) rfl ⟨_,_,_,rfl,h1,h2,h3⟩
 have H1:=As h1
 cases h2 : inB val 0 9
 ·have H2:=As h2
  rw [HFE.out,if_neg (fun h => by have:=(HFB.out.1 h).2.2;rw [h2] at this;cases this)]
  clear h1 h2 hv3
  go_enter Tryz.func72,Tryz.ntmps72
  go_wp2_with (first
   | (go_at_call 112;rw [show (w.alloc (Obj.cells #[Value.slice Ad e.disk.length cd,Value.slice (some ⟨gm,0,none⟩) e.mem.length cm,Value.slice Al e.log.length cl,Value.int IntKind.i64 e.safe,Value.bool e.down] 28)).alloc (Obj.cells #[Value.slice none 0 0,Value.slice none 0 0,Value.slice none 0 0,Value.int IntKind.i64 0,Value.bool false] 28) = w1 from HW1.out];refine (BU (cd:=cd) (cm:=cm) (cl:=cl) tx (p : Int) HM.out HI.out.core (Below.refl w1.heap.size w1) HC1.out).mono ?_;rintro x w2 ⟨rfl,hb2⟩;replace x0:=bc hb2 x0;replace x1:=bc hb2 x1;replace x2:=bc hb2 x2;replace x3:=bc hb2 x3;replace x4:=bc hb2 x4;replace p1:=bc hb2 p1;have HO2:=As (HO1.out.below hb2);have HB2:=As (bj HB1.out hb2);have hp:=HP1.out.up hb2;have HP2:=As hp;have y0:=hp.c0;have y1:=hp.c1;have y2:=hp.c2;have y3:=hp.c3;have y4:=hp.c4;have f0:=hp.frz 0;have f1:=hp.frz 1;have f2:=hp.frz 2;have f3:=hp.frz 3;have f4:=hp.frz 4;clear hp hb2)
   | (go_at_call 67;refine (BS _ _ _ _).mono ?_;(first | rw [H1.out] | rw [H2.out]);rintro x w' ⟨rfl,rfl⟩))
  have hz:=HZ1.out
  have hs0:=HB.out.size
  have hy:=HP2.out.Ao e (.slice Ad e.disk.length cd) (.slice (some ⟨gm,0,none⟩) e.mem.length cm) (.slice Al e.log.length cl)
  have h1:=HO2.out.Ao (f:=e) (xd:=.slice Ad e.disk.length cd) (xm:=.slice (some ⟨gm,0,none⟩) e.mem.length cm) (xl:=.slice Al e.log.length cl) HP2.out
  have h2:=Ah (g:=w.heap.size + 1) (bj HB.out HB2.out) (by omega) e (.slice Ad e.disk.length cd) (.slice (some ⟨gm,0,none⟩) e.mem.length cm) (.slice Al e.log.length cl)
  have h3:=CY (g:=w.heap.size + 1) (Kept.of_below HB2.out (fun k => some k = (Value.slice (some ⟨gm,0,none⟩) e.mem.length cm).ownBlock)) (by omega) e (.slice Ad e.disk.length cd) (.slice (some ⟨gm,0,none⟩) e.mem.length cm) (.slice Al e.log.length cl)
  have z0:=hy.c0
  have z1:=hy.c1
  have z2:=hy.c2
  have z3:=hy.c3
  have z4:=hy.c4
  exact bodyPost_ret (v:=.tuple #[e.ag (.slice Ad e.disk.length cd) (.slice (some ⟨gm,0,none⟩) e.mem.length cm) (.slice Al e.log.length cl), .bool false]) (by simp [results,Tryz.results72,go_sem,z0,z1,z2,z3,z4]) rfl ⟨_,_,_,rfl,h1,h2,h3⟩
 have H2:=As h2
 rcases BQ P.owner 0 with ⟨e1,b1,c1⟩ | ⟨e1,b1,c1⟩
 ·rw [HFE.out,if_neg (fun h => (HFB.out.1 h).1 e1.out)]
  clear h1 h2 hv3
  go_enter Tryz.func72,Tryz.ntmps72
  go_wp2_with (first
   | (go_at_call 112;rw [show (w.alloc (Obj.cells #[Value.slice Ad e.disk.length cd,Value.slice (some ⟨gm,0,none⟩) e.mem.length cm,Value.slice Al e.log.length cl,Value.int IntKind.i64 e.safe,Value.bool e.down] 28)).alloc (Obj.cells #[Value.slice none 0 0,Value.slice none 0 0,Value.slice none 0 0,Value.int IntKind.i64 0,Value.bool false] 28) = w1 from HW1.out];refine (BU (cd:=cd) (cm:=cm) (cl:=cl) tx (p : Int) HM.out HI.out.core (Below.refl w1.heap.size w1) HC1.out).mono ?_;rintro x w2 ⟨rfl,hb2⟩;replace x0:=bc hb2 x0;replace x1:=bc hb2 x1;replace x2:=bc hb2 x2;replace x3:=bc hb2 x3;replace x4:=bc hb2 x4;replace p1:=bc hb2 p1;have HO2:=As (HO1.out.below hb2);have HB2:=As (bj HB1.out hb2);have hp:=HP1.out.up hb2;have HP2:=As hp;have y0:=hp.c0;have y1:=hp.c1;have y2:=hp.c2;have y3:=hp.c3;have y4:=hp.c4;have f0:=hp.frz 0;have f1:=hp.frz 1;have f2:=hp.frz 2;have f3:=hp.frz 3;have f4:=hp.frz 4;clear hp hb2)
   | (go_at_call 67;refine (BS _ _ _ _).mono ?_;(first | rw [H1.out] | rw [H2.out]);rintro x w' ⟨rfl,rfl⟩))
  have hz:=HZ1.out
  have hs0:=HB.out.size
  have hy:=HP2.out.Ao e (.slice Ad e.disk.length cd) (.slice (some ⟨gm,0,none⟩) e.mem.length cm) (.slice Al e.log.length cl)
  have h1:=HO2.out.Ao (f:=e) (xd:=.slice Ad e.disk.length cd) (xm:=.slice (some ⟨gm,0,none⟩) e.mem.length cm) (xl:=.slice Al e.log.length cl) HP2.out
  have h2:=Ah (g:=w.heap.size + 1) (bj HB.out HB2.out) (by omega) e (.slice Ad e.disk.length cd) (.slice (some ⟨gm,0,none⟩) e.mem.length cm) (.slice Al e.log.length cl)
  have h3:=CY (g:=w.heap.size + 1) (Kept.of_below HB2.out (fun k => some k = (Value.slice (some ⟨gm,0,none⟩) e.mem.length cm).ownBlock)) (by omega) e (.slice Ad e.disk.length cd) (.slice (some ⟨gm,0,none⟩) e.mem.length cm) (.slice Al e.log.length cl)
  have z0:=hy.c0
  have z1:=hy.c1
  have z2:=hy.c2
  have z3:=hy.c3
  have z4:=hy.c4
  exact bodyPost_ret (v:=.tuple #[e.ag (.slice Ad e.disk.length cd) (.slice (some ⟨gm,0,none⟩) e.mem.length cm) (.slice Al e.log.length cl), .bool false]) (by simp [results,Tryz.results72,go_sem,z0,z1,z2,z3,z4]) rfl ⟨_,_,_,rfl,h1,h2,h3⟩
 have hFBT:=HFB.out.2 ⟨e1.out,h1,h2⟩
 rw [DK] at h1
 obtain ⟨s,rfl⟩ : ∃ s : Nat,slot = (s : Int):=⟨slot.toNat,by omega⟩
 have hsl : s < P.vals.length:=by omega
 have hs3i : (s : Int) < 3:=by omega
 obtain ⟨ad,rfl,z0⟩:=Dj HPC.out s hsl
 have hI:=HI.out.Vi HBB.out hFBT
 obtain ⟨E,hE⟩ : ∃ E,e.app (Mq e tx (p : Int) (s : Int) val) = E:=⟨_,rfl⟩
 have hHR : (Mq e tx (p : Int) (s : Int) val).val = .agg #[.int .i64 1, .int .i64 tx, .int .i64 (p : Int), .int .i64 (s : Int), .int .i64 (iv P.vals s), .int .i64 val, .int .i64 0, .int .i64 0]:=by rw [← HPP.out];rfl
 have HCALL : Aa (∀ wx,AO wx w0.heap.size (.slice Ad e.disk.length cd) (.slice (some ⟨gm,0,none⟩) e.mem.length cm) (.slice Al e.log.length cl) e → Below w0.heap.size w0 wx → Calls Tryz.prog 113 #[e.val Ad (some ⟨gm,0,none⟩) Al cd cm cl, .agg #[.int .i64 1, .int .i64 tx, .int .i64 (p : Int), .int .i64 (s : Int), .int .i64 (iv P.vals s), .int .i64 val, .int .i64 0, .int .i64 0]] wx (Iq w0 wx (.slice (some ⟨gm,0,none⟩) e.mem.length cm) E true)):=⟨fun wx ho hb => by
  have h:=EW (Mq e tx (p : Int) (s : Int) val) HGM.out hI.core.log (hI.Uo rfl (H8 _ _)) (fun _ => ⟨by show (0 : Int) ≤ (p : Int);omega,by show (p : Int) < 5;omega,by show (s : Int) < 3;omega⟩) hb ho
  rw [hHR,hE] at h
  exact h⟩
 rw [HFE.out,if_pos hFBT,hE]
 clear hI hE hHR hFBT h1 h2 hv3
 go_enter Tryz.func72,Tryz.ntmps72
 go_wp2_with (first
  | (go_at_call 112;rw [show (w.alloc (Obj.cells #[Value.slice Ad e.disk.length cd,Value.slice (some ⟨gm,0,none⟩) e.mem.length cm,Value.slice Al e.log.length cl,Value.int IntKind.i64 e.safe,Value.bool e.down] 28)).alloc (Obj.cells #[Value.slice none 0 0,Value.slice none 0 0,Value.slice none 0 0,Value.int IntKind.i64 0,Value.bool false] 28) = w1 from HW1.out];refine (BU (cd:=cd) (cm:=cm) (cl:=cl) tx (p : Int) HM.out HI.out.core (Below.refl w1.heap.size w1) HC1.out).mono ?_;rintro x w2 ⟨rfl,hb2⟩;replace x0:=bc hb2 x0;replace x1:=bc hb2 x1;replace x2:=bc hb2 x2;replace x3:=bc hb2 x3;replace x4:=bc hb2 x4;replace p1:=bc hb2 p1;replace p2:=bc hb2 p2;replace z0:=bc hb2 z0;have HO2:=As (HO1.out.below hb2);have HB2:=As (bj HB1.out hb2);have hp:=HP1.out.up hb2;have HP2:=As hp;have y0:=hp.c0;have y1:=hp.c1;have y2:=hp.c2;have y3:=hp.c3;have y4:=hp.c4;have f0:=hp.frz 0;have f1:=hp.frz 1;have f2:=hp.frz 2;have f3:=hp.frz 3;have f4:=hp.frz 4;clear hp hb2)
  | (go_at_call 67;refine (BS _ _ _ _).mono ?_;(first | rw [H1.out] | rw [H2.out]);rintro x w' ⟨rfl,rfl⟩))
 clear y0 y1 y2 y3 y4 f0 f1 f2 f3 f4
 refine AQ (fun lx a wx => (Below w0.heap.size w0 wx ∧ Jo w (.slice (some ⟨gm,0,none⟩) e.mem.length cm) wx) ∧ (Un 15 (fun wx => Below w2.heap.size w2 wx) lx a wx ∧ (Un 18 (fun wx => Jo w2 (.slice (some ⟨gm,0,none⟩) e.mem.length cm) wx) lx a wx ∧ (Sl 15 52 (fun v wx => ∃ ud um ul,v = .tuple #[E.ag ud um ul, .bool true] ∧ AO wx w0.heap.size ud um ul E) lx a wx ∧ Ys 18 (fun wx => ∃ ud um ul,Ac wx (w.heap.size + 1) E ud um ul ∧ AO wx w0.heap.size ud um ul E) lx a wx)))) 20 rfl (by kernel_rfl) (⟨⟨Af (bj HB.out HB2.out),Kept.drew (Kept.of_below HB2.out _)⟩,fun _ => Af (Below.refl _ _),fun _ => Kept.drew (Kept.refl _ _),Bb,Hy⟩) (fun HT => ?_)
 refine AX [0,1,2,3,4,5,6,7,8,9,10,11,12,13,14] ?_
 iterate 15 (refine FL (v:=?_) 15 HT rfl (by kernel_rfl) (by kernel_rfl) rfl (kA Ae (kA (AA rfl) (kA (AA rfl) (kA (Aj rfl rfl) (C9 rfl))))) (by rfl) (fun _ _ _ h => h) (fun lx ax wx hK hS => ?_) ?_;rotate_left;(have hbx:=hS.2.1 hK;clear hS;replace x0:=bc hbx x0;replace x1:=bc hbx x1;replace x2:=bc hbx x2;replace x3:=bc hbx x3;replace x4:=bc hbx x4;replace p2:=bc hbx p2;replace z0:=bc hbx z0;go_simp;with_reducible rfl);rotate_left;simp only [sc0,sc1])
 refine AV ?_
 refine C8 (i:=15) (f:=113) (args:=#[e.val Ad (some ⟨gm,0,none⟩) Al cd cm cl, .agg #[.int .i64 1, .int .i64 tx, .int .i64 (p : Int), .int .i64 (s : Int), .int .i64 (iv P.vals s), .int .i64 val, .int .i64 0, .int .i64 0]]) (fun v => ∃ ud um ul,v = .tuple #[E.ag ud um ul, .bool true]) rfl (by kernel_rfl) rfl Tryz.func113 (by kernel_rfl) rfl rfl (by rfl) (by simp only [List.map_toArray,List.map_cons,List.map_nil];rfl) (fun wx hS => (HCALL.out wx (HO2.out.below (hS.2.1 (by kernel_rfl))) hS.1.1).mono (by rintro x w6 ⟨ud,um,ul,rfl,ho,hb,hk⟩;exact ⟨_,rfl,⟨ud,um,ul,rfl⟩,⟨hb,hS.1.2.CX hk (fun k hk => .inl hk)⟩,fun h => (Ap (by kernel_rfl) h).elim,fun _ => (hS.2.2.1 (by kernel_rfl)).CX hk (fun k hk => .inl hk),fun _ => ⟨ud,um,ul,rfl,ho⟩,fun h => (Ap h (by kernel_rfl)).elim⟩)) (fun vx hg => ?_);simp only [sc0,sc1]
 obtain ⟨ud,um,ul,rfl⟩:=hg
 refine AX [16,17] ?_
 iterate 2 (refine AR (v:=?_) HT rfl (by kernel_rfl) rfl (kA Ae (kA (AA rfl) (kA (AA rfl) (kA (Aj rfl rfl) (C9 rfl))))) (by rfl) (fun _ _ _ h => h) (fun lx ax wx hS => ?_) ?_;rotate_left;(go_simp;with_reducible rfl);rotate_left;simp only [sc0,sc1])
 refine AV ?_
 refine AJ [18] (by kernel_rfl) (fun i hi wx hS => ?_)
 obtain rfl:=List.mem_singleton.1 hi
 clear hi
 obtain ⟨⟨h1,h2⟩, -,h3,h4, -⟩:=hS
 obtain ⟨ud',um',ul',hu',hown⟩:=h4 (by kernel_rfl)
 have hu' : Value.tuple #[E.ag ud um ul, .bool true] = .tuple #[E.ag ud' um' ul', .bool true]:=hu'
 obtain ⟨rfl,rfl,rfl⟩ : ud = ud' ∧ um = um' ∧ ul = ul':=by simpa using hu'
 obtain ⟨Bd,dd,Bm,dm,Bl,dl,rfl,rfl,rfl, -, -⟩:=hown.reads
 have hp:=HP2.out.Jh HO2.out (h3 (by kernel_rfl))
 have y0:=hp.c0
 have y1:=hp.c1
 have y2:=hp.c2
 have y3:=hp.c3
 have y4:=hp.c4
 have f0:=hp.frz 0
 have f1:=hp.frz 1
 have f2:=hp.frz 2
 have f3:=hp.frz 3
 have f4:=hp.frz 4
 refine Bv (w1:=Go.Proofs.YtofgeajaajfiaaaGreat.Ao wx (w.heap.size + 1) E (.slice Bd E.disk.length dd) (.slice Bm E.mem.length dm) (.slice Bl E.log.length dl)) rfl (by rfl) (by go_simp) ?_
 have hs0:=HB.out.size
 refine ⟨⟨⟨Ah (g:=w.heap.size + 1) h1 (by omega) E (.slice Bd E.disk.length dd) (.slice Bm E.mem.length dm) (.slice Bl E.log.length dl),CY (g:=w.heap.size + 1) h2 (by omega) E (.slice Bd E.disk.length dd) (.slice Bm E.mem.length dm) (.slice Bl E.log.length dl)⟩,fun h => (Ap (by kernel_rfl) h).elim,fun h => (Ap (by kernel_rfl) h).elim,fun _ => ⟨_,_,_,rfl,hown.Ao (f:=E) (xd:=.slice Bd E.disk.length dd) (xm:=.slice Bm E.mem.length dm) (xl:=.slice Bl E.log.length dl) hp⟩,fun _ => ⟨_,_,_,hp.Ao E (.slice Bd E.disk.length dd) (.slice Bm E.mem.length dm) (.slice Bl E.log.length dl),hown.Ao (f:=E) (xd:=.slice Bd E.disk.length dd) (xm:=.slice Bm E.mem.length dm) (xl:=.slice Bl E.log.length dl) hp⟩⟩,?_⟩
 clear h1 h2 h3 h4 hu' hown hp y0 y1 y2 y3 y4 f0 f1 f2 f3 f4 hs0
 refine CR (i:=19) (v:=?_) HT rfl (by kernel_rfl) rfl (kA Ae (kA (AA rfl) (kA (AA rfl) (kA (Aj rfl rfl) (C9 rfl))))) (by rfl) (fun _ _ _ h => h) (fun lx ax wx hS => ?_) ?_;rotate_left;(go_simp;with_reducible rfl);rotate_left;simp only [sc0,sc1]
 refine Ej (by kernel_rfl) (fun w8 hS => ?_)
 obtain ⟨⟨h1,h2⟩, -, -, -,h5⟩:=hS
 obtain ⟨ud',um',ul',hq8,ho8⟩:=h5 (by kernel_rfl)
 have HX:=As (And.intro h1 (And.intro h2 ho8))
 have za:=hq8.c0
 have zb:=hq8.c1
 have zc:=hq8.c2
 have zd:=hq8.c3
 have ze:=hq8.c4
 clear h1 h2 h5 ho8 hq8 x0 x1 x2 x3 x4 p2 z0
 go_wp2
 exact bodyPost_ret (v:=.tuple #[E.ag ud' um' ul', .bool true]) (by simp [results,Tryz.results72,go_sem,za,zb,zc,zd,ze]) rfl ⟨ud',um',ul',rfl,HX.out.2.2,HX.out.1,HX.out.2.1⟩
set_option maxRecDepth 100000 in
set_option maxHeartbeats 16000000 in
theorem QN {w0 w : World} {e : Eng} {C : Nat → Page} {B : Nat} {vd vm vl : Value} (tx page table : Int) (hi : Inv e C B) (hB : B + 3 ≤ 150) (hb : Below w0.heap.size w0 w) (hr : AO w w0.heap.size vd vm vl e) : Calls Tryz.prog 73 #[e.ag vd vm vl, .int .i64 tx, .int .i64 page, .int .i64 table] w (Iq w0 w vm (Ku e tx page table).1 (Ku e tx page table).2):=by
 have hFE : Ku e tx page table = if ownB e tx page table = true then (e.app (Le e tx page table),true) else (e,false):=Inv.R5 (fun hp => hi.Vr hB hp)
 obtain ⟨Ad,cd,Am,cm,Al,cl,rfl,rfl,rfl,hcl,hrd⟩:=hr.reads
 obtain ⟨w1a,hw1a⟩ : ∃ w1a,w.alloc (e.obox (.slice Ad e.disk.length cd) (.slice Am e.mem.length cm) (.slice Al e.log.length cl)) = w1a:=⟨_,rfl⟩
 obtain ⟨w1,hw1⟩ : ∃ w1,w1a.alloc (zE.obox (.slice none 0 0) (.slice none 0 0) (.slice none 0 0)) = w1:=⟨_,rfl⟩
 have hza : w1a.heap.size = w.heap.size + 1:=by rw [← hw1a];exact BJ _ _
 have hz1 : w1.heap.size = w.heap.size + 2:=by rw [← hw1,BJ,hza]
 have hba : Below w1a.heap.size w1a w1:=by rw [← hw1];exact Ab (Below.refl _ _) _
 have hb1 : Below w.heap.size w w1:=by rw [← hw1, ← hw1a];exact Ab (Ab (Below.refl _ _) _) _
 have HQ1 : Aa (Ac w1 w.heap.size e (.slice Ad e.disk.length cd) (.slice Am e.mem.length cm) (.slice Al e.log.length cl)):=⟨Ac.up (by rw [← hw1a];exact Ac.mk1 _ _ _ _ _) hba⟩
 have HP1 : Aa (Ac w1 (w.heap.size + 1) zE (.slice none 0 0) (.slice none 0 0) (.slice none 0 0)):=⟨by rw [← hw1, ← hza];exact Ac.mk1 _ _ _ _ _⟩
 have HW1 : Aa ((w.alloc (Obj.cells #[Value.slice Ad e.disk.length cd,Value.slice Am e.mem.length cm,Value.slice Al e.log.length cl,Value.int IntKind.i64 e.safe,Value.bool e.down] 28)).alloc (Obj.cells #[Value.slice none 0 0,Value.slice none 0 0,Value.slice none 0 0,Value.int IntKind.i64 0,Value.bool false] 28) = w1):=⟨by rw [← hw1, ← hw1a];rfl⟩
 have HZ1:=As hz1
 have HB1:=As hb1
 have HB:=As hb
 have HO1:=As (hr.below hb1)
 have HC1:=As (hrd.up hb1)
 have HI:=As hi
 have HBB:=As hB
 have x0:=HQ1.out.c0
 have x1:=HQ1.out.c1
 have x2:=HQ1.out.c2
 have x3:=HQ1.out.c3
 have x4:=HQ1.out.c4
 clear hw1a hw1 hza hz1 hba hb1 hb hr hrd hB
 obtain ⟨m,hm⟩ : ∃ m,DR e tx page = m:=⟨_,rfl⟩
 have HM:=As hm
 have HFE:=As hFE
 clear hm hi hFE
 cases m
 ·rw [HFE.out,if_neg (by rw [ownB,HM.out];simp)]
  go_enter Tryz.func73,Tryz.ntmps73
  go_wp2_with (first
   | (go_at_call 112;rw [show (w.alloc (Obj.cells #[Value.slice Ad e.disk.length cd,Value.slice Am e.mem.length cm,Value.slice Al e.log.length cl,Value.int IntKind.i64 e.safe,Value.bool e.down] 28)).alloc (Obj.cells #[Value.slice none 0 0,Value.slice none 0 0,Value.slice none 0 0,Value.int IntKind.i64 0,Value.bool false] 28) = w1 from HW1.out];refine (BU (cd:=cd) (cm:=cm) (cl:=cl) tx page HM.out HI.out.core (Below.refl w1.heap.size w1) HC1.out).mono ?_;rintro x w2 ⟨rfl,hb2⟩;replace x0:=bc hb2 x0;replace x1:=bc hb2 x1;replace x2:=bc hb2 x2;replace x3:=bc hb2 x3;replace x4:=bc hb2 x4;have HO2:=As (HO1.out.below hb2);have HB2:=As (bj HB1.out hb2);have hp:=HP1.out.up hb2;have HP2:=As hp;have y0:=hp.c0;have y1:=hp.c1;have y2:=hp.c2;have y3:=hp.c3;have y4:=hp.c4;have f0:=hp.frz 0;have f1:=hp.frz 1;have f2:=hp.frz 2;have f3:=hp.frz 3;have f4:=hp.frz 4;clear hp hb2))
  have hz:=HZ1.out
  have hs0:=HB.out.size
  have hy:=HP2.out.Ao e (.slice Ad e.disk.length cd) (.slice Am e.mem.length cm) (.slice Al e.log.length cl)
  have h1:=HO2.out.Ao (f:=e) (xd:=.slice Ad e.disk.length cd) (xm:=.slice Am e.mem.length cm) (xl:=.slice Al e.log.length cl) HP2.out
  have h2:=Ah (g:=w.heap.size + 1) (bj HB.out HB2.out) (by omega) e (.slice Ad e.disk.length cd) (.slice Am e.mem.length cm) (.slice Al e.log.length cl)
  have h3:=CY (g:=w.heap.size + 1) (Kept.of_below HB2.out (fun k => some k = (Value.slice Am e.mem.length cm).ownBlock)) (by omega) e (.slice Ad e.disk.length cd) (.slice Am e.mem.length cm) (.slice Al e.log.length cl)
  have z0:=hy.c0
  have z1:=hy.c1
  have z2:=hy.c2
  have z3:=hy.c3
  have z4:=hy.c4
  exact bodyPost_ret (v:=.tuple #[e.ag (.slice Ad e.disk.length cd) (.slice Am e.mem.length cm) (.slice Al e.log.length cl), .bool false]) (by simp [results,Tryz.results73,go_sem,z0,z1,z2,z3,z4]) rfl ⟨_,_,_,rfl,h1,h2,h3⟩
 have hmp:=(DI.1 HM.out).2.2.1
 obtain ⟨p,rfl⟩ : ∃ p : Nat,page = (p : Int):=⟨page.toNat,by omega⟩
 have hp5 : p < 5:=by omega
 have hp5i : (p : Int) < 5:=by omega
 have hgm:=Ak HI.out.FT
 have hmem5:=hgm.1
 obtain ⟨okd,okm, -, -,hpm⟩:=HO1.out.ex
 obtain ⟨gm,capm,hAm, -, -⟩:=Ci hpm (by omega)
 injection hAm with hA1 _ hA3
 subst hA1 hA3
 have hpl : p < e.mem.length:=by omega
 have hpli : (p : Int) < (e.mem.length : Int):=by omega
 obtain ⟨A2,c2,p0,p1,p2,pC, -⟩:=E5 hpm p hpl
 have hv3 : (pg e.mem p).vals.length = 3:=FZ hgm hp5
 have HMF:=As (DI.1 HM.out).1
 have HGM:=As hgm
 have HPC:=As pC
 have HP5:=As hp5
 obtain ⟨P,hP⟩ : ∃ P,pg e.mem p = P:=⟨_,rfl⟩
 have HPP:=As hP
 rw [hP] at p0 p1 p2 HPC hv3
 have HFB : Aa (ownB e tx (p : Int) table = true ↔ inB table 0 3 = true ∧ ((P.owner == 0) != (table == 0)) = true ∧ F5 P.vals = true):=⟨by rw [ownB,HM.out,Int.toNat_natCast,hP];simp⟩
 clear hmp hgm hpm pC hP hmem5
 cases h1 : inB table 0 3
 ·have H1:=As h1
  rw [HFE.out,if_neg (fun h => by have:=(HFB.out.1 h).1;rw [h1] at this;cases this)]
  clear h1 hv3
  go_enter Tryz.func73,Tryz.ntmps73
  go_wp2_with (first
   | (go_at_call 112;rw [show (w.alloc (Obj.cells #[Value.slice Ad e.disk.length cd,Value.slice (some ⟨gm,0,none⟩) e.mem.length cm,Value.slice Al e.log.length cl,Value.int IntKind.i64 e.safe,Value.bool e.down] 28)).alloc (Obj.cells #[Value.slice none 0 0,Value.slice none 0 0,Value.slice none 0 0,Value.int IntKind.i64 0,Value.bool false] 28) = w1 from HW1.out];refine (BU (cd:=cd) (cm:=cm) (cl:=cl) tx (p : Int) HM.out HI.out.core (Below.refl w1.heap.size w1) HC1.out).mono ?_;rintro x w2 ⟨rfl,hb2⟩;replace x0:=bc hb2 x0;replace x1:=bc hb2 x1;replace x2:=bc hb2 x2;replace x3:=bc hb2 x3;replace x4:=bc hb2 x4;replace p0:=bc hb2 p0;replace p1:=bc hb2 p1;replace p2:=bc hb2 p2;have HO2:=As (HO1.out.below hb2);have HB2:=As (bj HB1.out hb2);have hp:=HP1.out.up hb2;have HP2:=As hp;have y0:=hp.c0;have y1:=hp.c1;have y2:=hp.c2;have y3:=hp.c3;have y4:=hp.c4;have f0:=hp.frz 0;have f1:=hp.frz 1;have f2:=hp.frz 2;have f3:=hp.frz 3;have f4:=hp.frz 4;clear hp hb2)
   | (go_at_call 67;refine (BS _ _ _ _).mono ?_;(first | rw [H1.out]);rintro x w' ⟨rfl,rfl⟩))
  have hz:=HZ1.out
  have hs0:=HB.out.size
  have hy:=HP2.out.Ao e (.slice Ad e.disk.length cd) (.slice (some ⟨gm,0,none⟩) e.mem.length cm) (.slice Al e.log.length cl)
  have h1:=HO2.out.Ao (f:=e) (xd:=.slice Ad e.disk.length cd) (xm:=.slice (some ⟨gm,0,none⟩) e.mem.length cm) (xl:=.slice Al e.log.length cl) HP2.out
  have h2:=Ah (g:=w.heap.size + 1) (bj HB.out HB2.out) (by omega) e (.slice Ad e.disk.length cd) (.slice (some ⟨gm,0,none⟩) e.mem.length cm) (.slice Al e.log.length cl)
  have h3:=CY (g:=w.heap.size + 1) (Kept.of_below HB2.out (fun k => some k = (Value.slice (some ⟨gm,0,none⟩) e.mem.length cm).ownBlock)) (by omega) e (.slice Ad e.disk.length cd) (.slice (some ⟨gm,0,none⟩) e.mem.length cm) (.slice Al e.log.length cl)
  have z0:=hy.c0
  have z1:=hy.c1
  have z2:=hy.c2
  have z3:=hy.c3
  have z4:=hy.c4
  exact bodyPost_ret (v:=.tuple #[e.ag (.slice Ad e.disk.length cd) (.slice (some ⟨gm,0,none⟩) e.mem.length cm) (.slice Al e.log.length cl), .bool false]) (by simp [results,Tryz.results73,go_sem,z0,z1,z2,z3,z4]) rfl ⟨_,_,_,rfl,h1,h2,h3⟩
 have H1:=As h1
 cases hz : F5 P.vals
 ·rw [HFE.out,if_neg (fun h => by have:=(HFB.out.1 h).2.2;rw [hz] at this;cases this)]
  have HZE:=As hz
  clear h1 hz hv3
  rcases BQ P.owner 0 with ⟨e1,b1,c1⟩ | ⟨e1,b1,c1⟩
  all_goals rcases BQ table 0 with ⟨e2,b2,c2_⟩ | ⟨e2,b2,c2_⟩
  all_goals
   go_enter Tryz.func73,Tryz.ntmps73
   go_wp2_with (first
    | (go_at_call 112;rw [show (w.alloc (Obj.cells #[Value.slice Ad e.disk.length cd,Value.slice (some ⟨gm,0,none⟩) e.mem.length cm,Value.slice Al e.log.length cl,Value.int IntKind.i64 e.safe,Value.bool e.down] 28)).alloc (Obj.cells #[Value.slice none 0 0,Value.slice none 0 0,Value.slice none 0 0,Value.int IntKind.i64 0,Value.bool false] 28) = w1 from HW1.out];refine (BU (cd:=cd) (cm:=cm) (cl:=cl) tx (p : Int) HM.out HI.out.core (Below.refl w1.heap.size w1) HC1.out).mono ?_;rintro x w2 ⟨rfl,hb2⟩;replace x0:=bc hb2 x0;replace x1:=bc hb2 x1;replace x2:=bc hb2 x2;replace x3:=bc hb2 x3;replace x4:=bc hb2 x4;replace p0:=bc hb2 p0;replace p1:=bc hb2 p1;replace p2:=bc hb2 p2;have HO2:=As (HO1.out.below hb2);have HBM:=As hb2;have HB2:=As (bj HB1.out hb2);have hp:=HP1.out.up hb2;have HP2:=As hp;have y0:=hp.c0;have y1:=hp.c1;have y2:=hp.c2;have y3:=hp.c3;have y4:=hp.c4;have f0:=hp.frz 0;have f1:=hp.frz 1;have f2:=hp.frz 2;have f3:=hp.frz 3;have f4:=hp.frz 4;clear hp hb2)
    | (go_at_call 67;refine (BS _ _ _ _).mono ?_;(first | rw [H1.out]);rintro x w' ⟨rfl,rfl⟩)
    | (go_at_call 114;refine (Fh HZE.out HBM.out HPC.out).mono ?_;rintro x w3 ⟨rfl,hb3⟩;replace x0:=bc hb3 x0;replace x1:=bc hb3 x1;replace x2:=bc hb3 x2;replace x3:=bc hb3 x3;replace x4:=bc hb3 x4;replace p1:=bc hb3 p1;clear y0 y1 y2 y3 y4 f0 f1 f2 f3 f4;replace HO2:=As (HO2.out.below hb3);replace HB2:=As (bj HB2.out hb3);have hp:=HP2.out.up hb3;replace HP2:=As hp;have y0:=hp.c0;have y1:=hp.c1;have y2:=hp.c2;have y3:=hp.c3;have y4:=hp.c4;have f0:=hp.frz 0;have f1:=hp.frz 1;have f2:=hp.frz 2;have f3:=hp.frz 3;have f4:=hp.frz 4;clear hp hb3))
   have hz:=HZ1.out
   have hs0:=HB.out.size
   have hy:=HP2.out.Ao e (.slice Ad e.disk.length cd) (.slice (some ⟨gm,0,none⟩) e.mem.length cm) (.slice Al e.log.length cl)
   have h1:=HO2.out.Ao (f:=e) (xd:=.slice Ad e.disk.length cd) (xm:=.slice (some ⟨gm,0,none⟩) e.mem.length cm) (xl:=.slice Al e.log.length cl) HP2.out
   have h2:=Ah (g:=w.heap.size + 1) (bj HB.out HB2.out) (by omega) e (.slice Ad e.disk.length cd) (.slice (some ⟨gm,0,none⟩) e.mem.length cm) (.slice Al e.log.length cl)
   have h3:=CY (g:=w.heap.size + 1) (Kept.of_below HB2.out (fun k => some k = (Value.slice (some ⟨gm,0,none⟩) e.mem.length cm).ownBlock)) (by omega) e (.slice Ad e.disk.length cd) (.slice (some ⟨gm,0,none⟩) e.mem.length cm) (.slice Al e.log.length cl)
   have z0:=hy.c0
   have z1:=hy.c1
   have z2:=hy.c2
   have z3:=hy.c3
   have z4:=hy.c4
   exact bodyPost_ret (v:=.tuple #[e.ag (.slice Ad e.disk.length cd) (.slice (some ⟨gm,0,none⟩) e.mem.length cm) (.slice Al e.log.length cl), .bool false]) (by simp [results,Tryz.results73,go_sem,z0,z1,z2,z3,z4]) rfl ⟨_,_,_,rfl,h1,h2,h3⟩
 have HZE:=As hz
 cases hne : ((P.owner == 0) != (table == 0))
 ·rw [HFE.out,if_neg (fun h => by have:=(HFB.out.1 h).2.1;rw [hne] at this;cases this)]
  clear h1 hz hv3
  rcases BQ P.owner 0 with ⟨e1,b1,c1⟩ | ⟨e1,b1,c1⟩
  all_goals rcases BQ table 0 with ⟨e2,b2,c2_⟩ | ⟨e2,b2,c2_⟩
  all_goals first | (exfalso;rw [b1,b2] at hne;cases hne;done) | skip
  all_goals clear hne
  all_goals
   go_enter Tryz.func73,Tryz.ntmps73
   go_wp2_with (first
    | (go_at_call 112;rw [show (w.alloc (Obj.cells #[Value.slice Ad e.disk.length cd,Value.slice (some ⟨gm,0,none⟩) e.mem.length cm,Value.slice Al e.log.length cl,Value.int IntKind.i64 e.safe,Value.bool e.down] 28)).alloc (Obj.cells #[Value.slice none 0 0,Value.slice none 0 0,Value.slice none 0 0,Value.int IntKind.i64 0,Value.bool false] 28) = w1 from HW1.out];refine (BU (cd:=cd) (cm:=cm) (cl:=cl) tx (p : Int) HM.out HI.out.core (Below.refl w1.heap.size w1) HC1.out).mono ?_;rintro x w2 ⟨rfl,hb2⟩;replace x0:=bc hb2 x0;replace x1:=bc hb2 x1;replace x2:=bc hb2 x2;replace x3:=bc hb2 x3;replace x4:=bc hb2 x4;replace p0:=bc hb2 p0;replace p1:=bc hb2 p1;replace p2:=bc hb2 p2;have HO2:=As (HO1.out.below hb2);have HBM:=As hb2;have HB2:=As (bj HB1.out hb2);have hp:=HP1.out.up hb2;have HP2:=As hp;have y0:=hp.c0;have y1:=hp.c1;have y2:=hp.c2;have y3:=hp.c3;have y4:=hp.c4;have f0:=hp.frz 0;have f1:=hp.frz 1;have f2:=hp.frz 2;have f3:=hp.frz 3;have f4:=hp.frz 4;clear hp hb2)
    | (go_at_call 67;refine (BS _ _ _ _).mono ?_;(first | rw [H1.out]);rintro x w' ⟨rfl,rfl⟩))
   have hz:=HZ1.out
   have hs0:=HB.out.size
   have hy:=HP2.out.Ao e (.slice Ad e.disk.length cd) (.slice (some ⟨gm,0,none⟩) e.mem.length cm) (.slice Al e.log.length cl)
   have h1:=HO2.out.Ao (f:=e) (xd:=.slice Ad e.disk.length cd) (xm:=.slice (some ⟨gm,0,none⟩) e.mem.length cm) (xl:=.slice Al e.log.length cl) HP2.out
   have h2:=Ah (g:=w.heap.size + 1) (bj HB.out HB2.out) (by omega) e (.slice Ad e.disk.length cd) (.slice (some ⟨gm,0,none⟩) e.mem.length cm) (.slice Al e.log.length cl)
   have h3:=CY (g:=w.heap.size + 1) (Kept.of_below HB2.out (fun k => some k = (Value.slice (some ⟨gm,0,none⟩) e.mem.length cm).ownBlock)) (by omega) e (.slice Ad e.disk.length cd) (.slice (some ⟨gm,0,none⟩) e.mem.length cm) (.slice Al e.log.length cl)
   have z0:=hy.c0
   have z1:=hy.c1
   have z2:=hy.c2
   have z3:=hy.c3
   have z4:=hy.c4
   exact bodyPost_ret (v:=.tuple #[e.ag (.slice Ad e.disk.length cd) (.slice (some ⟨gm,0,none⟩) e.mem.length cm) (.slice Al e.log.length cl), .bool false]) (by simp [results,Tryz.results73,go_sem,z0,z1,z2,z3,z4]) rfl ⟨_,_,_,rfl,h1,h2,h3⟩
 have hFBT:=HFB.out.2 ⟨h1,hne,hz⟩
 clear h1 hz hv3
 rcases BQ P.owner 0 with ⟨e1,b1,c1⟩ | ⟨e1,b1,c1⟩
 all_goals rcases BQ table 0 with ⟨e2,b2,c2_⟩ | ⟨e2,b2,c2_⟩
 all_goals first | (exfalso;rw [b1,b2] at hne;cases hne;done) | skip
 all_goals clear hne
 all_goals
  have hI:=HI.out.Vr HBB.out hFBT
  obtain ⟨E,hE⟩ : ∃ E,e.app (Le e tx (p : Int) table) = E:=⟨_,rfl⟩
  have hHR : (Le e tx (p : Int) table).val = .agg #[.int .i64 2, .int .i64 tx, .int .i64 (p : Int), .int .i64 (-1), .int .i64 P.owner, .int .i64 table, .int .i64 0, .int .i64 0]:=by rw [← HPP.out];rfl
  have HCALL : Aa (∀ wx,AO wx w0.heap.size (.slice Ad e.disk.length cd) (.slice (some ⟨gm,0,none⟩) e.mem.length cm) (.slice Al e.log.length cl) e → Below w0.heap.size w0 wx → Calls Tryz.prog 113 #[e.val Ad (some ⟨gm,0,none⟩) Al cd cm cl, .agg #[.int .i64 2, .int .i64 tx, .int .i64 (p : Int), .int .i64 (-1), .int .i64 P.owner, .int .i64 table, .int .i64 0, .int .i64 0]] wx (Iq w0 wx (.slice (some ⟨gm,0,none⟩) e.mem.length cm) E true)):=⟨fun wx ho hb => by
   have h:=EW (Le e tx (p : Int) table) HGM.out hI.core.log (hI.Uo rfl (H8 _ _)) (fun _ => ⟨by show (0 : Int) ≤ (p : Int);omega,by show (p : Int) < 5;omega,by show (-1 : Int) < 3;omega⟩) hb ho
   rw [hHR,hE] at h
   exact h⟩
  rw [HFE.out,if_pos hFBT,hE]
  clear hI hE hHR hFBT
  go_enter Tryz.func73,Tryz.ntmps73
  go_wp2_with (first
   | (go_at_call 112;rw [show (w.alloc (Obj.cells #[Value.slice Ad e.disk.length cd,Value.slice (some ⟨gm,0,none⟩) e.mem.length cm,Value.slice Al e.log.length cl,Value.int IntKind.i64 e.safe,Value.bool e.down] 28)).alloc (Obj.cells #[Value.slice none 0 0,Value.slice none 0 0,Value.slice none 0 0,Value.int IntKind.i64 0,Value.bool false] 28) = w1 from HW1.out];refine (BU (cd:=cd) (cm:=cm) (cl:=cl) tx (p : Int) HM.out HI.out.core (Below.refl w1.heap.size w1) HC1.out).mono ?_;rintro x w2 ⟨rfl,hb2⟩;replace x0:=bc hb2 x0;replace x1:=bc hb2 x1;replace x2:=bc hb2 x2;replace x3:=bc hb2 x3;replace x4:=bc hb2 x4;replace p0:=bc hb2 p0;replace p1:=bc hb2 p1;replace p2:=bc hb2 p2;have HO2:=As (HO1.out.below hb2);have HBM:=As hb2;have HB2:=As (bj HB1.out hb2);have hp:=HP1.out.up hb2;have HP2:=As hp;have y0:=hp.c0;have y1:=hp.c1;have y2:=hp.c2;have y3:=hp.c3;have y4:=hp.c4;have f0:=hp.frz 0;have f1:=hp.frz 1;have f2:=hp.frz 2;have f3:=hp.frz 3;have f4:=hp.frz 4;clear hp hb2)
   | (go_at_call 67;refine (BS _ _ _ _).mono ?_;(first | rw [H1.out]);rintro x w' ⟨rfl,rfl⟩)
   | (go_at_call 114;refine (Fh HZE.out HBM.out HPC.out).mono ?_;rintro x w3 ⟨rfl,hb3⟩;replace x0:=bc hb3 x0;replace x1:=bc hb3 x1;replace x2:=bc hb3 x2;replace x3:=bc hb3 x3;replace x4:=bc hb3 x4;replace p1:=bc hb3 p1;clear y0 y1 y2 y3 y4 f0 f1 f2 f3 f4;replace HO2:=As (HO2.out.below hb3);replace HB2:=As (bj HB2.out hb3);have hp:=HP2.out.up hb3;replace HP2:=As hp;have y0:=hp.c0;have y1:=hp.c1;have y2:=hp.c2;have y3:=hp.c3;have y4:=hp.c4;have f0:=hp.frz 0;have f1:=hp.frz 1;have f2:=hp.frz 2;have f3:=hp.frz 3;have f4:=hp.frz 4;clear hp hb3))
  clear y0 y1 y2 y3 y4 f0 f1 f2 f3 f4
  refine AQ (fun lx a wx => (Below w0.heap.size w0 wx ∧ Jo w (.slice (some ⟨gm,0,none⟩) e.mem.length cm) wx) ∧ (Un 11 (fun wx => Below w3.heap.size w3 wx) lx a wx ∧ (Un 14 (fun wx => Jo w3 (.slice (some ⟨gm,0,none⟩) e.mem.length cm) wx) lx a wx ∧ (Sl 11 53 (fun v wx => ∃ ud um ul,v = .tuple #[E.ag ud um ul, .bool true] ∧ AO wx w0.heap.size ud um ul E) lx a wx ∧ Ys 14 (fun wx => ∃ ud um ul,Ac wx (w.heap.size + 1) E ud um ul ∧ AO wx w0.heap.size ud um ul E) lx a wx)))) 16 rfl (by kernel_rfl) (⟨⟨Af (bj HB.out HB2.out),Kept.drew (Kept.of_below HB2.out _)⟩,fun _ => Af (Below.refl _ _),fun _ => Kept.drew (Kept.refl _ _),Bb,Hy⟩) (fun HT => ?_)
  refine AX [0,1,2,3,4,5,6,7,8,9,10] ?_
  iterate 11 (refine FL (v:=?_) 11 HT rfl (by kernel_rfl) (by kernel_rfl) rfl (kA Ae (kA (AA rfl) (kA (AA rfl) (kA (Aj rfl rfl) (C9 rfl))))) (by rfl) (fun _ _ _ h => h) (fun lx ax wx hK hS => ?_) ?_;rotate_left;(have hbx:=hS.2.1 hK;clear hS;replace x0:=bc hbx x0;replace x1:=bc hbx x1;replace x2:=bc hbx x2;replace x3:=bc hbx x3;replace x4:=bc hbx x4;replace p1:=bc hbx p1;go_simp;with_reducible rfl);rotate_left;simp only [sc0,sc1])
  refine AV ?_
  refine C8 (i:=11) (f:=113) (args:=#[e.val Ad (some ⟨gm,0,none⟩) Al cd cm cl, .agg #[.int .i64 2, .int .i64 tx, .int .i64 (p : Int), .int .i64 (-1), .int .i64 P.owner, .int .i64 table, .int .i64 0, .int .i64 0]]) (fun v => ∃ ud um ul,v = .tuple #[E.ag ud um ul, .bool true]) rfl (by kernel_rfl) rfl Tryz.func113 (by kernel_rfl) rfl rfl (by rfl) (by simp only [List.map_toArray,List.map_cons,List.map_nil];rfl) (fun wx hS => (HCALL.out wx (HO2.out.below (hS.2.1 (by kernel_rfl))) hS.1.1).mono (by rintro x w6 ⟨ud,um,ul,rfl,ho,hb,hk⟩;exact ⟨_,rfl,⟨ud,um,ul,rfl⟩,⟨hb,hS.1.2.CX hk (fun k hk => .inl hk)⟩,fun h => (Ap (by kernel_rfl) h).elim,fun _ => (hS.2.2.1 (by kernel_rfl)).CX hk (fun k hk => .inl hk),fun _ => ⟨ud,um,ul,rfl,ho⟩,fun h => (Ap h (by kernel_rfl)).elim⟩)) (fun vx hg => ?_);simp only [sc0,sc1]
  obtain ⟨ud,um,ul,rfl⟩:=hg
  refine AX [12,13] ?_
  iterate 2 (refine AR (v:=?_) HT rfl (by kernel_rfl) rfl (kA Ae (kA (AA rfl) (kA (AA rfl) (kA (Aj rfl rfl) (C9 rfl))))) (by rfl) (fun _ _ _ h => h) (fun lx ax wx hS => ?_) ?_;rotate_left;(go_simp;with_reducible rfl);rotate_left;simp only [sc0,sc1])
  refine AV ?_
  refine AJ [14] (by kernel_rfl) (fun i hi wx hS => ?_)
  obtain rfl:=List.mem_singleton.1 hi
  clear hi
  obtain ⟨⟨h1,h2⟩, -,h3,h4, -⟩:=hS
  obtain ⟨ud',um',ul',hu',hown⟩:=h4 (by kernel_rfl)
  have hu' : Value.tuple #[E.ag ud um ul, .bool true] = .tuple #[E.ag ud' um' ul', .bool true]:=hu'
  obtain ⟨rfl,rfl,rfl⟩ : ud = ud' ∧ um = um' ∧ ul = ul':=by simpa using hu'
  obtain ⟨Bd,dd,Bm,dm,Bl,dl,rfl,rfl,rfl, -, -⟩:=hown.reads
  have hp:=HP2.out.Jh HO2.out (h3 (by kernel_rfl))
  have y0:=hp.c0
  have y1:=hp.c1
  have y2:=hp.c2
  have y3:=hp.c3
  have y4:=hp.c4
  have f0:=hp.frz 0
  have f1:=hp.frz 1
  have f2:=hp.frz 2
  have f3:=hp.frz 3
  have f4:=hp.frz 4
  refine Bv (w1:=Go.Proofs.YtofgeajaajfiaaaGreat.Ao wx (w.heap.size + 1) E (.slice Bd E.disk.length dd) (.slice Bm E.mem.length dm) (.slice Bl E.log.length dl)) rfl (by rfl) (by go_simp) ?_
  have hs0:=HB.out.size
  refine ⟨⟨⟨Ah (g:=w.heap.size + 1) h1 (by omega) E (.slice Bd E.disk.length dd) (.slice Bm E.mem.length dm) (.slice Bl E.log.length dl),CY (g:=w.heap.size + 1) h2 (by omega) E (.slice Bd E.disk.length dd) (.slice Bm E.mem.length dm) (.slice Bl E.log.length dl)⟩,fun h => (Ap (by kernel_rfl) h).elim,fun h => (Ap (by kernel_rfl) h).elim,fun _ => ⟨_,_,_,rfl,hown.Ao (f:=E) (xd:=.slice Bd E.disk.length dd) (xm:=.slice Bm E.mem.length dm) (xl:=.slice Bl E.log.length dl) hp⟩,fun _ => ⟨_,_,_,hp.Ao E (.slice Bd E.disk.length dd) (.slice Bm E.mem.length dm) (.slice Bl E.log.length dl),hown.Ao (f:=E) (xd:=.slice Bd E.disk.length dd) (xm:=.slice Bm E.mem.length dm) (xl:=.slice Bl E.log.length dl) hp⟩⟩,?_⟩
  clear h1 h2 h3 h4 hu' hown hp y0 y1 y2 y3 y4 f0 f1 f2 f3 f4 hs0
  refine CR (i:=15) (v:=?_) HT rfl (by kernel_rfl) rfl (kA Ae (kA (AA rfl) (kA (AA rfl) (kA (Aj rfl rfl) (C9 rfl))))) (by rfl) (fun _ _ _ h => h) (fun lx ax wx hS => ?_) ?_;rotate_left;(go_simp;with_reducible rfl);rotate_left;simp only [sc0,sc1]
  refine Ej (by kernel_rfl) (fun w8 hS => ?_)
  obtain ⟨⟨h1,h2⟩, -, -, -,h5⟩:=hS
  obtain ⟨ud',um',ul',hq8,ho8⟩:=h5 (by kernel_rfl)
  have HX:=As (And.intro h1 (And.intro h2 ho8))
  have za:=hq8.c0
  have zb:=hq8.c1
  have zc:=hq8.c2
  have zd:=hq8.c3
  have ze:=hq8.c4
  clear h1 h2 h5 ho8 hq8 x0 x1 x2 x3 x4 p1
  go_wp2
  exact bodyPost_ret (v:=.tuple #[E.ag ud' um' ul', .bool true]) (by simp [results,Tryz.results73,go_sem,za,zb,zc,zd,ze]) rfl ⟨ud',um',ul',rfl,HX.out.2.2,HX.out.1,HX.out.2.1⟩
theorem WN {e : Eng} {j : Nat} (h1 : 1 ≤ j) (h3 : j ≤ 3) (hp : ∀ i : Nat,1 ≤ i → i < j → lastT e (i : Int) = 0) (hj : lastT e (j : Int) ≠ 0) : Ay e = j:=by
 unfold Ay
 have hj' : j = 1 ∨ j = 2 ∨ j = 3:=by omega
 rcases hj' with rfl | rfl | rfl
 ·rw [if_pos (show lastT e 1 ≠ 0 from hj)];rfl
 ·rw [if_neg (fun h => h (hp 1 (by omega) (by omega))),if_pos (show lastT e 2 ≠ 0 from hj)];rfl
 ·rw [if_neg (fun h => h (hp 1 (by omega) (by omega))),if_neg (fun h => h (hp 2 (by omega) (by omega))),if_pos (show lastT e 3 ≠ 0 from hj)];rfl
theorem WM {e : Eng} (hp : ∀ i : Nat,1 ≤ i → i < 4 → lastT e (i : Int) = 0) : Ay e = 0:=by
 unfold Ay
 rw [if_neg (fun h => h (hp 1 (by omega) (by omega))),if_neg (fun h => h (hp 2 (by omega) (by omega))),if_neg (fun h => h (hp 3 (by omega) (by omega)))]
set_option maxHeartbeats 4000000 in
theorem Pb {w0 w : World} {A : Option Addr} {c : Nat} {e : Eng} (hb : Below w0.heap.size w0 w) (hr : Kd.C Ca w0 A e.log.length e.log) : Calls Tryz.prog 118 #[.slice A e.log.length c] w fun x w' => x = .returned (.int .i64 (Ay e)) ∧ w = w':=by
 have HR:=As (BA hr hb)
 obtain ⟨f,hf⟩ : ∃ f,Ay e = f:=⟨_,rfl⟩
 rw [hf]
 have HF:=As hf
 clear hr hb hf
 go_enter Tryz.func118,Tryz.ntmps118
 go_wp2
 go_loopw [3] (fun t wr => ∃ j : Nat,1 ≤ j ∧ j ≤ 4 ∧ t = .int .i64 (j : Int) ∧ Aa (∀ i : Nat,1 ≤ i → i < j → lastT e (i : Int) = 0) ∧ wr = w) (fun t _ => (4 - intOf t).toNat)
 case atStart => exact ⟨1,by omega,by omega,rfl,⟨fun i h1 h2 => by omega⟩,by first | rfl | trivial⟩
 case round =>
  obtain ⟨j,hj1,hj4,rfl,HP,rfl⟩:=hrel
  by_cases h3 : j ≤ 3
  ·obtain ⟨m,hm⟩ : ∃ m : Nat,Ai e.log (j : Int) e.log.length = m:=⟨_,rfl⟩
   have HM:=As hm
   clear hm
   rcases m with _ | m
   ·go_wp2_with (go_at_call 109;refine (DW (c:=c) HM.out (Below.refl _ _) HR.out).mono ?_;rintro x w' ⟨rfl,rfl⟩)
    go_roundw
    case rel => exact ⟨j + 1,by omega,by omega,by go_num,⟨fun i h1 h2 => by
     by_cases hij : i = j
     ·rw [hij];exact HM.out
     ·exact HP.out i h1 (by omega)⟩,by first | rfl | trivial⟩
    case measure => simp [intOf];omega
   ·have HE:=As (show f = (j : Int) by rw [← HF.out];exact WN hj1 h3 HP.out (by rw [show lastT e (j : Int) = m + 1 from HM.out];exact Nat.succ_ne_zero m))
    have hpos : decide ((0 : Int) < ((m + 1 : Nat) : Int)) = true:=by simp
    go_wp2_with (go_at_call 109;refine (DW (c:=c) HM.out (Below.refl _ _) HR.out).mono ?_;rintro x w' ⟨rfl,rfl⟩)
    go_ret
    exact ⟨EF HE.out.symm,rfl⟩
  ·have HE:=As (show f = 0 by rw [← HF.out];exact WM (fun i h1 h2 => HP.out i h1 (by omega)))
   go_wp2
   go_ret
   exact ⟨EF HE.out.symm,rfl⟩
theorem WL {e : Eng} (h : Ay e ≠ 0) : 0 < Ay e:=by
 have:=(IG h).1
 omega
def XP (w0 w : World) (vd vm vl : Value) (e : Eng) (x : Ending) (w' : World) : Prop:=x = .returned (e.ag vd vm vl) ∧ AO w' w0.heap.size vd vm vl e ∧ Below w0.heap.size w0 w' ∧ Kept w w' (fun k => some k = vd.ownBlock)
set_option maxRecDepth 100000 in
set_option maxHeartbeats 16000000 in
theorem KH {w0 w : World} {vd vm vl : Value} {e : Eng} {p : Nat} (hp : p < 5) (hgd : geo e.disk) (hgm : geo e.mem) (hb : Below w0.heap.size w0 w) (ho : AO w w0.heap.size vd vm vl e) : Calls Tryz.prog 77 #[e.ag vd vm vl, .int .i64 (p : Int)] w (XP w0 w vd vm vl (D7 e p)):=by
 obtain ⟨Ad,cd,Am,cm,Al,cl,rfl,rfl,rfl, -, -⟩:=ho.reads
 obtain ⟨w1a,hw1a⟩ : ∃ w1a,w.alloc (e.obox (.slice Ad e.disk.length cd) (.slice Am e.mem.length cm) (.slice Al e.log.length cl)) = w1a:=⟨_,rfl⟩
 obtain ⟨w1,hw1⟩ : ∃ w1,w1a.alloc (zE.obox (.slice none 0 0) (.slice none 0 0) (.slice none 0 0)) = w1:=⟨_,rfl⟩
 have hza : w1a.heap.size = w.heap.size + 1:=by rw [← hw1a];exact BJ _ _
 have hz1 : w1.heap.size = w.heap.size + 2:=by rw [← hw1,BJ,hza]
 have hba : Below w1a.heap.size w1a w1:=by rw [← hw1];exact Ab (Below.refl _ _) _
 have hb1 : Below w.heap.size w w1:=by rw [← hw1, ← hw1a];exact Ab (Ab (Below.refl _ _) _) _
 have hq : Ac w1 w.heap.size e (.slice Ad e.disk.length cd) (.slice Am e.mem.length cm) (.slice Al e.log.length cl):=Ac.up (by rw [← hw1a];exact Ac.mk1 _ _ _ _ _) hba
 have HP1 : Aa (Ac w1 (w.heap.size + 1) zE (.slice none 0 0) (.slice none 0 0) (.slice none 0 0)):=⟨by rw [← hw1, ← hza];exact Ac.mk1 _ _ _ _ _⟩
 have HW1 : Aa ((w.alloc (Obj.cells #[Value.slice Ad e.disk.length cd,Value.slice Am e.mem.length cm,Value.slice Al e.log.length cl,Value.int IntKind.i64 e.safe,Value.bool e.down] 28)).alloc (Obj.cells #[Value.slice none 0 0,Value.slice none 0 0,Value.slice none 0 0,Value.int IntKind.i64 0,Value.bool false] 28) = w1):=⟨by rw [← hw1, ← hw1a];rfl⟩
 have ho1:=ho.below hb1
 have HB1:=As hb1
 have HB:=As hb
 have HZ1:=As hz1
 have hgm5:=hgm.1
 obtain ⟨okd,okm, -, -,hpm⟩:=ho1.ex
 obtain ⟨gm,capm,hAm, -, -⟩:=Ci hpm (by omega)
 injection hAm with hA1 _ hA3
 subst hA1 hA3
 have hpl : p < e.mem.length:=by omega
 have hpli : (p : Int) < (e.mem.length : Int):=by omega
 obtain ⟨A2,c2,p0,p1,p2,pC, -⟩:=E5 hpm p hpl
 have x1:=hq.c1
 have x3:=hq.c3
 have HQ:=As hq
 have HO:=As ho1
 have HGD:=As hgd
 have HGM:=As hgm
 clear hw1a hw1 hza hz1 hba hb1 hb hpm hq ho ho1 hgd p1 p2 pC hgm5 hgm
 go_enter Tryz.func77,Tryz.ntmps77
 go_wp2
 rw [HW1.out]
 refine AQ (fun lx a wx => Un 10 (fun wx => Below w1.heap.size w1 wx) lx a wx ∧ Ys 10 (fun wx => ∃ wy,Below w1.heap.size w1 wy ∧ wx = wy.setCell ⟨w.heap.size,3,none⟩ (.int .i64 (max e.safe (pg e.mem p).lsn))) lx a wx) 11 rfl (by kernel_rfl) (⟨fun _ => Af (Below.refl _ _),Hy⟩) (fun HT => ?_)
 refine AX [0,1,2,3,4,5,6,7,8,9] ?_
 iterate 10 (refine FL (v:=?_) 10 HT rfl (by kernel_rfl) (by kernel_rfl) rfl (kA (AA rfl) (C9 rfl)) (by rfl) (fun _ _ _ h => h) (fun lx ax wx hK hS => ?_) ?_;rotate_left;(have hbx:=hS.1 hK;clear hS;replace x1:=bc hbx x1;replace x3:=bc hbx x3;replace p0:=bc hbx p0;go_simp;with_reducible rfl);rotate_left;simp only [sc0,sc1])
 refine AV ?_
 refine AJ [10] (by kernel_rfl) (fun i hi wx hS => ?_)
 obtain rfl:=List.mem_singleton.1 hi
 clear hi
 have hbx:=hS.1 (by kernel_rfl)
 have q3:=bc hbx x3
 have f3':=(HQ.out.up hbx).frz 3
 refine Bv (w1:=wx.setCell ⟨w.heap.size,3,none⟩ (.int .i64 (max e.safe (pg e.mem p).lsn))) rfl (by rfl) (by go_simp) ?_
 refine ⟨⟨fun h => (Ap (by kernel_rfl) h).elim,fun _ => ⟨wx,hbx,rfl⟩⟩,?_⟩
 clear hS hbx q3 f3'
 refine Ej (by kernel_rfl) (fun w3 hS => ?_)
 obtain ⟨wy,hbx,rfl⟩:=hS.2 (by kernel_rfl)
 obtain ⟨E,hE⟩ : ∃ E : Eng,{ e with safe:=max e.safe (pg e.mem p).lsn } = E:=⟨_,rfl⟩
 obtain ⟨w3,hw3⟩ : ∃ w3,wy.setCell ⟨w.heap.size,3,none⟩ (.int .i64 (max e.safe (pg e.mem p).lsn)) = w3:=⟨_,rfl⟩
 have hs0:=HB.out.size
 have HQ3 : Aa (Ac w3 w.heap.size E (.slice Ad e.disk.length cd) (.slice (some ⟨gm,0,none⟩) e.mem.length cm) (.slice Al e.log.length cl)):=⟨by rw [← hw3, ← hE];exact (HQ.out.up hbx).CK _⟩
 have HP3 : Aa (Ac w3 (w.heap.size + 1) zE (.slice none 0 0) (.slice none 0 0) (.slice none 0 0)):=⟨by rw [← hw3];exact (HP1.out.up hbx).far (by omega) 3 _⟩
 have ho3 : AO w3 w0.heap.size (.slice Ad e.disk.length cd) (.slice (some ⟨gm,0,none⟩) e.mem.length cm) (.slice Al e.log.length cl) e:=by rw [← hw3];exact (HO.out.below hbx).FQ (HQ.out.up hbx) 3 _
 have HO3 : Aa (AO w3 w0.heap.size (.slice Ad e.disk.length cd) (.slice (some ⟨gm,0,none⟩) e.mem.length cm) (.slice Al e.log.length cl) E):=⟨by rw [← hE];exact ⟨ho3.ex,ho3.l⟩⟩
 have HB3 : Aa (Below w0.heap.size w0 w3):=⟨by rw [← hw3];exact (bj HB.out (bj HB1.out hbx)).setCell (p:=⟨w.heap.size,3,none⟩) hs0 _⟩
 have HK3 : Aa (Kept w w3 (fun k => some k = (Value.slice Ad e.disk.length cd).ownBlock)):=⟨by rw [← hw3];exact (Kept.of_below (bj HB1.out hbx) _).setCell (p:=⟨w.heap.size,3,none⟩) (.inr (Nat.le_refl _)) _⟩
 have HED : Aa (E.disk = e.disk ∧ E.mem = e.mem ∧ E.log = e.log):=⟨by rw [← hE];exact ⟨rfl,rfl,rfl⟩⟩
 have HEL : Aa (D7 e p = { E with disk:=E.disk.set p (pg E.mem p) }):=⟨by rw [← hE];rfl⟩
 rw [hw3]
 clear hS hbx x1 x3 p0 ho3 hw3 hE HQ HO HB1 hpl hpli hs0
 have hgm:=HGM.out
 have hgd:=HGD.out
 rw [← HED.out.2.1] at hgm
 rw [← HED.out.1] at hgd
 obtain ⟨okd,okm,hap,hpd,hpm⟩:=HO3.out.ex
 have hpl : p < E.mem.length:=by rw [hgm.1];exact hp
 have hpli : (p : Int) < (e.mem.length : Int):=by rw [HGM.out.1];omega
 have hpd5 : p < E.disk.length:=by rw [hgd.1];exact hp
 have hpdi : (p : Int) < (e.disk.length : Int):=by rw [HGD.out.1];omega
 obtain ⟨gd,capd,hAd, -,hgdl⟩:=Ci hpd (by omega)
 injection hAd with hA1 hA2 hA3
 subst hA1 hA3
 rw [hA2] at hpd
 obtain ⟨A2,c2,p0,p1,p2,pC, -⟩:=E5 hpm p (by rw [HGM.out.1];exact hp)
 have x0:=HQ3.out.c0
 have x1:=HQ3.out.c1
 have HPM:=As hpm
 have HPD:=As hpd
 have HAP:=As hap
 have HC:=As pC
 have HA2:=As hA2
 have HV3:=As (show (pg E.mem p).vals.length ≤ 17592186044416 by rw [FZ hgm hp];omega)
 obtain ⟨q,hqq⟩ : ∃ q,pg E.mem p = q:=⟨_,rfl⟩
 rw [hqq] at p0 p1 p2 HC HV3
 have HEL2 : Aa (D7 e p = { E with disk:=E.disk.set p q }):=⟨by rw [HEL.out,hqq]⟩
 clear hap hpd hpm pC hgdl hqq HEL hgm hgd hA2
 go_wp2
 refine AQ (fun lx a wx => Below w3.heap.size w3 wx ∧ Sl 8 23 (fun v wx => ∃ u,v = q.own u ∧ AL wx w3.heap.size u q.vals) lx a wx) 10 rfl (by kernel_rfl) (⟨Af (Below.refl _ _),Bb⟩) (fun HT => ?_)
 refine AX [0,1,2,3,4,5,6,7] ?_
 iterate 8 (refine AR (v:=?_) HT rfl (by kernel_rfl) rfl (kA Ae (Aj rfl rfl)) (by rfl) (fun _ _ _ h => h) (fun lx ax wx hS => ?_) ?_;rotate_left;(have hbx:=hS.1;clear hS;replace x0:=bc hbx x0;replace x1:=bc hbx x1;replace p0:=bc hbx p0;replace p1:=bc hbx p1;replace p2:=bc hbx p2;go_simp;with_reducible rfl);rotate_left;simp only [sc0,sc1])
 refine AV ?_
 refine C8 (i:=8) (f:=69) (args:=#[q.val A2 c2]) (fun v => ∃ u,v = q.own u) rfl (by kernel_rfl) rfl Tryz.func69 (by kernel_rfl) rfl rfl (by rfl) (by simp only [List.map_toArray,List.map_cons,List.map_nil];rfl) (fun wx hS => (EU HV3.out hS.1 HC.out).mono (by rintro x w6 ⟨u,rfl,ho,hb⟩;exact ⟨_,rfl,⟨u,rfl⟩,bj hS.1 hb,fun _ => ⟨u,rfl,ho.lower hS.1.size⟩⟩)) (fun vx hg => ?_);simp only [sc0,sc1]
 obtain ⟨u,rfl⟩:=hg
 refine CR (i:=9) (v:=?_) HT rfl (by kernel_rfl) rfl (kA Ae (Aj rfl rfl)) (by rfl) (fun _ _ _ h => h) (fun lx ax wx hS => ?_) ?_;rotate_left;(go_simp;with_reducible rfl);rotate_left;simp only [sc0,sc1]
 refine BZ (i:=10) (by kernel_rfl) rfl (fun wx hS => ?_)
 obtain ⟨h5x,h2⟩:=hS
 obtain ⟨u1,hu1,hown⟩:=h2 (by kernel_rfl)
 have hu1 : q.own u = q.own u1:=hu1
 obtain rfl : u = u1:=by simpa using hu1
 refine EK (ok:=okd) (w0:=w0) (N:=w3.heap.size) (q:=q) p HA2.out.symm (.tmp 24) (.tmp 23) rfl (by rfl) rfl rfl rfl hown HB3.out.size (by rw [HA2.out];exact Kd.Ee HPD.out h5x) (by rw [HA2.out];exact hpd5) (bj HB3.out h5x) (fun w8 hO8 hB8 hg8 => ?_)
 refine BM (by kernel_rfl) ?_
 rw [HA2.out] at hO8
 have hm8 : CB _ _ (fun k => okm k ∧ k < w3.heap.size) (.slice (some ⟨gm,0,none⟩) e.mem.length cm) E.mem:=Kd.Ee HPM.out h5x
 have hty:=Kd.Fw (Kd.BG HPD.out h5x) gd (by simp [Value.ownBlock])
 have he8:=AO.UJ (e:=E) HAP.out hm8 (Kd.Ct HO3.out.l h5x) hown hO8 (Mr HPD.out gd (by simp [Value.ownBlock])) hg8 hty
 have hq8 : Ac w8 w.heap.size E (.slice (some ⟨gd,0,none⟩) e.disk.length cd) (.slice (some ⟨gm,0,none⟩) e.mem.length cm) (.slice Al e.log.length cl):=(hg8.block w.heap.size (by have:=HQ3.out.lt;have:=h5x.size;omega) (fun e2 => by injection e2 with e2;exact G6 HQ3.out HPD.out e2)).trans (HQ3.out.up h5x)
 have hp8 : Ac w8 (w.heap.size + 1) zE (.slice none 0 0) (.slice none 0 0) (.slice none 0 0):=(hg8.block (w.heap.size + 1) (by have:=HP3.out.lt;have:=h5x.size;omega) (fun e2 => by injection e2 with e2;exact G6 HP3.out HPD.out e2)).trans (HP3.out.up h5x)
 have hk8:=Kept.Ib hg8 (HK3.out.below h5x) (fun k hk => .inl (by rw [← hk];rfl))
 have HX8:=As (And.intro hB8 (And.intro he8 hk8))
 have HP8:=As hp8
 have z0:=hq8.c0
 have z1:=hq8.c1
 have z2:=hq8.c2
 have z3:=hq8.c3
 have z4:=hq8.c4
 have y0:=hp8.c0
 have y1:=hp8.c1
 have y2:=hp8.c2
 have y3:=hp8.c3
 have y4:=hp8.c4
 have f0:=hp8.frz 0
 have f1:=hp8.frz 1
 have f2:=hp8.frz 2
 have f3:=hp8.frz 3
 have f4:=hp8.frz 4
 clear h5x h2 hu1 hown hO8 hB8 hg8 hm8 hty he8 hq8 hp8 hk8 x0 x1 p0 p1 p2 hpl hpli hpd5 hpdi
 go_wp2
 have hs0:=HB.out.size
 have hy:=HP8.out.Ao E (.slice (some ⟨gd,0,none⟩) e.disk.length cd) (.slice (some ⟨gm,0,none⟩) e.mem.length cm) (.slice Al e.log.length cl)
 have h1:=HX8.out.2.1.Ao (f:=E) (xd:=.slice (some ⟨gd,0,none⟩) e.disk.length cd) (xm:=.slice (some ⟨gm,0,none⟩) e.mem.length cm) (xl:=.slice Al e.log.length cl) HP8.out
 have h2:=Ah (g:=w.heap.size + 1) HX8.out.1 (by omega) E (.slice (some ⟨gd,0,none⟩) e.disk.length cd) (.slice (some ⟨gm,0,none⟩) e.mem.length cm) (.slice Al e.log.length cl)
 have h3:=CY (g:=w.heap.size + 1) HX8.out.2.2 (by omega) E (.slice (some ⟨gd,0,none⟩) e.disk.length cd) (.slice (some ⟨gm,0,none⟩) e.mem.length cm) (.slice Al e.log.length cl)
 have u0:=hy.c0
 have u1:=hy.c1
 have u2:=hy.c2
 have u3:=hy.c3
 have u4:=hy.c4
 rw [← HA2.out] at h1
 exact bodyPost_ret (v:=E.ag (.slice (some ⟨gd,0,none⟩) e.disk.length cd) (.slice (some ⟨gm,0,none⟩) e.mem.length cm) (.slice Al e.log.length cl)) (by simp [results,Tryz.results77,go_sem,u0,u1,u2,u3,u4]) rfl (by rw [HEL2.out];exact ⟨rfl,h1,h2,h3⟩)
def AZ (w w' : World) : Prop:=w.heap.size ≤ w'.heap.size ∧ ∀ (g : Nat) (cells : Array Value) (t : TypeId),t ≠ 41 → w.heap[g]? = some (.cells cells t (0,0)) → w'.heap[g]? = some (.cells cells t (0,0))
theorem AZ.refl (w : World) : AZ w w:=⟨Nat.le_refl _,fun _ _ _ _ h => h⟩
theorem AZ.of_below {w w' : World} (h : Below w.heap.size w w') : AZ w w':=⟨h.size,fun g _ _ _ hc => (h.block g (Array.getElem?_eq_some_iff.1 hc).1).trans hc⟩
theorem AZ.CX {w w1 w2 : World} (h : AZ w w1) (k : AZ w1 w2) : AZ w w2:=⟨Nat.le_trans h.1 k.1,fun g c t ht hc => k.2 g c t ht (h.2 g c t ht hc)⟩
theorem AZ.setCell {w w1 : World} (h : AZ w w1) {p : Addr} (hp : w.heap.size ≤ p.block) (u : Value) : AZ w (w1.setCell p u):=⟨by have:=h.1;simp;omega,fun g c t ht hc => by
 have hg:=(Array.getElem?_eq_some_iff.1 hc).1
 exact (Below.heap_setCell w1 p u g (by omega)).trans (h.2 g c t ht hc)⟩
theorem AZ.Ao {w w1 : World} {g : Nat} (h : AZ w w1) (hg : w.heap.size ≤ g) (e : Eng) (a b c : Value) : AZ w (Go.Proofs.YtofgeajaajfiaaaGreat.Ao w1 g e a b c):=((((h.setCell (p:=⟨g,0,none⟩) hg _).setCell (p:=⟨g,1,none⟩) hg _).setCell (p:=⟨g,2,none⟩) hg _).setCell (p:=⟨g,3,none⟩) hg _).setCell (p:=⟨g,4,none⟩) hg _
theorem AZ.Qy {w w1 : World} {S : Nat → Prop} (hk : Kept w w1 S) (hS : ∀ k,S k → ∃ cells,w.heap[k]? = some (.cells cells 41 (0,0))) : AZ w w1:=⟨hk.1,fun g c t ht hc => by
 refine (hk.2 g (Array.getElem?_eq_some_iff.1 hc).1 (fun hs => ?_)).trans hc
 obtain ⟨cells,h2⟩:=hS g hs
 rw [hc] at h2
 injection h2 with h2
 injection h2 with _ h3
 exact ht h3⟩
theorem AZ.Kw {w w1 : World} {b : Nat} {vd vm vl : Value} {e : Eng} (ho : AO w b vd vm vl e) (hk : Jo w vm w1) : AZ w w1:=.Qy hk (fun k h => by
 obtain ⟨okd,okm, -, -,hm⟩:=ho.ex
 exact Kd.Fw hm k h.symm)
theorem AZ.RL {w w1 : World} {b : Nat} {vd vm vl : Value} {e : Eng} (ho : AO w b vd vm vl e) (hk : Kept w w1 (fun k => some k = vd.ownBlock)) : AZ w w1:=.Qy hk (fun k h => by
 obtain ⟨okd,okm, -,hd, -⟩:=ho.ex
 exact Kd.Fw hd k h.symm)
theorem Ac.Jg {w w1 : World} {g : Nat} {q : Eng} {ud um ul : Value} (h : Ac w g q ud um ul) (hk : AZ w w1) : Ac w1 g q ud um ul:=hk.2 g _ _ (by decide) h
def SS (w0 w : World) (e : Eng) (x : Ending) (w' : World) : Prop := ∃ vd vm vl,x = .returned (e.ag vd vm vl) ∧ AO w' w0.heap.size vd vm vl e ∧ Below w0.heap.size w0 w' ∧ AZ w w'
def IZ (w0 w : World) (e : Eng) (b : Bool) (x : Ending) (w' : World) : Prop := ∃ vd vm vl,x = .returned (.tuple #[e.ag vd vm vl, .bool b]) ∧ AO w' w0.heap.size vd vm vl e ∧ Below w0.heap.size w0 w' ∧ AZ w w'
def Yk (w0 w : World) (X : Eng) (x : Ending) (w' : World) : Prop := ∃ vd vm vl,x = .returned (.tuple #[(upE X).ag vd vm vl, .bool (decide (Ay X = 0))]) ∧ AO w' w0.heap.size vd vm vl (upE X) ∧ Below w0.heap.size w0 w' ∧ AZ w w'
theorem Iq.t {w0 w : World} {vd vm vl : Value} {e q : Eng} {b : Bool} {x : Ending} {w' : World} (ho : AO w w0.heap.size vd vm vl q) (h : Iq w0 w vm e b x w') : IZ w0 w e b x w':=by
 obtain ⟨ud,um,ul,h1,h2,h3,h4⟩:=h
 exact ⟨ud,um,ul,h1,h2,h3,AZ.Kw ho h4⟩
set_option maxRecDepth 100000 in
set_option maxHeartbeats 8000000 in
theorem QK {w0 w : World} {e : Eng} {vd vm vl : Value} (left : Int) (hgd : geo e.disk) (hs0 : 0 ≤ e.safe) (hs1 : e.safe ≤ e.log.length) (hl : e.log.length ≤ 150) (hb : Below w0.heap.size w0 w) (hr : AO w w0.heap.size vd vm vl e) : Calls Tryz.prog 78 #[e.ag vd vm vl, .int .i64 left] w (SS w0 w (Jk e left)):=by
 obtain ⟨Ad,cd,Am,cm,Al,cl,rfl,rfl,rfl,hcl,hrd⟩:=hr.reads
 obtain ⟨okd,okm, -,hpd, -⟩:=hr.ex
 obtain ⟨w1,hw1⟩ : ∃ w1,w.alloc (e.obox (.slice Ad e.disk.length cd) (.slice Am e.mem.length cm) (.slice Al e.log.length cl)) = w1:=⟨_,rfl⟩
 obtain ⟨w2,hw2⟩ : ∃ w2,w1.alloc (zE.obox (.slice none 0 0) (.slice none 0 0) (.slice none 0 0)) = w2:=⟨_,rfl⟩
 have hz1 : w1.heap.size = w.heap.size + 1:=by rw [← hw1];exact BJ _ _
 have hz2 : w2.heap.size = w.heap.size + 1 + 1:=by rw [← hw2,BJ,hz1]
 have hb12 : Below w1.heap.size w1 w2:=by rw [← hw2];exact Ab (Below.refl _ _) _
 have hb02 : Below w.heap.size w w2:=by rw [← hw2, ← hw1];exact Ab (Ab (Below.refl _ _) _) _
 have HB2:=As hb02
 have HB:=As hb
 have HQ2 : Aa (Ac w2 w.heap.size e (.slice Ad e.disk.length cd) (.slice Am e.mem.length cm) (.slice Al e.log.length cl)):=⟨Ac.up (by rw [← hw1];exact Ac.mk1 _ _ _ _ _) hb12⟩
 have HP2 : Aa (Ac w2 (w.heap.size + 1) zE (.slice none 0 0) (.slice none 0 0) (.slice none 0 0)):=⟨by rw [← hw2, ← hz1];exact Ac.mk1 _ _ _ _ _⟩
 have HW2 : Aa ((w.alloc (e.obox (.slice Ad e.disk.length cd) (.slice Am e.mem.length cm) (.slice Al e.log.length cl))).alloc (zE.obox (.slice none 0 0) (.slice none 0 0) (.slice none 0 0)) = w2):=⟨by rw [hw1,hw2]⟩
 have HZ2:=As hz2
 have HD2:=As (Kd.BG hpd hb02)
 have HL2:=As (BA hrd.l hb02)
 have HGD:=As hgd
 have hle:=P5 (left:=left) hs0 hs1
 obtain ⟨n,hn⟩ : ∃ n : Nat,O1 e left = n:=⟨_,rfl⟩
 rw [hn] at hle
 have hmax : max e.safe (min left (e.log.length : Int)) = (n : Int):=by rw [← hn];unfold O1;omega
 have hncl : n ≤ cl:=by omega
 have hln : (e.log.take n).length = n:=by rw [List.length_take];omega
 have HLn:=As hln
 have HE:=As (show Jk e left = ⟨e.disk,e.disk,e.log.take n,e.safe,true⟩ by rw [Jk,hn])
 have HTK : Aa (Kd.C Ca w2 Al (e.log.take n).length (e.log.take n)):=⟨Qv HL2.out (by omega)⟩
 have HN:=As (show n ≤ 150 by omega)
 have HWB:=As (bj hb hb02)
 have x0:=HQ2.out.c0
 have x2:=HQ2.out.c2
 have x3:=HQ2.out.c3
 clear hw1 hw2 hz1 hz2 hb12 hb02 hb hr hpd hrd hgd hle hn hln hs0 hs1 hl
 go_enter Tryz.func78,Tryz.ntmps78
 go_wp2_with (first
  | ((with_reducible refine Ph (.call { callee:=.builtin .append,args:=#[.tmp 5, .tmp 16],argTypes:=#[26,26] }) rfl ?_);go_loud (rw [show (w.alloc (Obj.cells #[Value.slice Ad e.disk.length cd,Value.slice Am e.mem.length cm,Value.slice Al e.log.length cl,Value.int IntKind.i64 e.safe,Value.bool e.down] 28)).alloc (Obj.cells #[Value.slice none 0 0,Value.slice none 0 0,Value.slice none 0 0,Value.int IntKind.i64 0,Value.bool false] 28) = w2 from HW2.out]);go_loud (refine JS (w0:=w2) (xs := []) (ys:=e.log.take n) (A:=Al) (c:=cl) rfl (.tmp 5) (.tmp 16) rfl rfl (by rw [HLn.out];rfl) (rs_empty HZ2.out.symm (Nat.le_refl _)) (BA HTK.out (Ab (Below.refl _ _) _)) (Ab (Below.refl _ _) _) (by rw [HLn.out];have:=HN.out;simp;omega) ?_);intro v1 w3 hO hb3 _;have hO : OwnRs w3 w2.heap.size v1 (e.log.take n):=hO;obtain ⟨Bl,dl,hv, -, -⟩:=Kd.Ea hO;rw [HLn.out] at hv;subst hv;have HO3:=As hO;have HB3:=As hb3;have hq3:=HQ2.out.up hb3;have hp3:=HP2.out.up hb3;have HQ3:=As hq3;have HP3:=As hp3;have f2:=hq3.frz 2;have x0':=hq3.c0;have x2':=hq3.c2;clear hO hb3 hq3 hp3 x0 x2 x3)
  | (go_at_call 111;obtain ⟨w4,hw4⟩ : ∃ w4,w3.setCell ⟨w.heap.size,2,none⟩ (.slice Bl n dl) = w4:=⟨_,rfl⟩;have hz2:=HZ2.out;have hn3:=HB3.out.size;have hq4 : Ac w4 w.heap.size e (.slice Ad e.disk.length cd) (.slice Am e.mem.length cm) (.slice Bl n dl):=(by rw [← hw4];exact HQ3.out.set2 _);have hp4 : Ac w4 (w.heap.size + 1) zE (.slice none 0 0) (.slice none 0 0) (.slice none 0 0):=(by rw [← hw4];exact HP3.out.far (by omega) _ _);have hd4 : CB w4 w0.heap.size okd (.slice Ad e.disk.length cd) e.disk:=(by rw [← hw4];exact Gt (Kd.BG HD2.out HB3.out) HQ3.out 2 _);have hl4 : OwnRs w4 w2.heap.size (.slice Bl n dl) (e.log.take n):=(by rw [← hw4];exact OL HO3.out HQ3.out 2 _);have hb4 : Below w0.heap.size w0 w4:=(by rw [← hw4];exact (bj HWB.out HB3.out).setCell (p:=⟨w.heap.size,2,none⟩) HB.out.size _);have hbk4 : Below w.heap.size w w4:=(by rw [← hw4];exact (bj HB2.out HB3.out).setCell (p:=⟨w.heap.size,2,none⟩) (Nat.le_refl _) _);rw [hw4];refine (DJ (w0:=w4) (c:=cd) (G5 HGD.out) (by have:=HGD.out.1;omega) (Below.refl _ _) (Kd.SL hd4).2.2).mono ?_;rintro x w5 ⟨v,rfl,ho,hb5⟩;obtain ⟨Bm,dm,rfl, -, -⟩:=Kd.BI ho;have HO5:=As (AO.Ww (s:=e.safe) (d:=true) hd4 ho hb5 hl4 hb4.size (Nat.le_trans (by rw [hz2];have:=HB.out.size;omega) (Nat.le_refl _)));have HB5:=As (bj hb4 hb5);have HBK5:=As (bj hbk4 hb5);have hq5:=hq4.up hb5;have hp5:=hp4.up hb5;have HQ5:=As hq5;have HP5:=As hp5;have x0:=hq5.c0;have x1:=hq5.c1;have x2:=hq5.c2;have x3:=hq5.c3;have x4:=hq5.c4;have g1:=hq5.frz 1;have g4:=hq5.frz 4;have y0:=hp5.c0;have y1:=hp5.c1;have y2:=hp5.c2;have y3:=hp5.c3;have y4:=hp5.c4;have f0:=hp5.frz 0;have f1:=hp5.frz 1;have f2:=hp5.frz 2;have f3:=hp5.frz 3;have f4:=hp5.frz 4;clear hw4 hz2 hn3 hq4 hp4 hd4 hl4 hb4 hbk4 ho hb5 hq5 hp5 x0' x2'))
 have hgw:=HB.out.size
 have q1:=HQ5.out.set1 (.slice Bm e.disk.length dm)
 have r1:=(HO5.out.FQ HQ5.out 1 (.slice Bm e.disk.length dm)).FQ q1 4 (.bool true)
 have p1:=(HP5.out.far (b:=w.heap.size) (by omega) 1 (.slice Bm e.disk.length dm)).far (b:=w.heap.size) (by omega) 4 (.bool true)
 have b1:=(HB5.out.setCell (p:=⟨w.heap.size,1,none⟩) hgw (.slice Bm e.disk.length dm)).setCell (p:=⟨w.heap.size,4,none⟩) hgw (.bool true)
 have b2:=(HBK5.out.setCell (p:=⟨w.heap.size,1,none⟩) (Nat.le_refl _) (.slice Bm e.disk.length dm)).setCell (p:=⟨w.heap.size,4,none⟩) (Nat.le_refl _) (.bool true)
 have h3:=Ah (g:=w.heap.size + 1) b2 (by omega) ⟨e.disk,e.disk,e.log.take n,e.safe,true⟩ (.slice Ad e.disk.length cd) (.slice Bm e.disk.length dm) (.slice Bl n dl)
 have h1:=r1.Ao (f:=⟨e.disk,e.disk,e.log.take n,e.safe,true⟩) (xd:=.slice Ad e.disk.length cd) (xm:=.slice Bm e.disk.length dm) (xl:=.slice Bl n dl) p1
 have h2:=Ah (g:=w.heap.size + 1) b1 (by omega) ⟨e.disk,e.disk,e.log.take n,e.safe,true⟩ (.slice Ad e.disk.length cd) (.slice Bm e.disk.length dm) (.slice Bl n dl)
 have hy:=p1.Ao ⟨e.disk,e.disk,e.log.take n,e.safe,true⟩ (.slice Ad e.disk.length cd) (.slice Bm e.disk.length dm) (.slice Bl n dl)
 have z0:=hy.c0
 have z1:=hy.c1
 have z2:=hy.c2
 have z3:=hy.c3
 have z4:=hy.c4
 simp only at z0 z1 z2 z3 z4
 exact bodyPost_ret (v:=.agg #[.slice Ad e.disk.length cd, .slice Bm e.disk.length dm, .slice Bl n dl, .int .i64 e.safe, .bool true]) (by simp [results,Tryz.results78,go_sem,z0,z1,z2,z3,z4]) rfl ⟨_,_,_,by rw [HE.out],by rw [HE.out];exact h1,h2,AZ.of_below h3⟩
set_option maxRecDepth 100000 in
set_option maxHeartbeats 16000000 in
theorem TI {w0 w : World} {e : Eng} {vd vm vl : Value} (n : Nat) (hgd : geo e.disk) (hlog : AB e.log = true) (hro : FH (Fz e)) (hb : Below w0.heap.size w0 w) (hr : AO w w0.heap.size vd vm vl e) : Calls Tryz.prog 79 #[e.ag vd vm vl, .int .i64 (n : Int)] w (Yk w0 w (Df n (Fz e))):=by
 obtain ⟨Ad,cd,Am,cm,Al,cl,rfl,rfl,rfl,hcl,hrd⟩:=hr.reads
 obtain ⟨w1a,hw1a⟩ : ∃ w1a,w.alloc (e.obox (.slice Ad e.disk.length cd) (.slice Am e.mem.length cm) (.slice Al e.log.length cl)) = w1a:=⟨_,rfl⟩
 obtain ⟨w1,hw1⟩ : ∃ w1,w1a.alloc (zE.obox (.slice none 0 0) (.slice none 0 0) (.slice none 0 0)) = w1:=⟨_,rfl⟩
 have hza : w1a.heap.size = w.heap.size + 1:=by rw [← hw1a];exact BJ _ _
 have hz1 : w1.heap.size = w.heap.size + 2:=by rw [← hw1,BJ,hza]
 have hba : Below w1a.heap.size w1a w1:=by rw [← hw1];exact Ab (Below.refl _ _) _
 have hb1 : Below w.heap.size w w1:=by rw [← hw1, ← hw1a];exact Ab (Ab (Below.refl _ _) _) _
 have HQ1 : Aa (Ac w1 w.heap.size e (.slice Ad e.disk.length cd) (.slice Am e.mem.length cm) (.slice Al e.log.length cl)):=⟨Ac.up (by rw [← hw1a];exact Ac.mk1 _ _ _ _ _) hba⟩
 have HP1 : Aa (Ac w1 (w.heap.size + 1) zE (.slice none 0 0) (.slice none 0 0) (.slice none 0 0)):=⟨by rw [← hw1, ← hza];exact Ac.mk1 _ _ _ _ _⟩
 have HW1 : Aa ((w.alloc (e.obox (.slice Ad e.disk.length cd) (.slice Am e.mem.length cm) (.slice Al e.log.length cl))).alloc (zE.obox (.slice none 0 0) (.slice none 0 0) (.slice none 0 0)) = w1):=⟨by rw [hw1a,hw1]⟩
 have HZ1:=As hz1
 have HB1:=As hb1
 have HB:=As hb
 have HO1:=As (hr.below hb1)
 have HC1:=As (hrd.up hb1)
 obtain ⟨X,hX⟩ : ∃ X,Df n (Fz e) = X:=⟨_,rfl⟩
 obtain ⟨R,hR⟩ : ∃ R,Cr e.disk e.log e.log.length = R:=⟨_,rfl⟩
 have hst : Fz e = { e with mem:=R }:=by rw [Fz,hR]
 rw [hX]
 rw [hst] at hro hX
 have HRR:=As hR
 have HRO:=As hro
 have HRX:=As hX
 have HGD:=As hgd
 have HLOG:=As hlog
 have HLG:=As (Bo hlog)
 have x0:=HQ1.out.c0
 have x2:=HQ1.out.c2
 clear hw1a hw1 hza hz1 hba hb1 hb hr hrd hX hR hst hro hgd hlog
 go_enter Tryz.func79,Tryz.ntmps79
 go_wp2_with (first
  | (go_at_call 117;rw [show (w.alloc (Obj.cells #[Value.slice Ad e.disk.length cd,Value.slice Am e.mem.length cm,Value.slice Al e.log.length cl,Value.int IntKind.i64 e.safe,Value.bool e.down] 28)).alloc (Obj.cells #[Value.slice none 0 0,Value.slice none 0 0,Value.slice none 0 0,Value.int IntKind.i64 0,Value.bool false] 28) = w1 from HW1.out];refine (PL (c:=cd) (d:=cl) HGD.out (fun k hk => (Aq HLOG.out hk).ok) HLG.out (Below.refl w1.heap.size w1) HC1.out.d HC1.out.l).mono ?_;rw [HRR.out];rintro x w2 ⟨v,rfl,ho,hb2⟩;obtain ⟨Bn,dn,rfl, -, -⟩:=Kd.BI ho;have HO2:=As (Jz HO1.out hb2 ho (by have:=HB.out.size;have:=HB1.out.size;omega));have hq2:=HQ1.out.up hb2;have HQ2:=As hq2;have HP2:=As (HP1.out.up hb2);have HX2:=As (bj HB1.out hb2);have HN2:=As hb2.size;have g1:=hq2.frz 1;have x1':=hq2.c1;clear ho hb2 hq2 x0 x2))
 obtain ⟨w3,hw3⟩ : ∃ w3,w2.setCell ⟨w.heap.size,1,none⟩ (.slice Bn R.length dn) = w3:=⟨_,rfl⟩
 have hq3 : Ac w3 w.heap.size { e with mem:=R } (.slice Ad e.disk.length cd) (.slice Bn R.length dn) (.slice Al e.log.length cl):=by rw [← hw3];exact HQ2.out.set1 _
 have hp3 : Ac w3 (w.heap.size + 1) zE (.slice none 0 0) (.slice none 0 0) (.slice none 0 0):=by rw [← hw3];exact HP2.out.far (by omega) _ _
 have ho3 : AO w3 w0.heap.size (.slice Ad e.disk.length cd) (.slice Bn R.length dn) (.slice Al e.log.length cl) { e with mem:=R }:=by rw [← hw3];exact HO2.out.FQ HQ2.out 1 _
 have hb3 : Below w0.heap.size w0 w3:=by rw [← hw3];exact (bj HB.out HX2.out).setCell (p:=⟨w.heap.size,1,none⟩) HB.out.size _
 have hn3 : w.heap.size + 2 ≤ w3.heap.size:=by
  have h1:=HZ1.out
  have h2:=HN2.out
  have h3 : w3.heap.size = w2.heap.size:=by rw [← hw3];simp
  omega
 have hk3 : AZ w w3:=AZ.of_below (by rw [← hw3];exact HX2.out.setCell (p:=⟨w.heap.size,1,none⟩) (Nat.le_refl _) _)
 rw [hw3]
 have HE3 : Aa (∃ vd vm vl,Ac w3 w.heap.size { e with mem:=R } vd vm vl ∧ AO w3 w0.heap.size vd vm vl { e with mem:=R }):=⟨⟨_,_,_,hq3,ho3⟩⟩
 have HP3:=As hp3
 have HB3 : Aa (Below w0.heap.size w0 w3 ∧ w.heap.size + 2 ≤ w3.heap.size ∧ AZ w w3):=⟨⟨hb3,hn3,hk3⟩⟩
 have hroom:=HRO.out.room'
 clear hw3 hq3 hp3 ho3 hb3 hn3 hk3 g1 x1'
 go_loopw [6] (fun i wr => ∃ (k : Nat) (x : Eng),k ≤ n ∧ i = .int .i64 (k : Int) ∧ Aa (∃ vd vm vl,Ac wr w.heap.size x vd vm vl ∧ AO wr w0.heap.size vd vm vl x) ∧ Aa (Ac wr (w.heap.size + 1) zE (.slice none 0 0) (.slice none 0 0) (.slice none 0 0)) ∧ Aa (Below w0.heap.size w0 wr ∧ w.heap.size + 2 ≤ wr.heap.size ∧ AZ w wr) ∧ Aa (FH x ∧ Df (n - k) x = X) ∧ k + Bu x.log x.log.length ≤ 150) (fun i _ => (n - intOf i).toNat)
 case atStart => exact ⟨0,{ e with mem:=R },Nat.zero_le _,rfl,HE3,HP3,HB3,⟨HRO.out,HRX.out⟩,by show 0 + Bu e.log e.log.length ≤ 150;have : e.log.length + Bu e.log e.log.length ≤ 150:=hroom;omega⟩
 case round =>
  obtain ⟨k,x,hk,rfl,HEG,HPr,HBr,HRK,hkn⟩:=hrel
  obtain ⟨vd,vm,vl,hq,ho⟩:=HEG.out
  obtain ⟨Ed,n1,Em,n2,El,n3,rfl,rfl,rfl, -,hc⟩:=ho.reads
  have HQ:=As hq
  have HO:=As ho
  have HC:=As hc
  obtain ⟨t,ht⟩ : ∃ t,Ay x = t:=⟨_,rfl⟩
  have hfirst : ∀ wx,Kd.C Ca wx El x.log.length x.log → Calls Tryz.prog 118 #[.slice El x.log.length n3] wx fun y w' => y = .returned (.int .i64 t) ∧ wx = w':=fun wx hc => ht ▸ Pb (c:=n3) (Below.refl _ _) hc
  have HFI:=As hfirst
  have hx2:=hq.c2
  clear hq ho hc hfirst
  by_cases h0 : t = 0
  ·subst h0
   have hXx : X = x:=by rw [← HRK.out.2,OM ht]
   have HU:=As (show upE X = { x with down:=false } ∧ decide (Ay X = 0) = true from ⟨by rw [hXx,upE,if_pos ht],by rw [hXx];simp [ht]⟩)
   clear hXx ht hkn hroom
   have q0:=HQ.out.c0
   have q1:=HQ.out.c1
   have q3:=HQ.out.c3
   have q4:=HQ.out.c4
   have g4:=HQ.out.frz 4
   have hp:=HPr.out
   have y0:=hp.c0
   have y1:=hp.c1
   have y2:=hp.c2
   have y3:=hp.c3
   have y4:=hp.c4
   have f0:=hp.frz 0
   have f1:=hp.frz 1
   have f2:=hp.frz 2
   have f3:=hp.frz 3
   have f4:=hp.frz 4
   clear hp
   by_cases hlt : k < n
   all_goals
    go_wp2_with (go_at_call 118;refine (HFI.out _ HC.out.l).mono ?_;rintro y w' ⟨rfl,rfl⟩)
    have r1:=HO.out.FQ HQ.out 4 (.bool false)
    have p1:=HPr.out.far (b:=w.heap.size) (by omega) 4 (.bool false)
    have b1:=HBr.out.1.setCell (p:=⟨w.heap.size,4,none⟩) HB.out.size (.bool false)
    have hy:=p1.Ao { x with down:=false } (.slice Ed x.disk.length n1) (.slice Em x.mem.length n2) (.slice El x.log.length n3)
    have h1:=r1.Ao (f:={ x with down:=false }) (xd:=.slice Ed x.disk.length n1) (xm:=(.slice Em x.mem.length n2)) (xl:=.slice El x.log.length n3) p1
    have h2:=Ah (g:=w.heap.size + 1) b1 (by have:=HB.out.size;omega) { x with down:=false } (.slice Ed x.disk.length n1) (.slice Em x.mem.length n2) (.slice El x.log.length n3)
    have k3:=(HBr.out.2.2.setCell (p:=⟨w.heap.size,4,none⟩) (Nat.le_refl _) (.bool false)).Ao (g:=w.heap.size + 1) (Nat.le_succ _) { x with down:=false } (.slice Ed x.disk.length n1) (.slice Em x.mem.length n2) (.slice El x.log.length n3)
    have z0:=hy.c0
    have z1:=hy.c1
    have z2:=hy.c2
    have z3:=hy.c3
    have z4:=hy.c4
    simp only at z0 z1 z2 z3 z4
    exact bodyPost_ret (v:=.tuple #[.agg #[.slice Ed x.disk.length n1, .slice Em x.mem.length n2, .slice El x.log.length n3, .int .i64 x.safe, .bool false], .bool true]) (by simp [results,Tryz.results79,go_sem,z0,z1,z2,z3,z4]) rfl ⟨.slice Ed x.disk.length n1, .slice Em x.mem.length n2, .slice El x.log.length n3,by rw [HU.out.1,HU.out.2],by rw [HU.out.1];exact ⟨h1.ex,h1.l⟩,h2,k3⟩
  ·have hne : Ay x ≠ 0:=by rw [ht];exact h0
   have htp : decide (0 < t) = true:=by
    have:=WL hne
    rw [ht] at this
    exact decide_eq_true this
   by_cases hlt : k < n
   ·obtain ⟨hso,hro',hnd⟩:=HRK.out.1.step hne
    have hrk : Df (n - (k + 1)) (Be x (Ay x)) = X:=by
     have h:=HRK.out.2
     rw [show n - k = (n - (k + 1)) + 1 by omega,Df,if_neg hne] at h
     exact h
    rw [ht] at hso hro' hnd hrk
    obtain ⟨E,hEE⟩ : ∃ E,Be x t = E:=⟨_,rfl⟩
    have hstep : ∀ wx,Below w0.heap.size w0 wx → AO wx w0.heap.size (.slice Ed x.disk.length n1) (.slice Em x.mem.length n2) (.slice El x.log.length n3) x → Calls Tryz.prog 116 #[x.val Ed Em El n1 n2 n3, .int .i64 t] wx (XO w0 wx (.slice Em x.mem.length n2) E):=fun wx hb ho => hEE ▸ Ls hso hb ho
    rw [hEE] at hro' hnd hrk
    have HST:=As hstep
    have HNX:=As (And.intro hro' hrk)
    have HND:=As (show k + 1 + Bu E.log E.log.length ≤ 150 by omega)
    have hk150 : k ≤ 150:=by omega
    have hwr : IntKind.i64.wrap ((k : Int) + 1) = (k : Int) + 1:=by simp (disch:=omega) only [IntWalk.i64_in]
    clear hso hro' hnd hrk hEE hstep ht h0 hne hkn hroom
    go_wp2_with (go_at_call 118;refine (HFI.out _ HC.out.l).mono ?_;rintro y w' ⟨rfl,rfl⟩)
    refine AQ (fun lx a wx => (Below w0.heap.size w0 wx ∧ Jo wr (.slice Em x.mem.length n2) wx) ∧ (Un 4 (fun wx => Below wr.heap.size wr wx) lx a wx ∧ Sl 4 28 (fun v wx => ∃ ud um ul,v = E.ag ud um ul ∧ AO wx w0.heap.size ud um ul E) lx a wx)) 5 rfl (by kernel_rfl) (⟨⟨Af HBr.out.1,Kept.drew (Kept.refl _ _)⟩,fun _ => Af (Below.refl _ _),Bb⟩) (fun HT => ?_)
    refine AX [0,1,2] ?_
    iterate 3 (refine AR (v:=?_) HT rfl (by kernel_rfl) rfl (kA Ae (kA (AA rfl) (Aj rfl rfl))) (by rfl) (fun _ _ _ h => h) (fun lx ax wx hS => ?_) ?_;rotate_left;(have hk':=hS.1.2;clear hS;have hq:=HQ.out.Jh HO.out hk';have x0:=hq.c0;have x1:=hq.c1;have x2:=hq.c2;have x3:=hq.c3;have x4:=hq.c4;clear hq;go_simp;with_reducible rfl);rotate_left;simp only [sc0,sc1])
    refine AV ?_
    refine Kn (i:=3) (f:=118) (v:=.int .i64 t) (args:=#[.slice El x.log.length n3]) HT rfl (by kernel_rfl) rfl Tryz.func118 (by kernel_rfl) rfl rfl (kA Ae (kA (AA rfl) (Aj rfl rfl))) (by rfl) (fun _ _ _ h => h) (by simp only [List.map_toArray,List.map_cons,List.map_nil];rfl) (fun lx ax wx hS => (HFI.out wx (HO.out.YE hS.1.2)).mono fun _ w' h => ⟨h.1,h.2 ▸ hS⟩) ?_;simp only [sc0,sc1]
    refine C8 (i:=4) (f:=116) (args:=#[x.val Ed Em El n1 n2 n3, .int .i64 t]) (fun v => ∃ ud um ul,v = E.ag ud um ul) rfl (by kernel_rfl) rfl Tryz.func116 (by kernel_rfl) rfl rfl (by rfl) (by simp only [List.map_toArray,List.map_cons,List.map_nil];rfl) (fun wx hS => (HST.out wx hS.1.1 (HO.out.below (hS.2.1 (by kernel_rfl)))).mono (by rintro y w6 ⟨ud,um,ul,rfl,ho,hb,hk6⟩;exact ⟨_,rfl,⟨ud,um,ul,rfl⟩,⟨hb,hS.1.2.CX hk6 (fun k hk => .inl hk)⟩,fun h => (Ap (by kernel_rfl) h).elim,fun _ => ⟨ud,um,ul,rfl,ho⟩⟩)) (fun vx hg => ?_);simp only [sc0,sc1]
    obtain ⟨ud,um,ul,rfl⟩:=hg
    refine BZ (i:=5) (by kernel_rfl) rfl (fun wx hS => ?_)
    obtain ⟨⟨h1,h2⟩, -,h3⟩:=hS
    obtain ⟨ud',um',ul',hu',hown⟩:=h3 (by kernel_rfl)
    have hu' : E.ag ud um ul = E.ag ud' um' ul':=hu'
    obtain ⟨rfl,rfl,rfl⟩ : ud = ud' ∧ um = um' ∧ ul = ul':=by simpa using hu'
    obtain ⟨Bd,dd,Bm,dm,Bl,dl,rfl,rfl,rfl, -, -⟩:=hown.reads
    have hq5:=HQ.out.Jh HO.out h2
    have hp5:=HPr.out.Jh HO.out h2
    have x0:=hq5.c0
    have x1:=hq5.c1
    have x2:=hq5.c2
    have x3:=hq5.c3
    have x4:=hq5.c4
    have f0:=hq5.frz 0
    have f1:=hq5.frz 1
    have f2:=hq5.frz 2
    have f3:=hq5.frz 3
    have f4:=hq5.frz 4
    refine Bv (w1:=Go.Proofs.YtofgeajaajfiaaaGreat.Ao wx w.heap.size E (.slice Bd E.disk.length dd) (.slice Bm E.mem.length dm) (.slice Bl E.log.length dl)) rfl (by rfl) (by go_simp) ?_
    have hq6:=hq5.Ao E (.slice Bd E.disk.length dd) (.slice Bm E.mem.length dm) (.slice Bl E.log.length dl)
    have ho6:=hown.Ao (f:=E) (xd:=.slice Bd E.disk.length dd) (xm:=.slice Bm E.mem.length dm) (xl:=.slice Bl E.log.length dl) hq5
    have hp6 : Ac (Go.Proofs.YtofgeajaajfiaaaGreat.Ao wx w.heap.size E (.slice Bd E.disk.length dd) (.slice Bm E.mem.length dm) (.slice Bl E.log.length dl)) (w.heap.size + 1) zE (.slice none 0 0) (.slice none 0 0) (.slice none 0 0):=((((hp5.far (b:=w.heap.size) (by omega) 0 _).far (b:=w.heap.size) (by omega) 1 _).far (b:=w.heap.size) (by omega) 2 _).far (b:=w.heap.size) (by omega) 3 _).far (b:=w.heap.size) (by omega) 4 _
    have hb6:=Ah (g:=w.heap.size) h1 HB.out.size E (.slice Bd E.disk.length dd) (.slice Bm E.mem.length dm) (.slice Bl E.log.length dl)
    obtain ⟨w9,hw9⟩ : ∃ w9,Go.Proofs.YtofgeajaajfiaaaGreat.Ao wx w.heap.size E (.slice Bd E.disk.length dd) (.slice Bm E.mem.length dm) (.slice Bl E.log.length dl) = w9:=⟨_,rfl⟩
    have hs9 : w.heap.size + 2 ≤ w9.heap.size:=by
     have h4:=h2.1
     have h5:=HBr.out.2.1
     rw [← hw9]
     simp
     omega
    have hk9 : AZ w w9:=by rw [← hw9];exact (HBr.out.2.2.CX (AZ.Kw HO.out h2)).Ao (Nat.le_refl _) E _ _ _
    rw [hw9] at hq6 ho6 hp6 hb6 ⊢
    have HE9 : Aa (∃ vd vm vl,Ac w9 w.heap.size E vd vm vl ∧ AO w9 w0.heap.size vd vm vl E):=⟨⟨_,_,_,hq6,ho6⟩⟩
    have HP9:=As hp6
    have HB9 : Aa (Below w0.heap.size w0 w9 ∧ w.heap.size + 2 ≤ w9.heap.size ∧ AZ w w9):=⟨⟨hb6,hs9,hk9⟩⟩
    clear h1 h2 h3 hu' hown hq5 hp5 hq6 ho6 hp6 hb6 hs9 hk9 hw9 x0 x1 x2 x3 x4 f0 f1 f2 f3 f4 hx2
    refine BM (by kernel_rfl) ?_
    go_wp2
    go_roundw
    case rel => exact ⟨k + 1,E,by omega,by go_num,HE9,HP9,HB9,HNX,HND.out⟩
    case measure => simp [intOf];omega
   ·have hkn' : k = n:=by omega
    have hXx : X = x:=by
     have h:=HRK.out.2
     rw [hkn',Nat.sub_self] at h
     exact h.symm
    have HU:=As (show upE X = { x with mem:=x.disk } ∧ decide (Ay X = 0) = false from ⟨by rw [hXx,upE,if_neg hne],by rw [hXx];simp [hne]⟩)
    have HGX:=As (show geo x.disk from by
     have h1:=(Km n { e with mem:=R }).1
     rw [HRX.out,hXx] at h1
     rw [h1]
     exact HGD.out)
    have q0:=HQ.out.c0
    clear hXx hne h0 ht hkn hroom hkn'
    go_wp2_with (first
     | (go_at_call 118;refine (HFI.out _ HC.out.l).mono ?_;rintro y w' ⟨rfl,rfl⟩)
     | (go_at_call 111;refine (DJ (w0:=wr) (c:=n1) (G5 HGX.out) (by have:=HGX.out.1;omega) (Below.refl _ _) HC.out.d).mono ?_;rintro x1 w9 ⟨v1,rfl,ho9,hb9⟩;obtain ⟨Cd,k1,rfl, -, -⟩:=Kd.BI ho9;have HO9:=As (Jz HO.out hb9 ho9 HBr.out.1.size);have hq9:=HQ.out.up hb9;have HQ9:=As hq9;have HB9:=As (bj HBr.out.1 hb9);have HB9K:=As hb9;have HP9:=As (HPr.out.up hb9);have g1:=hq9.frz 1;have q0':=hq9.c0;have q1':=hq9.c1;have q2':=hq9.c2;have q3':=hq9.c3;have q4':=hq9.c4;have hp:=HP9.out;have y0:=hp.c0;have y1:=hp.c1;have y2:=hp.c2;have y3:=hp.c3;have y4:=hp.c4;have f0:=hp.frz 0;have f1:=hp.frz 1;have f2:=hp.frz 2;have f3:=hp.frz 3;have f4:=hp.frz 4;clear hp ho9 hb9 hq9 q0))
    have r1:=HO9.out.FQ HQ9.out 1 (.slice Cd x.disk.length k1)
    have p1:=HP9.out.far (b:=w.heap.size) (by omega) 1 (.slice Cd x.disk.length k1)
    have b1:=HB9.out.setCell (p:=⟨w.heap.size,1,none⟩) HB.out.size (.slice Cd x.disk.length k1)
    have hy:=p1.Ao { x with mem:=x.disk } (.slice Ed x.disk.length n1) (.slice Cd x.disk.length k1) (.slice El x.log.length n3)
    have h1:=r1.Ao (f:={ x with mem:=x.disk }) (xd:=.slice Ed x.disk.length n1) (xm:=(.slice Cd x.disk.length k1)) (xl:=.slice El x.log.length n3) p1
    have h2:=Ah (g:=w.heap.size + 1) b1 (by have:=HB.out.size;omega) { x with mem:=x.disk } (.slice Ed x.disk.length n1) (.slice Cd x.disk.length k1) (.slice El x.log.length n3)
    have k3:=(((HBr.out.2.2.CX (AZ.of_below HB9K.out)).setCell (p:=⟨w.heap.size,1,none⟩) (Nat.le_refl _) (.slice Cd x.disk.length k1))).Ao (g:=w.heap.size + 1) (Nat.le_succ _) { x with mem:=x.disk } (.slice Ed x.disk.length n1) (.slice Cd x.disk.length k1) (.slice El x.log.length n3)
    have z0:=hy.c0
    have z1:=hy.c1
    have z2:=hy.c2
    have z3:=hy.c3
    have z4:=hy.c4
    simp only at z0 z1 z2 z3 z4
    exact bodyPost_ret (v:=.tuple #[.agg #[.slice Ed x.disk.length n1, .slice Cd x.disk.length k1, .slice El x.log.length n3, .int .i64 x.safe, .bool x.down], .bool false]) (by simp [results,Tryz.results79,go_sem,z0,z1,z2,z3,z4]) rfl ⟨.slice Ed x.disk.length n1, .slice Cd x.disk.length k1, .slice El x.log.length n3,by rw [HU.out.1,HU.out.2],by rw [HU.out.1];exact h1,h2,k3⟩
def Qa (l : List Rec) (page : Int) (n : Nat) : Bool:=(BD l n).any fun m => (rc l (m - 1)).kind == 2 && ((rc l (m - 1)).page == page && (rc l (m - 1)).new != 0)
theorem Ti {l : List Rec} {page : Int} {n : Nat} (h : BP l (n + 1) ≤ n) : Qa l page (n + 1) = (((rc l n).kind == 2 && ((rc l n).page == page && (rc l n).new != 0)) || Qa l page (BP l (n + 1))):=by
 simp [Qa,Eh h]
set_option maxRecDepth 100000 in
set_option maxHeartbeats 8000000 in
theorem Lu {w0 w : World} {A : Option Addr} {c : Nat} {l : List Rec} {tx page : Int} {b : Bool} (hv : NQ l tx page = b) (hb : Below w0.heap.size w0 w) (hr : Kd.C Ca w0 A l.length l) (hl : AB l = true) : Calls Tryz.prog 115 #[.slice A l.length c, .int .i64 tx, .int .i64 page] w fun x w' => x = .returned (.bool b) ∧ Below w.heap.size w w':=by
  have HR:=As hr
  have HB:=As hb
  have HL:=As hl
  have HV : Aa (Qa l page (Ai l tx l.length) = b):=⟨hv⟩
  have hm:=(Cg hr).2
  clear hr hb hl hv
  go_enter Tryz.func115,Tryz.ntmps115
  go_wp2_with (go_at_call 109;refine (JF tx HB.out HR.out).mono ?_;rintro e w' ⟨rfl,rfl⟩)
  go_loopw [7] (fun i wr => ∃ k : Nat,k ≤ l.length ∧ i = .int .i64 (k : Int) ∧ Aa (Qa l page k = b) ∧ Aa (Below w.heap.size w wr)) (fun i _ => (intOf i).toNat)
  case atStart => exact ⟨Ai l tx l.length,Bc _ _ _,rfl,HV,⟨Below.refl _ _⟩⟩
  case round =>
    obtain ⟨k,hk,rfl,HK,HW⟩:=hrel
    rcases k with _ | k
    · go_wp2
      go_ret
      exact ⟨Au (by rw [← HK.out,Qa,Cs];rfl),HW.out⟩
    · have F:=Aq HL.out (k:=k) (by omega)
      obtain ⟨ad,rfl,QR⟩:=CS HR.out k (by omega)
      have QW:=QR.up (bj HB.out HW.out)
      have HQW:=As QW
      obtain ⟨z0,z1,z2,z3,z4,z5,z6,z7⟩:=QW
      have HP:=As (Ti (page:=page) F.prev_le)
      have hle:=F.prev_le
      have hnw : (rc l k).kind = 2 → 0 ≤ (rc l k).new:=fun h2 => by
        have h3:=F.ok
        rw [Dc] at h3
        omega
      have HF6:=As F.prev
      have HNW:=As hnw
      clear F QR hnw
      rcases BQ (rc l k).kind 2 with ⟨e1,b1,c1⟩ | ⟨e1,b1,c1⟩
      all_goals rcases BQ (rc l k).page page with ⟨e2,b2,c2⟩ | ⟨e2,b2,c2⟩
      all_goals rcases lts 0 (rc l k).new with ⟨e3,b3,c3⟩ | ⟨e3,b3,c3⟩
      all_goals
        go_wp2_with (with_reducible refine CJ (rc l k) ?_;intro w2 hb2 hz2 hq2;clear hz2;have HW2:=As (bj HW.out hb2);obtain ⟨q0,q1,q2,q3,q4,q5,q6,q7⟩:=hq2;simp only [Nat.zero_add] at q1 q2 q3 q4 q5 q6 q7;have z6:=(HQW.out.up hb2).c6;rw [HF6.out] at z6;clear hb2)
        first
          | (go_ret;exact ⟨Au (by rw [← HK.out,HP.out,b1,b2,show ((rc l k).new != 0) = true by have:=e3.out;simp;omega];rfl),HW2.out⟩)
          | (go_roundw
             case rel => exact ⟨BP l (k + 1),by omega,rfl,⟨by
               rw [← HK.out,HP.out]
               have h3:=e3.out
               first
                 | rw [b1,Bool.false_and,Bool.false_or]
                 | rw [b1,b2,Bool.false_and,Bool.and_false,Bool.false_or]
                 | rw [b1,b2,show ((rc l k).new != 0) = false by have:=HNW.out e1.out;simp;omega];rfl⟩,HW2⟩
             case measure => simp [intOf];omega)
end Go.Proofs.YtofgeajaajfiaaaGreat
