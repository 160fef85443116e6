/- A part of the proof: what the last text of the claim says leans on this one. -/
import Derived.Test.YtjeodgfkilhkhaaGreatZP1
import Derived.Test.YtjeodgfkilhkhaaGreatZV1
import Derived.Test.YtjeodgfkilhkhaaGreatZA1
import Derived.Test.YtjeodgfkilhkhaaGreatZV2
set_option linter.unusedVariables false
set_option linter.unusedSimpArgs false
namespace Go.Proofs.YtjeodgfkilhkhaaGreat
open Go.RowKit Go.Proofs.YtjeodgfkilhkhaaGreatW.PrintWords Go.Proofs.YtjeodgfkilhkhaaGreatW.PrintLast Go.Proofs.YtjeodgfkilhkhaaGreatW.PrintMore
set_option maxRecDepth 100000 in
set_option maxHeartbeats 4000000 in
theorem F8 {w0 w : World} {A : Option Addr} {c : Nat} {p : Page} {b : Bool} (hv : Ik p.vals = b) (hb : Below w0.heap.size w0 w) (hr : Kd.C (Kd.int .i64) w0 A p.vals.length p.vals) : Calls Tryz.prog 153 #[p.val A c] w fun x w' => x = .returned (.bool b) ∧ Below w.heap.size w w':=by
 have HR:=As (BF hr hb)
 have HV:=As hv
 have hmx:=(CY hr).2
 clear hr hb hv
 obtain ⟨w1,hw1⟩ : ∃ w1,w.alloc (Obj.cells #[Value.int IntKind.i64 p.lsn,Value.int IntKind.i64 p.owner,Value.slice A p.vals.length c] 47) = w1:=⟨_,rfl⟩
 have HB : A7 (Below w.heap.size w w1):=⟨by rw [← hw1];exact Aa (Below.refl _ _) _⟩
 have hq1 : AU w1 w.heap.size p (.slice A p.vals.length c):=by rw [← hw1];exact AU.mk1 _ _ _
 have x2:=hq1.c2
 have HW1:=As hw1
 clear hw1 hq1
 go_enter Tryz.func153,Tryz.ntmps153
 go_wp2
 rw [HW1.out]
 go_loop [3] (fun i => ∃ k : Nat,k ≤ p.vals.length ∧ i = .int .i64 (k : Int) ∧ A7 (∀ j,j < k → iv p.vals j = 0)) (fun i => (p.vals.length - intOf i).toNat)
 case atStart => exact ⟨0,Nat.zero_le _,rfl,⟨fun j hj => by omega⟩⟩
 case round =>
  obtain ⟨k,hk,rfl,HK⟩:=hrel
  by_cases hlt : k < p.vals.length
  ·obtain ⟨ad,rfl,g0⟩:=DW HR.out k hlt
   replace g0:=bc HB.out g0
   rcases BS (iv p.vals k) 0 with ⟨e1,b1,c1⟩ | ⟨e1,b1,c1⟩
   ·go_wp2
    go_round
    case rel => exact ⟨k + 1,by omega,by go_num,⟨fun j hj => by
     rcases Nat.lt_succ_iff_lt_or_eq.1 hj with h | h
     ·exact HK.out j h
     ·rw [h];exact e1.out⟩⟩
    case measure => simp [intOf];omega
   ·go_wp2
    go_ret
    exact ⟨Af (by
     rw [← HV.out]
     cases hz : Ik p.vals
     ·rfl
     ·exact absurd (K3.1 hz _ (by rw [iv,List.getD_eq_getElem?_getD,List.getElem?_eq_getElem hlt];exact List.getElem_mem hlt)) e1.out),HB.out⟩
  ·have hke : k = p.vals.length:=by omega
   go_wp2
   go_ret
   exact ⟨Af (by
    rw [← HV.out]
    refine (K3.2 (fun x hx => ?_)).symm
    obtain ⟨j,hj,rfl⟩:=List.getElem_of_mem hx
    have:=HK.out j (by omega)
    rwa [iv,List.getD_eq_getElem?_getD,List.getElem?_eq_getElem hj] at this),HB.out⟩
def Gv (l : List Rec) (p : Int) : Int:=if has l 1 l.length p = true then 1 else if has l 2 l.length p = true then 2 else if has l 3 l.length p = true then 3 else 0
theorem Qt {l : List Rec} {p : Int} {j : Nat} (h1 : 1 ≤ j) (h3 : j ≤ 3) (hp : ∀ t : Nat,1 ≤ t → t < j → has l (t : Int) l.length p = false) (hj : has l (j : Int) l.length p = true) : Gv l p = j:=by
 have h : j = 1 ∨ j = 2 ∨ j = 3:=by omega
 rcases h with rfl | rfl | rfl
 ·rw [Gv,if_pos (by exact hj)];rfl
 ·rw [Gv,if_neg (by rw [show has l 1 l.length p = false from hp 1 (by omega) (by omega)];simp),if_pos (by exact hj)];rfl
 ·rw [Gv,if_neg (by rw [show has l 1 l.length p = false from hp 1 (by omega) (by omega)];simp),if_neg (by rw [show has l 2 l.length p = false from hp 2 (by omega) (by omega)];simp),if_pos (by exact hj)];rfl
theorem Qs {l : List Rec} {p : Int} (hp : ∀ t : Nat,1 ≤ t → t < 4 → has l (t : Int) l.length p = false) : Gv l p = 0:=by
 rw [Gv,if_neg (by rw [show has l 1 l.length p = false from hp 1 (by omega) (by omega)];simp),if_neg (by rw [show has l 2 l.length p = false from hp 2 (by omega) (by omega)];simp),if_neg (by rw [show has l 3 l.length p = false from hp 3 (by omega) (by omega)];simp)]
theorem Core.Gv {e : Eng} {C : Nat → Page} {B : Nat} (h : Core e C B) (p : Int) : Go.Proofs.YtjeodgfkilhkhaaGreat.Gv e.log p = lk e.log p:=by
 have hone:=h.one_holds p
 obtain ⟨-,hl | hl⟩:=Pb hone
 ·rw [hl.1]
  exact Qs (fun t h1 h4 => hl.2 t (by omega))
 ·obtain ⟨j,hj⟩ : ∃ j : Nat,lk e.log p = (j : Int):=⟨(lk e.log p).toNat,by omega⟩
  rw [hj] at hl ⊢
  exact Qt (by omega) (by omega) (fun t h1 h2 => hone (j : Int) (t : Int) (by omega) hl.2) hl.2
set_option maxRecDepth 100000 in
set_option maxHeartbeats 4000000 in
theorem F9 {w0 w : World} {e : Eng} {Ad Am Al : Option Addr} {cd cm cl : Nat} (page : Int) (hlog : Au e.log = true) (hb : Below w0.heap.size w0 w) (hr : Ff w0 e Ad Am Al) : Calls Tryz.prog 135 #[e.val Ad Am Al cd cm cl, .int .i64 page] w fun x w' => x = .returned (.int .i64 (Gv e.log page)) ∧ Below w.heap.size w w':=by
 have HR:=As (hr.up hb)
 have HL:=As hlog
 clear hr hb hlog
 obtain ⟨w1,hw1⟩ : ∃ w1,w.alloc (Obj.cells #[Value.slice Ad e.disk.length cd,Value.slice Am e.mem.length cm,Value.slice Al e.log.length cl,Value.int IntKind.i64 e.safe,Value.bool e.down] 26) = w1:=⟨_,rfl⟩
 have HB : A7 (Below w.heap.size w w1):=⟨by rw [← hw1];exact Aa (Below.refl _ _) _⟩
 have hq1 : Ab w1 w.heap.size e (.slice Ad e.disk.length cd) (.slice Am e.mem.length cm) (.slice Al e.log.length cl):=by rw [← hw1];exact Ab.mk1 _ _ _ _ _
 have x2:=hq1.c2
 have HW1:=As hw1
 clear hw1 hq1
 go_enter Tryz.func135,Tryz.ntmps135
 go_wp2
 rw [HW1.out]
 go_loop [5] (fun i => ∃ j : Nat,1 ≤ j ∧ j ≤ 4 ∧ i = .int .i64 (j : Int) ∧ A7 (∀ t : Nat,1 ≤ t → t < j → has e.log (t : Int) e.log.length page = false)) (fun i => (5 - intOf i).toNat)
 case atStart => exact ⟨1,by omega,by omega,rfl,⟨fun t h1 h2 => by omega⟩⟩
 case round =>
  obtain ⟨j,hj1,hj4,rfl,HJ⟩:=hrel
  by_cases hlt : j ≤ 3
  ·have hlt3 : (j : Int) ≤ 3:=by omega
   cases hh : has e.log (j : Int) e.log.length page
   all_goals
    have HH:=As hh
    clear hh
    go_wp2_with (go_at_call 60;refine (EI (c:=cl) HH.out HB.out HR.out.l HL.out).mono ?_;rintro x w' ⟨rfl,rfl⟩)
   ·go_round
    case rel => exact ⟨j + 1,by omega,by omega,by go_num,⟨fun t h1 h2 => by
     rcases Nat.lt_succ_iff_lt_or_eq.1 h2 with h | h
     ·exact HJ.out t h1 h
     ·rw [h];exact HH.out⟩⟩
    case measure => simp [intOf];omega
   ·go_ret
    exact ⟨by rw [Qt hj1 hlt HJ.out HH.out];rfl,HB.out⟩
  ·have hj : j = 4:=by omega
   subst hj
   go_wp2
   go_ret
   exact ⟨by rw [Qs HJ.out];rfl,HB.out⟩
theorem Pn {w0 w : World} {e : Eng} {b : Bool} {Ad Am Al : Option Addr} {cd cm cl : Nat} (page : Int) (hd : e.down = b) (hlog : Au e.log = true) (hb : Below w0.heap.size w0 w) (hr : Ff w0 e Ad Am Al) : Calls Tryz.prog 135 #[.agg #[.slice Ad e.disk.length cd, .slice Am e.mem.length cm, .slice Al e.log.length cl, .int .i64 e.safe, .bool b], .int .i64 page] w fun x w' => x = .returned (.int .i64 (Gv e.log page)) ∧ Below w.heap.size w w':=by
 subst hd
 exact F9 page hlog hb hr
set_option maxRecDepth 100000 in
set_option maxHeartbeats 8000000 in
theorem BP {w0 w : World} {e : Eng} {C : Nat → Page} {B : Nat} {Ad Am Al : Option Addr} {cd cm cl : Nat} (tx page : Int) {m : Bool} (hm : M4 e tx page = m) (hi : Core e C B) (hb : Below w0.heap.size w0 w) (hr : Ff w0 e Ad Am Al) : Calls Tryz.prog 152 #[e.val Ad Am Al cd cm cl, .int .i64 tx, .int .i64 page] w fun x w' => x = .returned (.bool m) ∧ Below w.heap.size w w':=by
 have HR:=As (hr.up hb)
 have HL:=As hi.log
 have HM:=As hm
 obtain ⟨by_,hby⟩ : ∃ k,lk e.log page = k:=⟨_,rfl⟩
 have HLK : A7 (Gv e.log page = by_):=⟨by rw [hi.Gv,hby]⟩
 have HBY:=As hby
 clear hr hb hi hm hby
 cases hd : e.down
 rotate_left
 ·have HD:=As hd
  have hmf : m = false:=by rw [← HM.out,M4,hd];rfl
  subst hmf
  clear hd
  go_enter Tryz.func152,Tryz.ntmps152
  go_wp2_with (first
   | (with_reducible refine Ca (vd:=.slice Ad e.disk.length cd) (vm:=.slice Am e.mem.length cm) (vl:=.slice Al e.log.length cl) e ?_;intro w1 hb1 hz1 hq1;clear hz1;have HB:=As hb1;have x0:=hq1.c0;have x1:=hq1.c1;have x2:=hq1.c2;have x3:=hq1.c3;have x4:=hq1.c4;rw [HD.out] at x4;clear hb1 hq1))
  go_ret
  exact ⟨rfl,HB.out⟩
 have HD:=As hd
 clear hd
 cases h1 : inB tx 1 3
 ·have H1:=As h1
  have hmf : m = false:=by rw [← HM.out,M4,HD.out,h1];rfl
  subst hmf
  clear h1
  go_enter Tryz.func152,Tryz.ntmps152
  go_wp2_with (first
   | (with_reducible refine Ca (vd:=.slice Ad e.disk.length cd) (vm:=.slice Am e.mem.length cm) (vl:=.slice Al e.log.length cl) e ?_;intro w1 hb1 hz1 hq1;clear hz1;have HB:=As hb1;have x0:=hq1.c0;have x1:=hq1.c1;have x2:=hq1.c2;have x3:=hq1.c3;have x4:=hq1.c4;rw [HD.out] at x4;clear hb1 hq1)
   | (go_at_call 53;refine (AX tx 1 3 _).mono ?_;rw [H1.out];rintro x w' ⟨rfl,rfl⟩))
  go_ret
  exact ⟨rfl,HB.out⟩
 have H1:=As h1
 clear h1
 cases h2 : inB page 0 4
 ·have H2:=As h2
  have hmf : m = false:=by rw [← HM.out,M4,HD.out,H1.out,h2];rfl
  subst hmf
  clear h2
  go_enter Tryz.func152,Tryz.ntmps152
  go_wp2_with (first
   | (with_reducible refine Ca (vd:=.slice Ad e.disk.length cd) (vm:=.slice Am e.mem.length cm) (vl:=.slice Al e.log.length cl) e ?_;intro w1 hb1 hz1 hq1;clear hz1;have HB:=As hb1;have x0:=hq1.c0;have x1:=hq1.c1;have x2:=hq1.c2;have x3:=hq1.c3;have x4:=hq1.c4;rw [HD.out] at x4;clear hb1 hq1)
   | (go_at_call 53;refine (AX _ _ _ _).mono ?_;(first | rw [H1.out] | rw [H2.out]);rintro x w' ⟨rfl,rfl⟩))
  go_ret
  exact ⟨rfl,HB.out⟩
 have H2:=As h2
 clear h2
 rcases BS by_ 0 with ⟨e1,b1,c1⟩ | ⟨e1,b1,c1⟩
 all_goals rcases BS by_ tx with ⟨e2,b2,c2⟩ | ⟨e2,b2,c2⟩
 all_goals
  go_enter Tryz.func152,Tryz.ntmps152
  go_wp2_with (first
   | (with_reducible refine Ca (vd:=.slice Ad e.disk.length cd) (vm:=.slice Am e.mem.length cm) (vl:=.slice Al e.log.length cl) e ?_;intro w1 hb1 hz1 hq1;clear hz1;have HB:=As hb1;have x0:=hq1.c0;have x1:=hq1.c1;have x2:=hq1.c2;have x3:=hq1.c3;have x4:=hq1.c4;rw [HD.out] at x4;clear hb1 hq1)
   | (go_at_call 53;refine (AX _ _ _ _).mono ?_;(first | rw [H1.out] | rw [H2.out]);rintro x w' ⟨rfl,rfl⟩)
   | (go_at_call 135;refine (Pn (cd:=cd) (cm:=cm) (cl:=cl) page HD.out HL.out HB.out HR.out).mono ?_;rw [HLK.out];rintro x w2 ⟨rfl,hb2⟩;have HB2:=As (bj HB.out hb2);clear hb2))
  go_ret
  exact ⟨Af (by rw [← HM.out,M4,HD.out,H1.out,H2.out,HBY.out];simp [b1,b2]),HB2.out⟩
def Ap3 (i3 i0 s0 i5 s5 : Nat) (l : Array Bool) (a : Act) (_w : World) : Prop:=l.getD i3 false = false → l.getD i0 false = true → l.getD i5 false = true → (a.tmps.getD s0 undef).ownBlock ≠ (a.tmps.getD s5 undef).ownBlock
theorem QH {k i3 i0 s0 i5 s5 d : Nat} (h1 : (d == s0) = false) (h2 : (d == s5) = false) (h3 : (k == i3) = false) (h4 : (k == i0) = false) (h5 : (k == i5) = false) : Keeps (Ap3 i3 i0 s0 i5 s5) k (some d):=fun l a v w => by
 have h1 : d ≠ s0:=by simpa using h1
 have h2 : d ≠ s5:=by simpa using h2
 have h3 : k ≠ i3:=by simpa using h3
 have h4 : k ≠ i0:=by simpa using h4
 have h5 : k ≠ i5:=by simpa using h5
 have e1 : (a.put (some d) v).tmps.getD s0 undef = a.tmps.getD s0 undef:=by simp [Act.put,h1]
 have e2 : (a.put (some d) v).tmps.getD s5 undef = a.tmps.getD s5 undef:=by simp [Act.put,h2]
 have e3 : (l.setIfInBounds k true).getD i3 false = l.getD i3 false:=getD_set_ne false h3
 have e4 : (l.setIfInBounds k true).getD i0 false = l.getD i0 false:=getD_set_ne false h4
 have e5 : (l.setIfInBounds k true).getD i5 false = l.getD i5 false:=getD_set_ne false h5
 rw [Ap3,Ap3,e1,e2,e3,e4,e5]
theorem Vk {n i3 i0 s0 i5 s5 : Nat} {a : Act} {w : World} : Ap3 i3 i0 s0 i5 s5 (lsd n []) a w:=fun _ h => by
 rw [K9] at h
 simp [Array.getD] at h
theorem Rj {w : World} {B n : Nat} {l : List Rec} (hC : Kd.C kRec w (some ⟨B,0,none⟩) n l) (hn : 0 < n) : B < w.heap.size:=by
 obtain ⟨ad,e,q⟩:=Cs hC 0 hn
 injection e with e
 subst e
 exact World.block_lt_of_cell? _ _ q.c0
theorem Uj {w : World} {B : Nat} {l : List Rec} {v : Value} (hC : Kd.C kRec w (some ⟨B,0,none⟩) 1 l) (hv : v = .slice (some ⟨B,0,none⟩) 1 1) : (Value.slice (some ⟨w.heap.size,0,none⟩) 0 0).ownBlock ≠ v.ownBlock:=fun e => by
 have:=Rj hC (by omega)
 subst hv
 simp only [Value.ownBlock,Option.some.injEq] at e
 omega
theorem Sj {w : World} {b : Nat} {l : List Rec} {v : Value} (h : OwnRs w b v l) : v.ownBlock ≠ (Value.slice (some ⟨w.heap.size,0,none⟩) 1 1).ownBlock:=fun e => by
 have:=Kd.Uq h w.heap.size (by rw [e];simp [Value.ownBlock])
 omega
theorem Tz {w w1 : World} {B : Nat} {r : Rec} {u : Value} (hC : Kd.C kRec w (some ⟨B,0,none⟩) 1 [r]) (hg : w.grownBy w1 u.ownBlock) (hne : u.ownBlock ≠ (Value.slice (some ⟨B,0,none⟩) 1 1).ownBlock) : Kd.C kRec w1 (some ⟨B,0,none⟩) 1 [r]:=by
 have hlt:=Rj hC (by omega)
 have hb : w1.heap[B]? = w.heap[B]?:=hg.block B hlt (fun e => hne (by rw [← e];simp [Value.ownBlock]))
 obtain ⟨ad,e,q⟩:=Cs hC 0 (by omega)
 injection e with e
 subst e
 have hc : ∀ j : Nat,w1.cell? ⟨B,j,none⟩ = w.cell? ⟨B,j,none⟩:=fun j => World.cell?_of_block (w:=w) hb
 have e0 : (⟨B,0,none⟩ : Addr).add (0 * 8) = ⟨B,0,none⟩:=by simp [Addr.add]
 rw [e0] at q
 obtain ⟨q0,q1,q2,q3,q4,q5,q6,q7⟩:=q
 have hr : rc [r] 0 = r:=rfl
 rw [hr] at q0 q1 q2 q3 q4 q5 q6 q7
 exact Rk ⟨by rw [hc];exact q0,by rw [hc];exact q1,by rw [hc];exact q2,by rw [hc];exact q3,by rw [hc];exact q4,by rw [hc];exact q5,by rw [hc];exact q6,by rw [hc];exact q7⟩
theorem RF {w : World} {b g : Nat} {vd vm vl : Value} {e : Eng} {r : Rec} (h : Aw w b vd vm vl e) (hr : Cg w g r) (j : Nat) (u : Value) (hn : ∀ k,vl.ownBlock = some k → k ≠ g) : Aw (w.setCell ⟨g,j,none⟩ u) b vd vm vl e:=by
 obtain ⟨⟨okd,okm,ha,hx,hy⟩,hz⟩:=h
 refine ⟨⟨okd,okm,ha,Kd.R8 hx hr (fun q hq => by rcases Hu q hq with rfl | rfl <;> decide) j u,Kd.R8 hy hr (fun q hq => by rcases Hu q hq with rfl | rfl <;> decide) j u⟩,?_⟩
 exact Kd.DZ (Kd.X6 (p:=⟨g,j,none⟩) (Kd.IB rfl hz) (fun k hk => hn k hk.symm) u) (fun _ _ => trivial)
theorem Cg.far {w : World} {g : Nat} {r : Rec} (h : Cg w g r) {b : Nat} (hne : b ≠ g) (j : Nat) (u : Value) : Cg (w.setCell ⟨b,j,none⟩ u) g r:=(Below.heap_setCell w ⟨b,j,none⟩ u g (Ne.symm hne)).trans h
theorem Ry {R : Option Addr → Nat → Nat → Nat → Prop} {G : Prop} (h1 : (∀ a b c d,R a b c d) → G) (h2 : ∀ a b c d,R a b c d) : G:=h1 h2
theorem CS {w W : World} {S : Nat → Prop} {g : Nat} (h : Kept w W S) (hg : w.heap.size ≤ g) (e : Eng) (a b c : Value) : Kept w (Go.Proofs.YtjeodgfkilhkhaaGreat.Ap W g e a b c) S:=((((h.setCell (p:=⟨g,0,none⟩) (.inr hg) _).setCell (p:=⟨g,1,none⟩) (.inr hg) _).setCell (p:=⟨g,2,none⟩) (.inr hg) _).setCell (p:=⟨g,3,none⟩) (.inr hg) _).setCell (p:=⟨g,4,none⟩) (.inr hg) _
abbrev IC (w : World) (vm : Value) (w' : World) : Prop:=Kept w w' (fun k => some k = vm.ownBlock)
theorem Ab.GQ {w w1 : World} {b g : Nat} {vd vm vl ud um ul : Value} {e q : Eng} (h : Ab w g q ud um ul) (ho : Aw w b vd vm vl e) (hk : IC w vm w1) : Ab w1 g q ud um ul:=by
 refine (hk.2 g h.lt (fun e2 => ?_)).trans h
 obtain ⟨okd,okm, -, -,hm⟩:=ho.ex
 obtain ⟨cells,hc⟩:=Kd.FY hm g e2.symm
 have h1 : w.heap[g]? = _:=h
 rw [hc] at h1
 injection h1 with h1
 injection h1 with _ h2
 exact absurd h2 (by decide)
def Ig (w0 w : World) (vm : Value) (e : Eng) (b : Bool) (x : Ending) (w' : World) : Prop := ∃ vd' vm' vl',x = .returned (.tuple #[e.ag vd' vm' vl', .bool b]) ∧ Aw w' w0.heap.size vd' vm' vl' e ∧ Below w0.heap.size w0 w' ∧ IC w vm w'
set_option maxRecDepth 100000 in
set_option maxHeartbeats 8000000 in
theorem ES {w0 w : World} {e : Eng} {vd vm vl : Value} (r : Rec) (hgm : geo e.mem) (hlog : Au (e.log ++ [Ey r (Ae e.log r.tx e.log.length)]) = true) (hroom : e.log.length + 1 + AR (e.log ++ [Ey r (Ae e.log r.tx e.log.length)]) (e.log.length + 1) ≤ 150) (hrt : Cu r.kind = true → 0 ≤ r.page ∧ r.page < 5 ∧ r.slot < 3) (hb : Below w0.heap.size w0 w) (hr : Aw w w0.heap.size vd vm vl e) : Calls Tryz.prog 119 #[e.ag vd vm vl,r.val] w (Ig w0 w vm (e.app r) true):=by
 obtain ⟨Ad,cd,Am,cm,Al,cl,rfl,rfl,rfl,hcl,hrd⟩:=hr.reads
 obtain ⟨w1a,hw1a⟩ : ∃ w1a,w.alloc (e.obox (.slice Ad e.disk.length cd) (.slice Am e.mem.length cm) (.slice Al e.log.length cl)) = w1a:=⟨_,rfl⟩
 obtain ⟨w1b,hw1b⟩ : ∃ w1b,w1a.alloc r.box = w1b:=⟨_,rfl⟩
 obtain ⟨w1,hw1⟩ : ∃ w1,w1b.alloc (zE.obox (.slice none 0 0) (.slice none 0 0) (.slice none 0 0)) = w1:=⟨_,rfl⟩
 have hza : w1a.heap.size = w.heap.size + 1:=by rw [← hw1a];exact BD _ _
 have hzb : w1b.heap.size = w.heap.size + 1 + 1:=by rw [← hw1b,BD,hza]
 have hz1 : w1.heap.size = w.heap.size + 3:=by rw [← hw1,BD,hzb]
 have hba : Below w1a.heap.size w1a w1:=by rw [← hw1, ← hw1b];exact Aa (Aa (Below.refl _ _) _) _
 have hbb : Below w1b.heap.size w1b w1:=by rw [← hw1];exact Aa (Below.refl _ _) _
 have hb1 : Below w.heap.size w w1:=by rw [← hw1, ← hw1b, ← hw1a];exact Aa (Aa (Aa (Below.refl _ _) _) _) _
 have HQ1 : A7 (Ab w1 w.heap.size e (.slice Ad e.disk.length cd) (.slice Am e.mem.length cm) (.slice Al e.log.length cl)):=⟨Ab.up (by rw [← hw1a];exact Ab.mk1 _ _ _ _ _) hba⟩
 have HRB1 : A7 (Cg w1 (w.heap.size + 1) r):=⟨Cg.up (by rw [← hw1b, ← hza];exact Cg.mk1 _ _) hbb⟩
 have HP1 : A7 (Ab w1 (w.heap.size + 1 + 1) zE (.slice none 0 0) (.slice none 0 0) (.slice none 0 0)):=⟨by rw [← hw1, ← hzb];exact Ab.mk1 _ _ _ _ _⟩
 have HW1 : A7 (((w.alloc (e.obox (.slice Ad e.disk.length cd) (.slice Am e.mem.length cm) (.slice Al e.log.length cl))).alloc r.box).alloc (zE.obox (.slice none 0 0) (.slice none 0 0) (.slice none 0 0)) = w1):=⟨by rw [hw1a,hw1b,hw1]⟩
 have HZ1s:=As hz1
 have HB1:=As hb1
 have HB:=As hb
 have HO1:=As (hr.below hb1)
 have HOw:=As hr
 have HC1:=As (hrd.up hb1)
 obtain ⟨ln,hln⟩ : ∃ ln : Nat,Ae e.log r.tx e.log.length = ln:=⟨_,rfl⟩
 rw [hln] at hlog hroom
 obtain ⟨r1,hr1⟩ : ∃ r1,Ey r ln = r1:=⟨_,rfl⟩
 rw [hr1] at hlog hroom
 obtain ⟨l1,hl1⟩ : ∃ l1,e.log ++ [r1] = l1:=⟨_,rfl⟩
 rw [hl1] at hlog hroom
 have hll : l1.length = e.log.length + 1:=by rw [← hl1];simp
 obtain ⟨nd,hnd⟩ : ∃ nd,need l1 = nd:=⟨_,rfl⟩
 have hsum : l1.length + nd ≤ 150:=by rw [← hnd,Iw,hll];exact hroom
 have HLOG:=As hlog
 have HLN:=As hln
 have HR1:=As hr1
 have HL1:=As hl1
 have HLL:=As hll
 have HND:=As hnd
 have HSUM:=As hsum
 have HGM:=As hgm
 have HRT:=As hrt
 have HL:=As (show e.log.length ≤ 150 by omega)
 have HE:=As (show e.app r = { e with log:=l1,mem:=if Cu r.kind = true then e.mem.set r.page.toNat (doR (pg e.mem r.page.toNat) r1 (e.log.length + 1 : Nat)) else e.mem } by unfold Eng.app;rw [← hl1, ← hr1, ← hln];rfl)
 have x2:=HQ1.out.c2
 have r1c:=HRB1.out.at.c1
 have r6c:=HRB1.out.at.c6
 have fr6:=HRB1.out.frz 6
 simp only [Nat.zero_add] at r1c r6c
 clear hw1a hw1b hw1 hza hzb hz1 hba hbb hb1 hb hr hrd hln hr1 hl1 hll hnd hsum hgm hrt hlog hroom
 go_enter Tryz.func119,Tryz.ntmps119
 go_wp2_with (go_at_call 93;rw [show ((w.alloc (Obj.cells #[Value.slice Ad e.disk.length cd,Value.slice Am e.mem.length cm,Value.slice Al e.log.length cl,Value.int IntKind.i64 e.safe,Value.bool e.down] 26)).alloc (Obj.cells #[Value.int IntKind.i64 r.kind,Value.int IntKind.i64 r.tx,Value.int IntKind.i64 r.page,Value.int IntKind.i64 r.slot,Value.int IntKind.i64 r.old,Value.int IntKind.i64 r.new,Value.int IntKind.i64 r.prev,Value.int IntKind.i64 r.next] 43)).alloc (Obj.cells #[Value.slice none 0 0,Value.slice none 0 0,Value.slice none 0 0,Value.int IntKind.i64 0,Value.bool false] 26) = w1 from HW1.out];refine (Dn (c:=cl) HLN.out (Below.refl w1.heap.size w1) HC1.out.l).mono ?_;rintro x w' ⟨rfl,rfl⟩)
 obtain ⟨w2,hw2⟩ : ∃ w2,w1.setCell ⟨w.heap.size + 1,6,none⟩ (.int .i64 ln) = w2:=⟨_,rfl⟩
 have hrb2 : Cg w2 (w.heap.size + 1) r1:=by rw [← hw2, ← HR1.out];exact HRB1.out.F5 ln
 have hq2 : Ab w2 w.heap.size e (.slice Ad e.disk.length cd) (.slice Am e.mem.length cm) (.slice Al e.log.length cl):=by rw [← hw2];exact HQ1.out.far (by omega) _ _
 have hp2 : Ab w2 (w.heap.size + 1 + 1) zE (.slice none 0 0) (.slice none 0 0) (.slice none 0 0):=by rw [← hw2];exact HP1.out.far (by omega) _ _
 have hb2 : Below w.heap.size w w2:=by rw [← hw2];exact HB1.out.setCell (p:=⟨w.heap.size + 1,6,none⟩) (by simp) _
 have hs2 : w2.heap.size = w.heap.size + 3:=by rw [← hw2];simp [HZ1s.out]
 rw [hw2]
 have HRB2:=As hrb2
 have HQ2:=As hq2
 have HP2:=As hp2
 have HB2:=As hb2
 have HS2:=As hs2
 have HO2 : A7 (Aw w2 w0.heap.size (.slice Ad e.disk.length cd) (.slice Am e.mem.length cm) (.slice Al e.log.length cl) e):=⟨by rw [← hw2];exact RF HO1.out HRB1.out 6 _ (fun k hk => by have h1:=Kd.Uq HOw.out.l k hk;omega)⟩
 have HCL:=As (HO2.out.reads').l
 have x2:=hq2.c2
 obtain ⟨z0,z1,z2,z3,z4,z5,z6,z7⟩:=hrb2.at
 simp only [Nat.zero_add] at z1 z2 z3 z4 z5 z6 z7
 clear hw2 hrb2 hq2 hp2 hb2 hs2 r1c r6c fr6
 refine Bo (fun lx a wx => Below w2.heap.size w2 wx ∧ (Pre 3 0 13 (fun _ => True) (fun v wx => OwnRs wx w2.heap.size v []) lx a wx ∧ (Pre 6 3 16 (fun _ => True) (fun v wx => ∃ A c,v = .slice A e.log.length c ∧ OwnRs wx w2.heap.size v e.log) lx a wx ∧ (Pre 6 5 18 (fun _ => True) (fun v wx => ∃ B,v = .slice (some ⟨B,0,none⟩) 1 1 ∧ Kd.C kRec wx (some ⟨B,0,none⟩) 1 [r1]) lx a wx ∧ (Ap3 3 0 13 5 18 lx a wx ∧ Sl 6 19 (fun v wx => ∃ A c,v = .slice A l1.length c ∧ OwnRs wx w2.heap.size v l1) lx a wx))))) 8 rfl (by kernel_rfl) (⟨Ac (Below.refl _ _),FE trivial,FE trivial,FE trivial,Vk,Bp⟩) (fun HT => ?_)
 refine Bw [1,2,4] ?_
 iterate 3 (refine Bq (v:=?_) HT rfl (by kernel_rfl) rfl (kA Ah (kA (Cf rfl rfl rfl) (kA (Cf rfl rfl rfl) (kA (Cf rfl rfl rfl) (kA (QH rfl rfl rfl rfl rfl) (Ak rfl rfl)))))) (by rfl) (fun _ _ _ h => h) (fun lx ax wx hS => ?_) ?_;rotate_left;(have hbx:=hS.1;clear hS;replace x2:=bc hbx x2;replace z0:=bc hbx z0;replace z1:=bc hbx z1;replace z2:=bc hbx z2;replace z3:=bc hbx z3;replace z4:=bc hbx z4;replace z5:=bc hbx z5;replace z6:=bc hbx z6;replace z7:=bc hbx z7;go_simp;with_reducible rfl);rotate_left;simp only [sc0,sc1])
 refine Bv ?_
 apply Ry
 ·intro hrest
  refine AJ [0,5] (by kernel_rfl) (fun i hi wx hS => ?_)
  rcases List.mem_cons.1 hi with rfl | hi
  ·clear hi
   have hb : Below wx.heap.size wx (wx.alloc (.cells #[] 43)):=Aa (Below.refl _ _) _
   refine BG (w1:=wx.alloc (.cells #[] 43)) (.slice (some ⟨wx.heap.size,0,none⟩) 0 0) rfl rfl (by rfl) (by go_simp) ?_
   refine ⟨⟨bj hS.1 hb,fun _ => ⟨trivial,fun _ => rs_empty rfl hS.1.size⟩,fun _ => ⟨trivial,fun h => (Ao h (by kernel_rfl)).elim⟩,fun _ => ⟨trivial,fun h => (Ao h (by kernel_rfl)).elim⟩,fun _ => fun _ h => (Ao h (by kernel_rfl)).elim,fun h => (Ao h (by kernel_rfl)).elim⟩,?_⟩
   obtain ⟨B0,hB⟩ : ∃ B,wx.heap.size = B:=⟨_,rfl⟩
   rw [hB]
   clear hb hB hS
   simp only [sc0,sc1]
   refine AJ [3,5] (by kernel_rfl) (fun i hi wx hS => ?_)
   rcases List.mem_cons.1 hi with rfl | hi
   ·clear hi
    have hr0 : OwnRs wx w2.heap.size (.slice (some ⟨B0,0,none⟩) 0 0) []:=(hS.2.1 (by kernel_rfl)).2 (by kernel_rfl)
    refine wpOp_step rfl (Kd.Cy kRec (Rr:=kRec.K wx) (w0:=w2) w2.heap.size (by rfl) (.tmp 13) (.tmp 15) 24 43 _ 64 rfl E8 Gy rfl (by decide) (by decide) (.slice (some ⟨B0,0,none⟩) 0 0) [] e.log Al e.log.length cl (fun _ => True) (fun _ => False) rfl rfl hr0 (BF HCL.out hS.1) (fun _ _ hk => Jr hk) (fun _ hk => hk.elim) (fun _ _ => trivial) hS.1 hS.1.size (by have:=HL.out;simp;omega) (fun v1 w4 hown hb4 hg4 _ => ?_))
    have hown : OwnRs w4 w2.heap.size v1 e.log:=hown
    obtain ⟨A1,c1,rfl, -, -⟩:=Kd.D6 hown
    simp only [Ck,sc0,sc1]
    refine ⟨⟨hb4,fun h => (Ao (by kernel_rfl) h).elim,fun _ => ⟨trivial,fun _ => ⟨_,_,rfl,hown⟩⟩,fun _ => ⟨trivial,fun h => (Ao h (by kernel_rfl)).elim⟩,fun h => (Ao (by kernel_rfl) h).elim,fun h => (Ao h (by kernel_rfl)).elim⟩,?_⟩
    clear hr0 hown hb4 hg4 hS
    refine AJ [5] (by kernel_rfl) (fun i hi wx hS => ?_)
    obtain rfl:=List.mem_singleton.1 hi
    clear hi
    have hb : Below wx.heap.size wx (wx.alloc r1.box):=Aa (Below.refl _ _) _
    refine BG (w1:=wx.alloc r1.box) (.slice (some ⟨wx.heap.size,0,none⟩) 1 1) rfl rfl (by rfl) (by go_simp) ?_
    refine ⟨⟨bj hS.1 hb,fun h => (Ao (by kernel_rfl) h).elim,fun _ => ⟨trivial,fun _ => ((hS.2.2.1 (by kernel_rfl)).2 (by kernel_rfl)).elim fun A' h' => h'.elim fun c' h2 => ⟨A',c',h2.1,Kd.C8 h2.2 hb⟩⟩,fun _ => ⟨trivial,fun _ => ⟨wx.heap.size,rfl,Rk (GV wx r1)⟩⟩,fun h _ _ => (Ao (by kernel_rfl) h).elim,fun h => (Ao h (by kernel_rfl)).elim⟩,?_⟩
    obtain ⟨B5,hB⟩ : ∃ B,wx.heap.size = B:=⟨_,rfl⟩
    rw [hB]
    clear hb hB hS
    simp only [sc0,sc1]
    exact ED (done := [5,3,0,4,2,1]) (by kernel_rfl) (hrest A1 c1 B0 B5)
   ·obtain rfl:=List.mem_singleton.1 hi
    clear hi
    have hb : Below wx.heap.size wx (wx.alloc r1.box):=Aa (Below.refl _ _) _
    refine BG (w1:=wx.alloc r1.box) (.slice (some ⟨wx.heap.size,0,none⟩) 1 1) rfl rfl (by rfl) (by go_simp) ?_
    refine ⟨⟨bj hS.1 hb,fun _ => ⟨trivial,fun _ => Kd.C8 ((hS.2.1 (by kernel_rfl)).2 (by kernel_rfl)) hb⟩,fun _ => ⟨trivial,fun h => (Ao h (by kernel_rfl)).elim⟩,fun _ => ⟨trivial,fun _ => ⟨wx.heap.size,rfl,Rk (GV wx r1)⟩⟩,fun _ => fun _ _ => Sj ((hS.2.1 (by kernel_rfl)).2 (by kernel_rfl)),fun h => (Ao h (by kernel_rfl)).elim⟩,?_⟩
    obtain ⟨B5,hB⟩ : ∃ B,wx.heap.size = B:=⟨_,rfl⟩
    rw [hB]
    clear hb hB hS
    simp only [sc0,sc1]
    refine AJ [3] (by kernel_rfl) (fun i hi wx hS => ?_)
    obtain rfl:=List.mem_singleton.1 hi
    clear hi
    have hr0 : OwnRs wx w2.heap.size (.slice (some ⟨B0,0,none⟩) 0 0) []:=(hS.2.1 (by kernel_rfl)).2 (by kernel_rfl)
    obtain ⟨B',hB',hC'⟩:=(hS.2.2.2.1 (by kernel_rfl)).2 (by kernel_rfl)
    have hB' : Value.slice (some ⟨B5,0,none⟩) 1 1 = .slice (some ⟨B',0,none⟩) 1 1:=hB'
    obtain rfl : B5 = B':=by simpa using hB'
    have hap : (Value.slice (some ⟨B0,0,none⟩) 0 0).ownBlock ≠ (Value.slice (some ⟨B5,0,none⟩) 1 1).ownBlock:=hS.2.2.2.2.1 (by kernel_rfl) (by kernel_rfl) (by kernel_rfl)
    refine wpOp_step rfl (Kd.Cy kRec (Rr:=kRec.K wx) (w0:=w2) w2.heap.size (by rfl) (.tmp 13) (.tmp 15) 24 43 _ 64 rfl E8 Gy rfl (by decide) (by decide) (.slice (some ⟨B0,0,none⟩) 0 0) [] e.log Al e.log.length cl (fun _ => True) (fun _ => False) rfl rfl hr0 (BF HCL.out hS.1) (fun _ _ hk => Jr hk) (fun _ hk => hk.elim) (fun _ _ => trivial) hS.1 hS.1.size (by have:=HL.out;simp;omega) (fun v1 w4 hown hb4 hg4 _ => ?_))
    have hown : OwnRs w4 w2.heap.size v1 e.log:=hown
    obtain ⟨A1,c1,rfl, -, -⟩:=Kd.D6 hown
    simp only [Ck,sc0,sc1]
    have hC5 : Kd.C kRec w4 (some ⟨B5,0,none⟩) 1 [r1]:=Tz hC' hg4 hap
    refine ⟨⟨hb4,fun h => (Ao (by kernel_rfl) h).elim,fun _ => ⟨trivial,fun _ => ⟨_,_,rfl,hown⟩⟩,fun _ => ⟨trivial,fun _ => ⟨_,rfl,hC5⟩⟩,fun h => (Ao (by kernel_rfl) h).elim,fun h => (Ao h (by kernel_rfl)).elim⟩,?_⟩
    clear hr0 hown hb4 hg4 hS hC' hB' hap hC5
    exact ED (done := [5,3,0,4,2,1]) (by kernel_rfl) (hrest A1 c1 B0 B5)
  ·obtain rfl:=List.mem_singleton.1 hi
   clear hi
   have hb : Below wx.heap.size wx (wx.alloc r1.box):=Aa (Below.refl _ _) _
   refine BG (w1:=wx.alloc r1.box) (.slice (some ⟨wx.heap.size,0,none⟩) 1 1) rfl rfl (by rfl) (by go_simp) ?_
   refine ⟨⟨bj hS.1 hb,fun _ => ⟨trivial,fun h => (Ao h (by kernel_rfl)).elim⟩,fun _ => ⟨trivial,fun h => (Ao h (by kernel_rfl)).elim⟩,fun _ => ⟨trivial,fun _ => ⟨wx.heap.size,rfl,Rk (GV wx r1)⟩⟩,fun _ => fun h => (Ao h (by kernel_rfl)).elim,fun h => (Ao h (by kernel_rfl)).elim⟩,?_⟩
   obtain ⟨B5,hB⟩ : ∃ B,wx.heap.size = B:=⟨_,rfl⟩
   rw [hB]
   clear hb hB hS
   simp only [sc0,sc1]
   refine AJ [0] (by kernel_rfl) (fun i hi wx hS => ?_)
   obtain rfl:=List.mem_singleton.1 hi
   clear hi
   have hb : Below wx.heap.size wx (wx.alloc (.cells #[] 43)):=Aa (Below.refl _ _) _
   refine BG (w1:=wx.alloc (.cells #[] 43)) (.slice (some ⟨wx.heap.size,0,none⟩) 0 0) rfl rfl (by rfl) (by go_simp) ?_
   refine ⟨⟨bj hS.1 hb,fun _ => ⟨trivial,fun _ => rs_empty rfl hS.1.size⟩,fun _ => ⟨trivial,fun h => (Ao h (by kernel_rfl)).elim⟩,fun _ => ⟨trivial,fun _ => ((hS.2.2.2.1 (by kernel_rfl)).2 (by kernel_rfl)).elim fun B' h' => ⟨B',h'.1,BF h'.2 hb⟩⟩,fun _ => fun _ _ => (((hS.2.2.2.1 (by kernel_rfl)).2 (by kernel_rfl)).elim fun B' h' => Uj h'.2 h'.1),fun h => (Ao h (by kernel_rfl)).elim⟩,?_⟩
   obtain ⟨B0,hB⟩ : ∃ B,wx.heap.size = B:=⟨_,rfl⟩
   rw [hB]
   clear hb hB hS
   simp only [sc0,sc1]
   refine AJ [3] (by kernel_rfl) (fun i hi wx hS => ?_)
   obtain rfl:=List.mem_singleton.1 hi
   clear hi
   have hr0 : OwnRs wx w2.heap.size (.slice (some ⟨B0,0,none⟩) 0 0) []:=(hS.2.1 (by kernel_rfl)).2 (by kernel_rfl)
   obtain ⟨B',hB',hC'⟩:=(hS.2.2.2.1 (by kernel_rfl)).2 (by kernel_rfl)
   have hB' : Value.slice (some ⟨B5,0,none⟩) 1 1 = .slice (some ⟨B',0,none⟩) 1 1:=hB'
   obtain rfl : B5 = B':=by simpa using hB'
   have hap : (Value.slice (some ⟨B0,0,none⟩) 0 0).ownBlock ≠ (Value.slice (some ⟨B5,0,none⟩) 1 1).ownBlock:=hS.2.2.2.2.1 (by kernel_rfl) (by kernel_rfl) (by kernel_rfl)
   refine wpOp_step rfl (Kd.Cy kRec (Rr:=kRec.K wx) (w0:=w2) w2.heap.size (by rfl) (.tmp 13) (.tmp 15) 24 43 _ 64 rfl E8 Gy rfl (by decide) (by decide) (.slice (some ⟨B0,0,none⟩) 0 0) [] e.log Al e.log.length cl (fun _ => True) (fun _ => False) rfl rfl hr0 (BF HCL.out hS.1) (fun _ _ hk => Jr hk) (fun _ hk => hk.elim) (fun _ _ => trivial) hS.1 hS.1.size (by have:=HL.out;simp;omega) (fun v1 w4 hown hb4 hg4 _ => ?_))
   have hown : OwnRs w4 w2.heap.size v1 e.log:=hown
   obtain ⟨A1,c1,rfl, -, -⟩:=Kd.D6 hown
   simp only [Ck,sc0,sc1]
   have hC5 : Kd.C kRec w4 (some ⟨B5,0,none⟩) 1 [r1]:=Tz hC' hg4 hap
   refine ⟨⟨hb4,fun h => (Ao (by kernel_rfl) h).elim,fun _ => ⟨trivial,fun _ => ⟨_,_,rfl,hown⟩⟩,fun _ => ⟨trivial,fun _ => ⟨_,rfl,hC5⟩⟩,fun h => (Ao (by kernel_rfl) h).elim,fun h => (Ao h (by kernel_rfl)).elim⟩,?_⟩
   clear hr0 hown hb4 hg4 hS hC' hB' hap hC5
   exact ED (done := [5,3,0,4,2,1]) (by kernel_rfl) (hrest A1 c1 B0 B5)
 intro A1 c1 B0 B5
 refine AJ [6] (by kernel_rfl) (fun i hi w3 hS => ?_)
 obtain rfl:=List.mem_singleton.1 hi
 clear hi
 obtain ⟨h1, -,hB,hC, -, -⟩:=hS
 obtain ⟨A',c',hv,hown16⟩:=(hB (by kernel_rfl)).2 (by kernel_rfl)
 have hv : Value.slice A1 e.log.length c1 = .slice A' e.log.length c':=hv
 obtain ⟨rfl,rfl⟩ : A1 = A' ∧ c1 = c':=by simpa using hv
 have hown16 : OwnRs w3 w2.heap.size (.slice A1 e.log.length c1) e.log:=hown16
 obtain ⟨B',hB',hC'⟩:=(hC (by kernel_rfl)).2 (by kernel_rfl)
 have hB' : Value.slice (some ⟨B5,0,none⟩) 1 1 = .slice (some ⟨B',0,none⟩) 1 1:=hB'
 obtain rfl : B5 = B':=by simpa using hB'
 refine wpOp_step rfl (Kd.Cy kRec (Rr:=kRec.K w3) (w0:=w2) w2.heap.size (by rfl) (.tmp 16) (.tmp 18) 24 43 _ 64 rfl E8 Gy rfl (by decide) (by decide) (.slice A1 e.log.length c1) e.log [r1] (some ⟨B5,0,none⟩) 1 1 (fun _ => True) (fun _ => False) rfl rfl hown16 hC' (fun _ _ hk => Jr hk) (fun _ hk => hk.elim) (fun _ _ => trivial) h1 h1.size (by have:=HL.out;simp;omega) (fun v1 w4 hown hb4 hg4 _ => ?_))
 rw [HL1.out] at hown
 obtain ⟨A6,c6,rfl, -, -⟩:=Kd.D6 hown
 simp only [Ck,sc0,sc1]
 refine ⟨⟨hb4,fun h => (Ao (by kernel_rfl) h).elim,fun h => (Ao (by kernel_rfl) h).elim,fun h => (Ao (by kernel_rfl) h).elim,fun h => (Ao (by kernel_rfl) h).elim,fun _ => ⟨_,_,rfl,hown⟩⟩,?_⟩
 clear h1 hB hC hv hown16 hB' hC' hown hb4 hg4
 refine CZ (i:=7) (v:=?_) HT rfl (by kernel_rfl) rfl (kA Ah (kA (Cf rfl rfl rfl) (kA (Cf rfl rfl rfl) (kA (Cf rfl rfl rfl) (kA (QH rfl rfl rfl rfl rfl) (Ak rfl rfl)))))) (by rfl) (fun _ _ _ h => h) (fun lx ax wx hS => ?_) ?_;rotate_left;(go_simp;with_reducible rfl);rotate_left;simp only [sc0,sc1]
 refine GU (by kernel_rfl) (fun w5 hS => ?_)
 obtain ⟨hb5, -, -, -, -,h6⟩:=hS
 obtain ⟨A',c',hv,hown⟩:=h6 (by kernel_rfl)
 have hv : Value.slice A6 l1.length c6 = .slice A' l1.length c':=hv
 obtain ⟨rfl,rfl⟩ : A6 = A' ∧ c6 = c':=by simpa using hv
 have hown : OwnRs w5 w2.heap.size (.slice A6 l1.length c6) l1:=hown
 have HB5:=As hb5
 have HL5:=As hown
 have hs0:=HSUM.out
 have hwr : IntKind.i64.wrap ((l1.length : Int) + nd) = (l1.length : Int) + nd:=by simp (disch:=omega) only [IntWalk.i64_in]
 have hcmp : decide (150 < (l1.length : Int) + nd) = false:=by simp;omega
 clear h6 hv hown hb5 x2 z0 z1 z2 z3 z4 z5 z6 z7
 have hkd : r1.kind = r.kind:=by rw [← HR1.out];rfl
 have HKD:=As hkd
 clear hkd
 cases hc : Cu r.kind
 ·have HEC : A7 (e.app r = { e with log:=l1 }):=⟨by rw [HE.out,if_neg (by rw [hc];simp)]⟩
  have HCH:=As hc
  clear hc
  go_wp2_with (first
   | (go_at_call 55;refine (Gq (c:=c6) (Below.refl w5.heap.size w5) (Kd.Df HL5.out).2.2 HLOG.out).mono ?_;rw [HND.out];rintro x w6 ⟨rfl,hb6⟩;have hb26:=bj HB5.out hb6;have HB26:=As hb26;have HL6:=As (Kd.C8 HL5.out hb6);have hq6:=HQ2.out.up hb26;have HQ6:=As hq6;have HO6:=As (HO2.out.below hb26);have q2:=hq6.c2;have g2:=hq6.frz 2;have z0:=(HRB2.out.up hb26).at.c0;clear hb6 hb26 hq6)
   | (go_at_call 94;obtain ⟨w7,hw7⟩ : ∃ w7,w6.setCell ⟨w.heap.size,2,none⟩ (.slice A6 l1.length c6) = w7:=⟨_,rfl⟩;have hs2:=HS2.out;have h26:=HB26.out.size;have hq7 : Ab w7 w.heap.size { e with log:=l1 } (.slice Ad e.disk.length cd) (.slice Am e.mem.length cm) (.slice A6 l1.length c6):=(by rw [← hw7];exact HQ6.out.set2 _);have hrb7 : Cg w7 (w.heap.size + 1) r1:=(by rw [← hw7];exact (HRB2.out.up HB26.out).far (by omega) _ _);have hp7 : Ab w7 (w.heap.size + 1 + 1) zE (.slice none 0 0) (.slice none 0 0) (.slice none 0 0):=(by rw [← hw7];exact (HP2.out.up HB26.out).far (by omega) _ _);have ho7 : Aw w7 w0.heap.size (.slice Ad e.disk.length cd) (.slice Am e.mem.length cm) (.slice A6 l1.length c6) { e with log:=l1 }:=(by rw [← hw7];exact ⟨(HO6.out.Dy HQ6.out 2 _).ex,Kd.H8 (L9 HL6.out HQ6.out 2 _) (by have:=HB.out.size;omega)⟩);have hb7 : Below w.heap.size w w7:=(by rw [← hw7];exact (bj HB2.out HB26.out).setCell (p:=⟨w.heap.size,2,none⟩) (Nat.le_refl _) _);have HQ7:=As hq7;have HRB7:=As hrb7;have HP7:=As hp7;have HO7:=As ho7;have HB7:=As hb7;have HN7:=As (show w.heap.size + 3 ≤ w7.heap.size by (have : w7.heap.size = w6.heap.size:=(by rw [← hw7];simp));omega);rw [hw7];refine (DC (k:=r1.kind) (b:=false) (by rw [HKD.out];exact HCH.out) _).mono ?_;rintro x w' ⟨rfl,rfl⟩;clear hw7 hs2 h26 hq7 hrb7 hp7 ho7 hb7 q2 g2 z0;have x0:=HQ7.out.c0;have x1:=HQ7.out.c1;have x2:=HQ7.out.c2;have x3:=HQ7.out.c3;have x4:=HQ7.out.c4;have y0:=HP7.out.c0;have y1:=HP7.out.c1;have y2:=HP7.out.c2;have y3:=HP7.out.c3;have y4:=HP7.out.c4;have f0:=HP7.out.frz 0;have f1:=HP7.out.frz 1;have f2:=HP7.out.frz 2;have f3:=HP7.out.frz 3;have f4:=HP7.out.frz 4))
  have HPZ:=HP7
  have HQZ:=HQ7
  have HOZ:=HO7
  have HBZ:=As (bj HB.out HB7.out)
  have HBZw:=HN7
  have HKZ:=As (show IC w (.slice Am e.mem.length cm) w7 from Kept.of_below HB7.out _)
  have hwz:=HBZw.out
  have hsz:=HB.out.size
  have hy:=HPZ.out.Ap { e with log:=l1 } (.slice Ad e.disk.length cd) (.slice Am e.mem.length cm) (.slice A6 l1.length c6)
  have h1:=HOZ.out.Ap (f:={ e with log:=l1 }) (xd:=.slice Ad e.disk.length cd) (xm:=(.slice Am e.mem.length cm)) (xl:=.slice A6 l1.length c6) HPZ.out
  have h2:=Aj (g:=w.heap.size + 1 + 1) HBZ.out (by omega) { e with log:=l1 } (.slice Ad e.disk.length cd) (.slice Am e.mem.length cm) (.slice A6 l1.length c6)
  have z0:=hy.c0
  have z1:=hy.c1
  have z2:=hy.c2
  have z3:=hy.c3
  have z4:=hy.c4
  simp only at z0 z1 z2 z3 z4
  exact bodyPost_ret (v:=.tuple #[.agg #[.slice Ad e.disk.length cd,(.slice Am e.mem.length cm), .slice A6 l1.length c6, .int .i64 e.safe, .bool e.down], .bool true]) (by simp [results,Tryz.results119,go_sem,z0,z1,z2,z3,z4]) rfl ⟨.slice Ad e.disk.length cd,(.slice Am e.mem.length cm), .slice A6 l1.length c6,by rw [HEC.out],by rw [HEC.out];exact h1,h2,CS HKZ.out (by omega) _ _ _ _⟩
 ·have HCH:=As hc
  obtain ⟨p,hpp⟩ : ∃ p : Nat,r.page = (p : Int):=⟨r.page.toNat,by have:=(HRT.out hc).1;omega⟩
  have hp5 : p < 5:=by have:=(HRT.out hc).2.1;omega
  have hsl:=(HRT.out hc).2.2
  obtain ⟨q,hqq⟩ : ∃ q,doR (pg e.mem p) r1 (l1.length : Nat) = q:=⟨_,rfl⟩
  have HEC : A7 (e.app r = { e with log:=l1,mem:=e.mem.set p q }):=⟨by rw [HE.out,if_pos hc,show r.page.toNat = p by omega, ← hqq,HLL.out]⟩
  have HQQ:=As hqq
  have HPP:=As (show r1.page = (p : Int) by rw [← HR1.out];exact hpp)
  have HSL:=As (show r1.slot < 3 by rw [← HR1.out];exact hsl)
  clear hc hpp hsl hqq
  go_wp2_with (first
   | (go_at_call 55;refine (Gq (c:=c6) (Below.refl w5.heap.size w5) (Kd.Df HL5.out).2.2 HLOG.out).mono ?_;rw [HND.out];rintro x w6 ⟨rfl,hb6⟩;have hb26:=bj HB5.out hb6;have HB26:=As hb26;have HL6:=As (Kd.C8 HL5.out hb6);have hq6:=HQ2.out.up hb26;have HQ6:=As hq6;have HO6:=As (HO2.out.below hb26);have q2:=hq6.c2;have g2:=hq6.frz 2;have z0:=(HRB2.out.up hb26).at.c0;clear hb6 hb26 hq6)
   | (go_at_call 94;obtain ⟨w7,hw7⟩ : ∃ w7,w6.setCell ⟨w.heap.size,2,none⟩ (.slice A6 l1.length c6) = w7:=⟨_,rfl⟩;have hs2:=HS2.out;have h26:=HB26.out.size;have hq7 : Ab w7 w.heap.size { e with log:=l1 } (.slice Ad e.disk.length cd) (.slice Am e.mem.length cm) (.slice A6 l1.length c6):=(by rw [← hw7];exact HQ6.out.set2 _);have hrb7 : Cg w7 (w.heap.size + 1) r1:=(by rw [← hw7];exact (HRB2.out.up HB26.out).far (by omega) _ _);have hp7 : Ab w7 (w.heap.size + 1 + 1) zE (.slice none 0 0) (.slice none 0 0) (.slice none 0 0):=(by rw [← hw7];exact (HP2.out.up HB26.out).far (by omega) _ _);have ho7 : Aw w7 w0.heap.size (.slice Ad e.disk.length cd) (.slice Am e.mem.length cm) (.slice A6 l1.length c6) { e with log:=l1 }:=(by rw [← hw7];exact ⟨(HO6.out.Dy HQ6.out 2 _).ex,Kd.H8 (L9 HL6.out HQ6.out 2 _) (by have:=HB.out.size;omega)⟩);have hb7 : Below w.heap.size w w7:=(by rw [← hw7];exact (bj HB2.out HB26.out).setCell (p:=⟨w.heap.size,2,none⟩) (Nat.le_refl _) _);have HQ7:=As hq7;have HRB7:=As hrb7;have HP7:=As hp7;have HO7:=As ho7;have HB7:=As hb7;have HN7:=As (show w.heap.size + 3 ≤ w7.heap.size by (have : w7.heap.size = w6.heap.size:=(by rw [← hw7];simp));omega);rw [hw7];refine (DC (k:=r1.kind) (b:=true) (by rw [HKD.out];exact HCH.out) _).mono ?_;rintro x w' ⟨rfl,rfl⟩;clear hw7 hs2 h26 hq7 hrb7 hp7 ho7 hb7 q2 g2 z0))
  have hgm5:=HGM.out.1
  obtain ⟨okd,okm,hap,hpd,hpm⟩:=HO7.out.ex
  obtain ⟨gm,capm,hfm, -,hgml⟩:=D9 hpm (by show 0 < e.mem.length;omega)
  injection hfm with hf1 hf2 hf3
  subst hf1 hf3
  have hpl : p < e.mem.length:=by omega
  have hp5i : (p : Int) < 5:=by omega
  obtain ⟨A2,c2,p0,p1,p2,pC, -⟩:=F4 hpm p hpl
  have x1:=HQ7.out.c1
  obtain ⟨z0,z1,z2,z3,z4,z5,z6,z7⟩:=HRB7.out.at
  simp only [Nat.zero_add] at z1 z2 z3 z4 z5 z6 z7
  rw [HPP.out] at z2
  have HPC:=As pC
  have HPD:=As hpd
  have HPM:=As hpm
  have HAP:=As hap
  have HVL3:=As (Ia HGM.out hp5)
  have hcall : ∀ wx,Below w7.heap.size w7 wx → Calls Tryz.prog 95 #[(pg e.mem p).val A2 c2, .agg #[.int .i64 r1.kind, .int .i64 r1.tx, .int .i64 (p : Int), .int .i64 r1.slot, .int .i64 r1.old, .int .i64 r1.new, .int .i64 r1.prev, .int .i64 r1.next], .int .i64 (l1.length : Int)] wx (Oc wx q):=fun wx hb => by
   have h:=KM (c:=c2) r1 (l1.length : Int) (by rw [HVL3.out];decide) (by rw [HVL3.out];exact HSL.out) hb HPC.out
   rw [show doR (pg e.mem p) r1 (l1.length : Int) = q from HQQ.out] at h
   unfold Rec.val at h
   rw [HPP.out] at h
   exact h
  have HCALL:=As hcall
  clear pC hpd hpm hap hgml hcall hf2
  refine Bo (fun lx a wx => Below w7.heap.size w7 wx ∧ Sl 13 45 (fun v wx => ∃ u,v = q.own u ∧ AA wx w7.heap.size u q.vals) lx a wx) 15 rfl (by kernel_rfl) (⟨Ac (Below.refl _ _),Bp⟩) (fun HT => ?_)
  refine Bw [0,1,2,3,4,5,6,7,8,9,10,11,12] ?_
  iterate 13 (refine Bq (v:=?_) HT rfl (by kernel_rfl) rfl (kA Ah (Ak rfl rfl)) (by rfl) (fun _ _ _ h => h) (fun lx ax wx hS => ?_) ?_;rotate_left;(have hbx:=hS.1;clear hS;replace x1:=bc hbx x1;replace p0:=bc hbx p0;replace p1:=bc hbx p1;replace p2:=bc hbx p2;replace z0:=bc hbx z0;replace z1:=bc hbx z1;replace z2:=bc hbx z2;replace z3:=bc hbx z3;replace z4:=bc hbx z4;replace z5:=bc hbx z5;replace z6:=bc hbx z6;replace z7:=bc hbx z7;go_simp;with_reducible rfl);rotate_left;simp only [sc0,sc1])
  refine Bv ?_
  refine Cr (i:=13) (f:=95) (args:=#[(pg e.mem p).val A2 c2, .agg #[.int .i64 r1.kind, .int .i64 r1.tx, .int .i64 (p : Int), .int .i64 r1.slot, .int .i64 r1.old, .int .i64 r1.new, .int .i64 r1.prev, .int .i64 r1.next], .int .i64 (l1.length : Int)]) (fun v => ∃ u,v = q.own u) rfl (by kernel_rfl) rfl Tryz.func95 (by kernel_rfl) rfl rfl (by rfl) (by simp only [List.map_toArray,List.map_cons,List.map_nil];rfl) (fun wx hS => (HCALL.out wx hS.1).mono (by rintro x w8 ⟨u,rfl,ho,hb⟩;exact ⟨_,rfl,⟨u,rfl⟩,bj hS.1 hb,fun _ => ⟨u,rfl,ho.lower hS.1.size⟩⟩)) (fun vx hg => ?_);simp only [sc0,sc1]
  obtain ⟨u,rfl⟩:=hg
  refine CZ (i:=14) (v:=?_) HT rfl (by kernel_rfl) rfl (kA Ah (Ak rfl rfl)) (by rfl) (fun _ _ _ h => h) (fun lx ax wx hS => ?_) ?_;rotate_left;(go_simp;with_reducible rfl);rotate_left;simp only [sc0,sc1]
  refine Cb (i:=15) (by kernel_rfl) rfl (fun wx hS => ?_)
  obtain ⟨h1,h3⟩:=hS
  obtain ⟨u1,hu1,hown⟩:=h3 (by kernel_rfl)
  have hu1 : q.own u = q.own u1:=hu1
  obtain rfl : u = u1:=by simpa using hu1
  refine FC (ok:=okm) (w0:=w0) (N:=w7.heap.size) (q:=q) p rfl (.tmp 46) (.tmp 45) rfl (by rfl) rfl rfl rfl hown (by have:=HB.out.size;have:=HN7.out;omega) (Kd.Fe HPM.out h1) hpl (bj HB.out (bj HB7.out h1)) (fun w8 hO8 hB8 hg8 => ?_)
  refine BM (by kernel_rfl) ?_
  have hd8:=Kd.Fe HPD.out h1
  have hty:=Kd.FY (Kd.Bg HPM.out h1) gm (by simp [Value.ownBlock])
  have he8:=Aw.RG (e:={ e with log:=l1 }) HAP.out hd8 (Kd.C8 HO7.out.l h1) hown hO8 (Kr HPM.out gm (by simp [Value.ownBlock])) hg8 hty
  have hq8 : Ab w8 w.heap.size { e with log:=l1,mem:=e.mem.set p q } (.slice Ad e.disk.length cd) (.slice (some ⟨gm,0,none⟩) e.mem.length cm) (.slice A6 l1.length c6):=(hg8.block _ (by have:=HN7.out;have:=h1.size;omega) (fun e2 => by injection e2 with e2;exact GD HQ7.out HPM.out e2)).trans (HQ7.out.up h1)
  have hp8 : Ab w8 (w.heap.size + 1 + 1) zE (.slice none 0 0) (.slice none 0 0) (.slice none 0 0):=(hg8.block _ (by have:=HN7.out;have:=h1.size;omega) (fun e2 => by injection e2 with e2;exact GD HP7.out HPM.out e2)).trans (HP7.out.up h1)
  have HKZ:=As (show IC w (.slice (some ⟨gm,0,none⟩) e.mem.length cm) w8 from Kept.I5 hg8 (Kept.of_below (bj HB7.out h1) _) (fun k hk => .inl (by simp only [Value.ownBlock];exact hk.symm)))
  have HPZ:=As hp8
  have HQZ:=As hq8
  have HOZ:=As he8
  have HBZ:=As hB8
  have HBZw : A7 (w.heap.size + 3 ≤ w8.heap.size):=⟨by have:=HN7.out;have:=h1.size;have:=hg8.size;omega⟩
  clear h1 h3 hu1 hown hO8 hB8 hg8 hd8 hty he8 hq8 hp8 x1 p0 p1 p2 z0 z1 z2 z3 z4 z5 z6 z7 hpl hgm5 hp5i hp5
  have y:=HPZ.out
  have y0:=y.c0
  have y1:=y.c1
  have y2:=y.c2
  have y3:=y.c3
  have y4:=y.c4
  have f0:=y.frz 0
  have f1:=y.frz 1
  have f2:=y.frz 2
  have f3:=y.frz 3
  have f4:=y.frz 4
  have x0:=HQZ.out.c0
  have x1:=HQZ.out.c1
  have x2:=HQZ.out.c2
  have x3:=HQZ.out.c3
  have x4:=HQZ.out.c4
  clear y
  go_wp2
  have hwz:=HBZw.out
  have hsz:=HB.out.size
  have hy:=HPZ.out.Ap { e with log:=l1,mem:=e.mem.set p q } (.slice Ad e.disk.length cd) (.slice (some ⟨gm,0,none⟩) e.mem.length cm) (.slice A6 l1.length c6)
  have h1:=HOZ.out.Ap (f:={ e with log:=l1,mem:=e.mem.set p q }) (xd:=.slice Ad e.disk.length cd) (xm:=(.slice (some ⟨gm,0,none⟩) e.mem.length cm)) (xl:=.slice A6 l1.length c6) HPZ.out
  have h2:=Aj (g:=w.heap.size + 1 + 1) HBZ.out (by omega) { e with log:=l1,mem:=e.mem.set p q } (.slice Ad e.disk.length cd) (.slice (some ⟨gm,0,none⟩) e.mem.length cm) (.slice A6 l1.length c6)
  have z0:=hy.c0
  have z1:=hy.c1
  have z2:=hy.c2
  have z3:=hy.c3
  have z4:=hy.c4
  simp only at z0 z1 z2 z3 z4
  exact bodyPost_ret (v:=.tuple #[.agg #[.slice Ad e.disk.length cd,(.slice (some ⟨gm,0,none⟩) e.mem.length cm), .slice A6 l1.length c6, .int .i64 e.safe, .bool e.down], .bool true]) (by simp [results,Tryz.results119,go_sem,z0,z1,z2,z3,z4]) rfl ⟨.slice Ad e.disk.length cd,(.slice (some ⟨gm,0,none⟩) e.mem.length cm), .slice A6 l1.length c6,by rw [HEC.out],by rw [HEC.out];exact h1,h2,CS HKZ.out (by omega) _ _ _ _⟩
def Vu (w0 w : World) (vm : Value) (e : Eng) (x : Ending) (w' : World) : Prop := ∃ vd' vm' vl',x = .returned (e.ag vd' vm' vl') ∧ Aw w' w0.heap.size vd' vm' vl' e ∧ Below w0.heap.size w0 w' ∧ IC w vm w'
theorem Rx {R : Value → Value → Value → Nat → Prop} {G : Prop} (h1 : (∀ a b c d,R a b c d) → G) (h2 : ∀ a b c d,R a b c d) : G:=h1 h2
theorem Aw.XI {w w1 : World} {b n c : Nat} {A : Option Addr} {vd vm : Value} {e : Eng} (h : Aw w b vd vm (.slice A n c) e) (hk : IC w vm w1) : Kd.C kRec w1 A e.log.length e.log:=by
 obtain ⟨okd,okm, -, -,hm⟩:=h.ex
 have hr:=Kd.Ih (Kd.IB rfl h.l) hk (fun k hx hy => by
  obtain ⟨c1,h1⟩:=Hr h.l k hx.symm
  obtain ⟨c2,h2⟩:=Kd.FY hm k hy.symm
  rw [h1] at h2
  injection h2 with h2
  injection h2 with _ h3
  exact absurd h3 (by decide))
 obtain ⟨A',c',h1, -,h2⟩:=Kd.D6 hr
 injection h1 with h1
 subst h1
 exact h2
theorem Rs {e : Eng} {tx : Int} (hs : Jv e tx) : Cu (Da e tx).kind = true → 0 ≤ (Da e tx).page ∧ (Da e tx).page < 5 ∧ (Da e tx).slot < 3:=fun hc => by
 have h1:=hs.may hc
 simp only [IK,Bool.and_eq_true] at h1
 have h2:=Ic h1.2.1 hc
 have h3 : (CB e tx).page = (Da e tx).page:=rfl
 have h4 : (CB e tx).slot = (Da e tx).slot:=rfl
 omega
theorem Uz {e : Eng} {tx : Int} (hs : Jv e tx) : Au (e.log ++ [Ey (Da e tx) (Ae e.log (Da e tx).tx e.log.length)]) = true:=hs.log'
theorem TI {e : Eng} {tx : Int} (hs : Jv e tx) : e.log.length + 1 + AR (e.log ++ [Ey (Da e tx) (Ae e.log (Da e tx).tx e.log.length)]) (e.log.length + 1) ≤ 150:=hs.room
set_option maxRecDepth 100000 in
set_option maxHeartbeats 8000000 in
theorem IL {w0 w : World} {e : Eng} {vd vm vl : Value} {tx : Int} (hs : Jv e tx) (hb : Below w0.heap.size w0 w) (hr : Aw w w0.heap.size vd vm vl e) : Calls Tryz.prog 85 #[e.ag vd vm vl, .int .i64 tx] w (Vu w0 w vm (AY e tx)):=by
 obtain ⟨Ad,cd,Am,cm,Al,cl,rfl,rfl,rfl,hcl,hrd⟩:=hr.reads
 obtain ⟨w1a,hw1a⟩ : ∃ w1a,w.alloc (e.obox (.slice Ad e.disk.length cd) (.slice Am e.mem.length cm) (.slice Al e.log.length cl)) = w1a:=⟨_,rfl⟩
 obtain ⟨w1,hw1⟩ : ∃ w1,w1a.alloc (zE.obox (.slice none 0 0) (.slice none 0 0) (.slice none 0 0)) = w1:=⟨_,rfl⟩
 have hza : w1a.heap.size = w.heap.size + 1:=by rw [← hw1a];exact BD _ _
 have hz1 : w1.heap.size = w.heap.size + 2:=by rw [← hw1,BD,hza]
 have hba : Below w1a.heap.size w1a w1:=by rw [← hw1];exact Aa (Below.refl _ _) _
 have hb1 : Below w.heap.size w w1:=by rw [← hw1, ← hw1a];exact Aa (Aa (Below.refl _ _) _) _
 have HQ1 : A7 (Ab w1 w.heap.size e (.slice Ad e.disk.length cd) (.slice Am e.mem.length cm) (.slice Al e.log.length cl)):=⟨Ab.up (by rw [← hw1a];exact Ab.mk1 _ _ _ _ _) hba⟩
 have HP1 : A7 (Ab w1 (w.heap.size + 1) zE (.slice none 0 0) (.slice none 0 0) (.slice none 0 0)):=⟨by rw [← hw1, ← hza];exact Ab.mk1 _ _ _ _ _⟩
 have HW1 : A7 ((w.alloc (e.obox (.slice Ad e.disk.length cd) (.slice Am e.mem.length cm) (.slice Al e.log.length cl))).alloc (zE.obox (.slice none 0 0) (.slice none 0 0) (.slice none 0 0)) = w1):=⟨by rw [hw1a,hw1]⟩
 have HZ1s:=As hz1
 have HB1:=As hb1
 have HB:=As hb
 have HO1:=As (hr.below hb1)
 have HC1:=As (hrd.up hb1)
 have HS:=As hs
 have hlg:=BA hs.log
 obtain ⟨ln,hln⟩ : ∃ ln : Nat,Ae e.log tx e.log.length = ln:=⟨_,rfl⟩
 have hlnl : ln ≤ e.log.length:=by rw [← hln];exact Bc _ _ _
 obtain ⟨k,hk⟩ : ∃ k : Nat,Bt e.log ln = k:=⟨_,rfl⟩
 have hkl : k ≤ e.log.length:=by rw [← hk];exact Nat.le_trans Gc hlnl
 have HLN:=As hln
 have HLL:=As hlnl
 have HK:=As hk
 obtain ⟨r,hnx⟩ : ∃ r,Da e tx = r:=⟨_,rfl⟩
 have HNX : A7 (r = if k = 0 then ⟨5,tx,0,0,0,0,0,0⟩ else Br (rc e.log (k - 1)) 0):=⟨by rw [← hnx];unfold Da;rw [show lastT e tx = ln from hln,hk]⟩
 have h1:=Rs hs
 have h2:=Uz hs
 have h3:=TI hs
 have hE : AY e tx = e.app r:=by unfold AY;rw [hnx]
 rw [hnx] at h1 h2 h3
 rw [hE]
 have HRT:=As h1
 have HLOG:=As h2
 have HROOM:=As h3
 have x0:=HQ1.out.c0
 have x1:=HQ1.out.c1
 have x2:=HQ1.out.c2
 have x3:=HQ1.out.c3
 have x4:=HQ1.out.c4
 have HGM:=As hs.geo
 clear hw1a hw1 hza hz1 hba hb1 hb hr hrd hs hln hlnl hk h1 h2 h3 hE hnx
 have hadd : ∀ wx vd' vm' vl',Aw wx w0.heap.size vd' vm' vl' e → Below w0.heap.size w0 wx → Calls Tryz.prog 119 #[e.ag vd' vm' vl',r.val] wx (Ig w0 wx vm' (e.app r) true):=fun wx vd' vm' vl' ho hb => ES r HGM.out HLOG.out HROOM.out HRT.out hb ho
 have HADD:=As hadd
 have hback : ∀ wx,Below w1.heap.size w1 wx → Calls Tryz.prog 96 #[.slice Al e.log.length cl, .int .i64 ln] wx fun x w' => x = .returned (.int .i64 k) ∧ Below w1.heap.size w1 w':=fun wx hb => by
  have:=Ep (c:=cl) HLL.out hb HC1.out.l HS.out.log
  rw [HK.out] at this
  exact this
 have HBACK:=As hback
 obtain ⟨E,hEE⟩ : ∃ E,e.app r = E:=⟨_,rfl⟩
 have HEE:=As hEE
 rw [hEE]
 clear hadd hback hEE
 rcases k with _ | k
 ·have hr0 : r = ⟨5,tx,0,0,0,0,0,0⟩:=by rw [HNX.out,if_pos rfl]
  have HR0:=As hr0
  clear hr0
  go_enter Tryz.func85,Tryz.ntmps85
  go_wp2_with (first
   | (go_at_call 93;rw [show (w.alloc (Obj.cells #[Value.slice Ad e.disk.length cd,Value.slice Am e.mem.length cm,Value.slice Al e.log.length cl,Value.int IntKind.i64 e.safe,Value.bool e.down] 26)).alloc (Obj.cells #[Value.slice none 0 0,Value.slice none 0 0,Value.slice none 0 0,Value.int IntKind.i64 0,Value.bool false] 26) = w1 from HW1.out];refine (Dn (c:=cl) HLN.out (Below.refl w1.heap.size w1) HC1.out.l).mono ?_;rintro x w' ⟨rfl,rfl⟩)
   | (go_at_call 96;refine (HBACK.out _ (Below.refl _ _)).mono ?_;rintro x w2 ⟨rfl,hb2⟩;have HB2:=As hb2;replace x0:=bc hb2 x0;replace x1:=bc hb2 x1;replace x2:=bc hb2 x2;replace x3:=bc hb2 x3;replace x4:=bc hb2 x4;clear hb2)
   | (go_at_call 119;have h:=HADD.out w2 _ _ _ (HO1.out.below HB2.out) (bj HB.out (bj HB1.out HB2.out));rw [HR0.out] at h;refine h.mono ?_;rw [← HR0.out,HEE.out];clear h;rintro x w3 ⟨ud,um,ul,rfl,ho,hb3,hk3⟩;obtain ⟨Bd,dd,Bm,dm,Bl,dl,rfl,rfl,rfl, -, -⟩:=ho.reads;have HO3:=As ho;have HB3:=As hb3;have HP3:=As ((HP1.out.up HB2.out).GQ (HO1.out.below HB2.out) hk3);have HK3:=As ((Kept.of_below (bj HB1.out HB2.out) (fun k => some k = (Value.slice Am e.mem.length cm).ownBlock)).Ce hk3 (fun k hk => .inl hk));have HN3:=As hk3.1;clear ho hb3 hk3 x0 x1 x2 x3 x4)
   | (refine Ca (vd:=.slice Bd E.disk.length dd) (vm:=.slice Bm E.mem.length dm) (vl:=.slice Bl E.log.length dl) E ?_;intro w4 hb4 _ hq4;have HO4:=As (HO3.out.below hb4);have HB4:=As (bj HB3.out hb4);have HK4:=As (HK3.out.below hb4);have hp4:=HP3.out.up hb4;have HP4:=As hp4;have x0:=hq4.c0;have x1:=hq4.c1;have x2:=hq4.c2;have x3:=hq4.c3;have x4:=hq4.c4;have y0:=hp4.c0;have y1:=hp4.c1;have y2:=hp4.c2;have y3:=hp4.c3;have y4:=hp4.c4;have f0:=hp4.frz 0;have f1:=hp4.frz 1;have f2:=hp4.frz 2;have f3:=hp4.frz 3;have f4:=hp4.frz 4;clear hb4 hq4 hp4))
  have hy:=HP4.out.Ap E (.slice Bd E.disk.length dd) (.slice Bm E.mem.length dm) (.slice Bl E.log.length dl)
  have h1:=HO4.out.Ap (f:=E) (xd:=.slice Bd E.disk.length dd) (xm:=.slice Bm E.mem.length dm) (xl:=.slice Bl E.log.length dl) HP4.out
  have h2:=Aj (g:=w.heap.size + 1) HB4.out (by have:=HB.out.size;omega) E (.slice Bd E.disk.length dd) (.slice Bm E.mem.length dm) (.slice Bl E.log.length dl)
  have h3:=CS (g:=w.heap.size + 1) HK4.out (by omega) E (.slice Bd E.disk.length dd) (.slice Bm E.mem.length dm) (.slice Bl E.log.length dl)
  have z0:=hy.c0
  have z1:=hy.c1
  have z2:=hy.c2
  have z3:=hy.c3
  have z4:=hy.c4
  exact bodyPost_ret (v:=E.ag (.slice Bd E.disk.length dd) (.slice Bm E.mem.length dm) (.slice Bl E.log.length dl)) (by simp [results,Tryz.results85,go_sem,z0,z1,z2,z3,z4]) rfl ⟨_,_,_,rfl,h1,h2,h3⟩
 ·have hkk : k < e.log.length:=by omega
  obtain ⟨rb,hrb⟩ : ∃ rb,Br (rc e.log k) (ln : Int) = rb:=⟨_,rfl⟩
  have hr0 : rb = Ey r (ln : Int):=by rw [HNX.out,if_neg (by omega),Nat.add_sub_cancel, ← hrb];rfl
  have HRB:=As hrb
  have HADD2 : A7 (∀ wx,Aw wx w0.heap.size (.slice Ad e.disk.length cd) (.slice Am e.mem.length cm) (.slice Al e.log.length cl) e → Below w0.heap.size w0 wx → Calls Tryz.prog 119 #[e.val Ad Am Al cd cm cl,rb.val] wx (Ig w0 wx (.slice Am e.mem.length cm) E true)):=⟨fun wx ho hb => by
   rw [hr0, ← HEE.out]
   exact ES (Ey r (ln : Int)) HGM.out HLOG.out HROOM.out HRT.out hb ho⟩
  have hwr0 : IntKind.i64.wrap (k : Int) = (k : Int):=by simp (disch:=omega) only [IntWalk.i64_in]
  have hwr1 : IntKind.i64.wrap ((k : Int) + 1 - 1) = (k : Int):=by rw [show ((k : Int) + 1 - 1) = (k : Int) by omega];exact hwr0
  have hwr2 : IntKind.i64.wrap (((k + 1 : Nat) : Int) - 1) = (k : Int):=by rw [show (((k + 1 : Nat) : Int) - 1) = (k : Int) by omega];exact hwr0
  obtain ⟨ad,had, -⟩:=Cs HC1.out.l k hkk
  subst had
  clear hrb hr0
  go_enter Tryz.func85,Tryz.ntmps85
  go_wp2_with (first
   | (go_at_call 93;rw [show (w.alloc (Obj.cells #[Value.slice Ad e.disk.length cd,Value.slice Am e.mem.length cm,Value.slice (some ad) e.log.length cl,Value.int IntKind.i64 e.safe,Value.bool e.down] 26)).alloc (Obj.cells #[Value.slice none 0 0,Value.slice none 0 0,Value.slice none 0 0,Value.int IntKind.i64 0,Value.bool false] 26) = w1 from HW1.out];refine (Dn (c:=cl) HLN.out (Below.refl w1.heap.size w1) HC1.out.l).mono ?_;rintro x w' ⟨rfl,rfl⟩)
   | (go_at_call 96;refine (HBACK.out _ (Below.refl _ _)).mono ?_;rintro x w2 ⟨rfl,hb2⟩;have HB2:=As hb2;replace x0:=bc hb2 x0;replace x1:=bc hb2 x1;replace x2:=bc hb2 x2;replace x3:=bc hb2 x3;replace x4:=bc hb2 x4;clear hb2))
  have HO2:=As (HO1.out.below HB2.out)
  have HQ2:=As (HQ1.out.up HB2.out)
  have HP2:=As (HP1.out.up HB2.out)
  have HW2:=As (bj HB1.out HB2.out)
  have HZ2 : A7 (w.heap.size + 2 ≤ w2.heap.size):=⟨by have:=HZ1s.out;have:=HB2.out.size;omega⟩
  clear x0 x1 x2 x3 x4
  refine Bo (fun lx a wx => (Below w0.heap.size w0 wx ∧ IC w2 (.slice Am e.mem.length cm) wx) ∧ (Un 9 (fun wx => Below w2.heap.size w2 wx) lx a wx ∧ (Sl 9 39 (fun v wx => ∃ ud um ul,v = .tuple #[E.ag ud um ul, .bool true] ∧ Aw wx w0.heap.size ud um ul E) lx a wx ∧ (Pre 14 13 9 (fun _ => True) (fun v wx => ∃ B,v = ptr B ∧ w2.heap.size ≤ B ∧ Ab wx B zE (.slice none 0 0) (.slice none 0 0) (.slice none 0 0)) lx a wx ∧ Sl 14 9 (fun v wx => ∃ B ud um ul,v = ptr B ∧ w2.heap.size ≤ B ∧ Ab wx B E ud um ul ∧ Aw wx w0.heap.size ud um ul E) lx a wx)))) 16 rfl (by kernel_rfl) (⟨⟨Ac (bj HB.out HW2.out),Kept.drew (Kept.refl _ _)⟩,fun _ => Ac (Below.refl _ _),Bp,FE trivial,Bp⟩) (fun HT => ?_)
  refine Bw [0,1,2,3,4,5,6,7] ?_
  iterate 8 (refine Bq (v:=?_) HT rfl (by kernel_rfl) rfl (kA Ah (kA (Bj rfl) (kA (Ak rfl rfl) (kA (Cf rfl rfl rfl) (Ak rfl rfl))))) (by rfl) (fun _ _ _ h => h) (fun lx ax wx hS => ?_) ?_;rotate_left;(have hk:=hS.1.2;clear hS;have hq:=HQ2.out.GQ HO2.out hk;have x0:=hq.c0;have x1:=hq.c1;have x2:=hq.c2;have x3:=hq.c3;have x4:=hq.c4;obtain ⟨ad',he',QR⟩:=Cs (HO2.out.XI hk) k hkk;(injection he' with he';subst he');obtain ⟨z0,z1,z2,z3,z4,z5,z6,z7⟩:=QR;go_simp;with_reducible rfl);rotate_left;simp only [sc0,sc1])
  refine Bv ?_
  refine JH (i:=8) (f:=97) (v:=rb.val) (args:=#[(rc e.log k).val, .int .i64 ln]) HT rfl (by kernel_rfl) rfl Tryz.func97 (by kernel_rfl) rfl rfl (kA Ah (kA (Bj rfl) (kA (Ak rfl rfl) (kA (Cf rfl rfl rfl) (Ak rfl rfl))))) (by rfl) (fun _ _ _ h => h) (by simp only [List.map_toArray,List.map_cons,List.map_nil];rfl) (fun lx ax wx hS => (HRB.out ▸ Lm (rc e.log k) (ln : Int) wx : Calls Tryz.prog 97 #[(rc e.log k).val, .int .i64 ln] wx fun e w' => e = .returned rb.val ∧ Below wx.heap.size wx w').mono fun _ w' h => ⟨h.1,⟨bj hS.1.1 h.2,hS.1.2.below h.2⟩,fun h9 => bj (hS.2.1 h9) h.2,fun h9 => (hS.2.2.1 h9).elim fun a' q => q.elim fun b' q => q.elim fun c' q => ⟨a',b',c',q.1,q.2.below h.2⟩,fun h9 => ⟨trivial,fun h8 => ((hS.2.2.2.1 h9).2 h8).elim fun B q => ⟨B,q.1,q.2.1,q.2.2.up h.2⟩⟩,fun h9 => (hS.2.2.2.2 h9).elim fun B q => q.elim fun a' q => q.elim fun b' q => q.elim fun c' q => ⟨B,a',b',c',q.1,q.2.1,q.2.2.1.up h.2,q.2.2.2.below h.2⟩⟩) ?_;simp only [sc0,sc1]
  apply Rx
  ·intro hrest
   refine AJ [9,13] (by kernel_rfl) (fun i hi wx hS => ?_)
   rcases List.mem_cons.1 hi with rfl | hi
   ·clear hi
    refine Cz (f:=119) (args:=#[e.val Ad Am (some ad) cd cm cl,rb.val]) rfl rfl Tryz.func119 (by kernel_rfl) rfl rfl (by rfl) (by simp only [List.map_toArray,List.map_cons,List.map_nil];rfl) ((HADD2.out wx (HO2.out.below (hS.2.1 (by kernel_rfl))) hS.1.1).mono ?_)
    rintro x w6 ⟨ud,um,ul,rfl,ho,hb,hk⟩
    refine ⟨_,rfl,⟨⟨hb,hS.1.2.Ce hk (fun k hk => .inl hk)⟩,fun h => (Ao (by kernel_rfl) h).elim,fun _ => ⟨ud,um,ul,rfl,ho⟩,fun _ => ⟨trivial,fun h => (Ao h (by kernel_rfl)).elim⟩,fun h => (Ao h (by kernel_rfl)).elim⟩,?_⟩
    clear hS ho hb hk
    simp only [sc0,sc1]
    refine Bw [10,11,12] ?_
    iterate 3 (refine Bq (v:=?_) HT rfl (by kernel_rfl) rfl (kA Ah (kA (Bj rfl) (kA (Ak rfl rfl) (kA (Cf rfl rfl rfl) (Ak rfl rfl))))) (by rfl) (fun _ _ _ h => h) (fun lx ax wx hS => ?_) ?_;rotate_left;(go_simp;with_reducible rfl);rotate_left;simp only [sc0,sc1])
    refine Bv ?_
    refine AJ [13] (by kernel_rfl) (fun i hi wx hS => ?_)
    obtain rfl:=List.mem_singleton.1 hi
    clear hi
    have hbx : Below wx.heap.size wx (wx.alloc (zE.obox (.slice none 0 0) (.slice none 0 0) (.slice none 0 0))):=Aa (Below.refl _ _) _
    refine BG (w1:=wx.alloc (zE.obox (.slice none 0 0) (.slice none 0 0) (.slice none 0 0))) (ptr wx.heap.size) rfl rfl (by rfl) (by go_simp;rfl) ?_
    refine ⟨⟨⟨bj hS.1.1 hbx,hS.1.2.below hbx⟩,fun h => (Ao (by kernel_rfl) h).elim,fun _ => (hS.2.2.1 (by kernel_rfl)).elim fun a' h' => h'.elim fun b' h' => h'.elim fun c' h' => ⟨a',b',c',h'.1,h'.2.below hbx⟩,fun _ => ⟨trivial,fun _ => ⟨wx.heap.size,rfl,hS.1.2.1,Ab.mk1 wx zE _ _ _⟩⟩,fun h => (Ao h (by kernel_rfl)).elim⟩,?_⟩
    obtain ⟨B,hB⟩ : ∃ B,wx.heap.size = B:=⟨_,rfl⟩
    rw [hB]
    clear hB hS hbx
    simp only [sc0,sc1]
    exact ED (done := [13,12,11,10,9,8,7,6,5,4,3,2,1,0]) (by kernel_rfl) (hrest ud um ul B)
   ·obtain rfl:=List.mem_singleton.1 hi
    clear hi
    have hbx : Below wx.heap.size wx (wx.alloc (zE.obox (.slice none 0 0) (.slice none 0 0) (.slice none 0 0))):=Aa (Below.refl _ _) _
    refine BG (w1:=wx.alloc (zE.obox (.slice none 0 0) (.slice none 0 0) (.slice none 0 0))) (ptr wx.heap.size) rfl rfl (by rfl) (by go_simp;rfl) ?_
    refine ⟨⟨⟨bj hS.1.1 hbx,hS.1.2.below hbx⟩,fun h => bj (hS.2.1 h) hbx,fun h => (Ao h (by kernel_rfl)).elim,fun _ => ⟨trivial,fun _ => ⟨wx.heap.size,rfl,hS.1.2.1,Ab.mk1 wx zE _ _ _⟩⟩,fun h => (Ao h (by kernel_rfl)).elim⟩,?_⟩
    obtain ⟨B,hB⟩ : ∃ B,wx.heap.size = B:=⟨_,rfl⟩
    rw [hB]
    clear hB hS hbx
    simp only [sc0,sc1]
    refine AJ [9] (by kernel_rfl) (fun i hi wx hS => ?_)
    obtain rfl:=List.mem_singleton.1 hi
    clear hi
    refine Cz (f:=119) (args:=#[e.val Ad Am (some ad) cd cm cl,rb.val]) rfl rfl Tryz.func119 (by kernel_rfl) rfl rfl (by rfl) (by simp only [List.map_toArray,List.map_cons,List.map_nil];rfl) ((HADD2.out wx (HO2.out.below (hS.2.1 (by kernel_rfl))) hS.1.1).mono ?_)
    rintro x w6 ⟨ud,um,ul,rfl,ho,hb,hk⟩
    refine ⟨_,rfl,⟨⟨hb,hS.1.2.Ce hk (fun k hk => .inl hk)⟩,fun h => (Ao (by kernel_rfl) h).elim,fun _ => ⟨ud,um,ul,rfl,ho⟩,fun _ => ⟨trivial,fun _ => ((hS.2.2.2.1 (by kernel_rfl)).2 (by kernel_rfl)).elim fun B' h' => ⟨B',h'.1,h'.2.1,h'.2.2.GQ (HO2.out.below (hS.2.1 (by kernel_rfl))) hk⟩⟩,fun h => (Ao h (by kernel_rfl)).elim⟩,?_⟩
    clear hS ho hb hk
    simp only [sc0,sc1]
    refine Bw [10,11,12] ?_
    iterate 3 (refine Bq (v:=?_) HT rfl (by kernel_rfl) rfl (kA Ah (kA (Bj rfl) (kA (Ak rfl rfl) (kA (Cf rfl rfl rfl) (Ak rfl rfl))))) (by rfl) (fun _ _ _ h => h) (fun lx ax wx hS => ?_) ?_;rotate_left;(go_simp;with_reducible rfl);rotate_left;simp only [sc0,sc1])
    refine Bv ?_
    exact ED (done := [13,12,11,10,9,8,7,6,5,4,3,2,1,0]) (by kernel_rfl) (hrest ud um ul B)
  intro ud um ul B
  refine AJ [14] (by kernel_rfl) (fun i hi wx hS => ?_)
  obtain rfl:=List.mem_singleton.1 hi
  clear hi
  obtain ⟨⟨h1,h2⟩, -,h3,h4, -⟩:=hS
  obtain ⟨ud',um',ul',hu',hown⟩:=h3 (by kernel_rfl)
  have hu' : Value.tuple #[E.ag ud um ul, .bool true] = .tuple #[E.ag ud' um' ul', .bool true]:=hu'
  obtain ⟨rfl,rfl,rfl⟩ : ud = ud' ∧ um = um' ∧ ul = ul':=by simpa using hu'
  obtain ⟨B',hB',hN,hP⟩:=(h4 (by kernel_rfl)).2 (by kernel_rfl)
  have hB' : ptr B = ptr B':=hB'
  obtain rfl : B = B':=by simpa using hB'
  obtain ⟨Bd,dd,Bm,dm,Bl,dl,rfl,rfl,rfl, -, -⟩:=hown.reads
  have y0:=hP.c0
  have y1:=hP.c1
  have y2:=hP.c2
  have y3:=hP.c3
  have y4:=hP.c4
  have f0:=hP.frz 0
  have f1:=hP.frz 1
  have f2:=hP.frz 2
  have f3:=hP.frz 3
  have f4:=hP.frz 4
  refine BH (w1:=Go.Proofs.YtjeodgfkilhkhaaGreat.Ap wx B E (.slice Bd E.disk.length dd) (.slice Bm E.mem.length dm) (.slice Bl E.log.length dl)) rfl (by rfl) (by go_simp) ?_
  have hP5:=hP.Ap E (.slice Bd E.disk.length dd) (.slice Bm E.mem.length dm) (.slice Bl E.log.length dl)
  have ho5:=hown.Ap (f:=E) (xd:=.slice Bd E.disk.length dd) (xm:=.slice Bm E.mem.length dm) (xl:=.slice Bl E.log.length dl) hP
  have hb5:=Aj (g:=B) h1 (by have:=HB.out.size;have:=HZ2.out;omega) E (.slice Bd E.disk.length dd) (.slice Bm E.mem.length dm) (.slice Bl E.log.length dl)
  have hk5:=CS (g:=B) h2 hN E (.slice Bd E.disk.length dd) (.slice Bm E.mem.length dm) (.slice Bl E.log.length dl)
  refine ⟨⟨⟨hb5,hk5⟩,fun h => (Ao (by kernel_rfl) h).elim,fun _ => ⟨_,_,_,rfl,ho5⟩,fun h => (Ao (by kernel_rfl) h).elim,fun _ => ⟨B,_,_,_,rfl,hN,hP5,ho5⟩⟩,?_⟩
  clear h1 h2 h3 h4 hu' hown hB' hN hP y0 y1 y2 y3 y4 f0 f1 f2 f3 f4 hP5 ho5 hb5 hk5
  refine CZ (i:=15) (v:=?_) HT rfl (by kernel_rfl) rfl (kA Ah (kA (Bj rfl) (kA (Ak rfl rfl) (kA (Cf rfl rfl rfl) (Ak rfl rfl))))) (by rfl) (fun _ _ _ h => h) (fun lx ax wx hS => ?_) ?_;rotate_left;(go_simp;with_reducible rfl);rotate_left;simp only [sc0,sc1]
  refine GU (by kernel_rfl) (fun w5 hS => ?_)
  obtain ⟨⟨hb5,hk5⟩, -, -, -,h4⟩:=hS
  obtain ⟨B',ud',um',ul',hB',hN,hP5,ho5⟩:=h4 (by kernel_rfl)
  have hB' : ptr B = ptr B':=hB'
  obtain rfl : B = B':=by simpa using hB'
  obtain ⟨Ed,n1,Em,n2,El,n3,rfl,rfl,rfl, -, -⟩:=ho5.reads
  have hp:=HP2.out.GQ HO2.out hk5
  have y0:=hp.c0
  have y1:=hp.c1
  have y2:=hp.c2
  have y3:=hp.c3
  have y4:=hp.c4
  have f0:=hp.frz 0
  have f1:=hp.frz 1
  have f2:=hp.frz 2
  have f3:=hp.frz 3
  have f4:=hp.frz 4
  have x0:=hP5.c0
  have x1:=hP5.c1
  have x2:=hP5.c2
  have x3:=hP5.c3
  have x4:=hP5.c4
  have HX:=As (And.intro hb5 (And.intro hk5 (And.intro ho5 hp)))
  clear h4 hB' hN hP5 ho5 hb5 hk5 hp
  go_wp2
  have hy:=HX.out.2.2.2.Ap E (.slice Ed E.disk.length n1) (.slice Em E.mem.length n2) (.slice El E.log.length n3)
  have h1:=HX.out.2.2.1.Ap (f:=E) (xd:=.slice Ed E.disk.length n1) (xm:=.slice Em E.mem.length n2) (xl:=.slice El E.log.length n3) HX.out.2.2.2
  have h2:=Aj (g:=w.heap.size + 1) HX.out.1 (by have:=HB.out.size;omega) E (.slice Ed E.disk.length n1) (.slice Em E.mem.length n2) (.slice El E.log.length n3)
  have h3:=CS (g:=w.heap.size + 1) ((Kept.of_below HW2.out (fun k => some k = (Value.slice Am e.mem.length cm).ownBlock)).Ce HX.out.2.1 (fun k hk => .inl hk)) (by omega) E (.slice Ed E.disk.length n1) (.slice Em E.mem.length n2) (.slice El E.log.length n3)
  have z0:=hy.c0
  have z1:=hy.c1
  have z2:=hy.c2
  have z3:=hy.c3
  have z4:=hy.c4
  exact bodyPost_ret (v:=E.ag (.slice Ed E.disk.length n1) (.slice Em E.mem.length n2) (.slice El E.log.length n3)) (by simp [results,Tryz.results85,go_sem,z0,z1,z2,z3,z4]) rfl ⟨_,_,_,rfl,h1,h2,h3⟩
set_option maxRecDepth 100000 in
set_option maxHeartbeats 16000000 in
theorem Pk {w0 w : World} {e : Eng} {C : Nat → Page} {B : Nat} {vd vm vl : Value} (tx page slot val : Int) (hi : Inv e C B) (hB : B + 3 ≤ 150) (hb : Below w0.heap.size w0 w) (hr : Aw w w0.heap.size vd vm vl e) : Calls Tryz.prog 136 #[e.ag vd vm vl, .int .i64 tx, .int .i64 page, .int .i64 slot, .int .i64 val] w (Ig w0 w vm (TQ e tx page slot val).1 (TQ e tx page slot val).2):=by
 have hFE : TQ e tx page slot val = if RA e tx page slot val = true then (e.app (TP e tx page slot val),true) else (e,false):=Inv.Pw (fun hp => hi.Xu hB hp)
 obtain ⟨Ad,cd,Am,cm,Al,cl,rfl,rfl,rfl,hcl,hrd⟩:=hr.reads
 obtain ⟨w1a,hw1a⟩ : ∃ w1a,w.alloc (e.obox (.slice Ad e.disk.length cd) (.slice Am e.mem.length cm) (.slice Al e.log.length cl)) = w1a:=⟨_,rfl⟩
 obtain ⟨w1,hw1⟩ : ∃ w1,w1a.alloc (zE.obox (.slice none 0 0) (.slice none 0 0) (.slice none 0 0)) = w1:=⟨_,rfl⟩
 have hza : w1a.heap.size = w.heap.size + 1:=by rw [← hw1a];exact BD _ _
 have hz1 : w1.heap.size = w.heap.size + 2:=by rw [← hw1,BD,hza]
 have hba : Below w1a.heap.size w1a w1:=by rw [← hw1];exact Aa (Below.refl _ _) _
 have hb1 : Below w.heap.size w w1:=by rw [← hw1, ← hw1a];exact Aa (Aa (Below.refl _ _) _) _
 have HQ1 : A7 (Ab w1 w.heap.size e (.slice Ad e.disk.length cd) (.slice Am e.mem.length cm) (.slice Al e.log.length cl)):=⟨Ab.up (by rw [← hw1a];exact Ab.mk1 _ _ _ _ _) hba⟩
 have HP1 : A7 (Ab w1 (w.heap.size + 1) zE (.slice none 0 0) (.slice none 0 0) (.slice none 0 0)):=⟨by rw [← hw1, ← hza];exact Ab.mk1 _ _ _ _ _⟩
 have HW1 : A7 ((w.alloc (Obj.cells #[Value.slice Ad e.disk.length cd,Value.slice Am e.mem.length cm,Value.slice Al e.log.length cl,Value.int IntKind.i64 e.safe,Value.bool e.down] 26)).alloc (Obj.cells #[Value.slice none 0 0,Value.slice none 0 0,Value.slice none 0 0,Value.int IntKind.i64 0,Value.bool false] 26) = w1):=⟨by rw [← hw1, ← hw1a];rfl⟩
 have HZ1:=As hz1
 have HB1:=As hb1
 have HB:=As hb
 have HO1:=As (hr.below hb1)
 have HC1:=As (hrd.up hb1)
 have HI:=As hi
 have HBB:=As hB
 have x0:=HQ1.out.c0
 have x1:=HQ1.out.c1
 have x2:=HQ1.out.c2
 have x3:=HQ1.out.c3
 have x4:=HQ1.out.c4
 clear hw1a hw1 hza hz1 hba hb1 hb hr hrd hB
 obtain ⟨m,hm⟩ : ∃ m,M4 e tx page = m:=⟨_,rfl⟩
 have HM:=As hm
 have HFE:=As hFE
 clear hm hi hFE
 cases m
 ·rw [HFE.out,if_neg (by rw [RA,HM.out];simp)]
  go_enter Tryz.func136,Tryz.ntmps136
  go_wp2_with (first
   | (go_at_call 152;rw [show (w.alloc (Obj.cells #[Value.slice Ad e.disk.length cd,Value.slice Am e.mem.length cm,Value.slice Al e.log.length cl,Value.int IntKind.i64 e.safe,Value.bool e.down] 26)).alloc (Obj.cells #[Value.slice none 0 0,Value.slice none 0 0,Value.slice none 0 0,Value.int IntKind.i64 0,Value.bool false] 26) = w1 from HW1.out];refine (BP (cd:=cd) (cm:=cm) (cl:=cl) tx page HM.out HI.out.core (Below.refl w1.heap.size w1) HC1.out).mono ?_;rintro x w2 ⟨rfl,hb2⟩;replace x0:=bc hb2 x0;replace x1:=bc hb2 x1;replace x2:=bc hb2 x2;replace x3:=bc hb2 x3;replace x4:=bc hb2 x4;have HO2:=As (HO1.out.below hb2);have HB2:=As (bj HB1.out hb2);have hp:=HP1.out.up hb2;have HP2:=As hp;have y0:=hp.c0;have y1:=hp.c1;have y2:=hp.c2;have y3:=hp.c3;have y4:=hp.c4;have f0:=hp.frz 0;have f1:=hp.frz 1;have f2:=hp.frz 2;have f3:=hp.frz 3;have f4:=hp.frz 4;clear hp hb2))
  have hz:=HZ1.out
  have hs0:=HB.out.size
  have hy:=HP2.out.Ap e (.slice Ad e.disk.length cd) (.slice Am e.mem.length cm) (.slice Al e.log.length cl)
  have h1:=HO2.out.Ap (f:=e) (xd:=.slice Ad e.disk.length cd) (xm:=.slice Am e.mem.length cm) (xl:=.slice Al e.log.length cl) HP2.out
  have h2:=Aj (g:=w.heap.size + 1) (bj HB.out HB2.out) (by omega) e (.slice Ad e.disk.length cd) (.slice Am e.mem.length cm) (.slice Al e.log.length cl)
  have h3:=CS (g:=w.heap.size + 1) (Kept.of_below HB2.out (fun k => some k = (Value.slice Am e.mem.length cm).ownBlock)) (by omega) e (.slice Ad e.disk.length cd) (.slice Am e.mem.length cm) (.slice Al e.log.length cl)
  have z0:=hy.c0
  have z1:=hy.c1
  have z2:=hy.c2
  have z3:=hy.c3
  have z4:=hy.c4
  exact bodyPost_ret (v:=.tuple #[e.ag (.slice Ad e.disk.length cd) (.slice Am e.mem.length cm) (.slice Al e.log.length cl), .bool false]) (by simp [results,Tryz.results136,go_sem,z0,z1,z2,z3,z4]) rfl ⟨_,_,_,rfl,h1,h2,h3⟩
 have hmp:=(Gu.1 HM.out).2.2.1
 obtain ⟨p,rfl⟩ : ∃ p : Nat,page = (p : Int):=⟨page.toNat,by omega⟩
 have hp5 : p < 5:=by omega
 have hp5i : (p : Int) < 5:=by omega
 have hgm:=AZ HI.out.Mk
 have hmem5:=hgm.1
 obtain ⟨okd,okm, -, -,hpm⟩:=HO1.out.ex
 obtain ⟨gm,capm,hAm, -, -⟩:=D9 hpm (by omega)
 injection hAm with hA1 _ hA3
 subst hA1 hA3
 have hpl : p < e.mem.length:=by omega
 have hpli : (p : Int) < (e.mem.length : Int):=by omega
 obtain ⟨A2,c2,p0,p1,p2,pC, -⟩:=F4 hpm p hpl
 have hv3 : (pg e.mem p).vals.length = 3:=Ia hgm hp5
 have HMF:=As (Gu.1 HM.out).1
 have HGM:=As hgm
 have HPC:=As pC
 have HP5:=As hp5
 obtain ⟨P,hP⟩ : ∃ P,pg e.mem p = P:=⟨_,rfl⟩
 have HPP:=As hP
 rw [hP] at p0 p1 p2 HPC hv3
 have HFB : A7 (RA e tx (p : Int) slot val = true ↔ P.owner ≠ 0 ∧ inB slot 0 2 = true ∧ inB val 0 9 = true):=⟨by rw [RA,HM.out,Int.toNat_natCast,hP];simp⟩
 clear hmp hgm hpm pC hP hmem5
 cases h1 : inB slot 0 2
 ·have H1:=As h1
  rw [HFE.out,if_neg (fun h => by have:=(HFB.out.1 h).2.1;rw [h1] at this;cases this)]
  clear h1 hv3
  go_enter Tryz.func136,Tryz.ntmps136
  go_wp2_with (first
   | (go_at_call 152;rw [show (w.alloc (Obj.cells #[Value.slice Ad e.disk.length cd,Value.slice (some ⟨gm,0,none⟩) e.mem.length cm,Value.slice Al e.log.length cl,Value.int IntKind.i64 e.safe,Value.bool e.down] 26)).alloc (Obj.cells #[Value.slice none 0 0,Value.slice none 0 0,Value.slice none 0 0,Value.int IntKind.i64 0,Value.bool false] 26) = w1 from HW1.out];refine (BP (cd:=cd) (cm:=cm) (cl:=cl) tx (p : Int) HM.out HI.out.core (Below.refl w1.heap.size w1) HC1.out).mono ?_;rintro x w2 ⟨rfl,hb2⟩;replace x0:=bc hb2 x0;replace x1:=bc hb2 x1;replace x2:=bc hb2 x2;replace x3:=bc hb2 x3;replace x4:=bc hb2 x4;replace p1:=bc hb2 p1;have HO2:=As (HO1.out.below hb2);have HB2:=As (bj HB1.out hb2);have hp:=HP1.out.up hb2;have HP2:=As hp;have y0:=hp.c0;have y1:=hp.c1;have y2:=hp.c2;have y3:=hp.c3;have y4:=hp.c4;have f0:=hp.frz 0;have f1:=hp.frz 1;have f2:=hp.frz 2;have f3:=hp.frz 3;have f4:=hp.frz 4;clear hp hb2)
   | (go_at_call 53;refine (AX _ _ _ _).mono ?_;(first | rw [H1.out]);rintro x w' ⟨rfl,rfl⟩))
  have hz:=HZ1.out
  have hs0:=HB.out.size
  have hy:=HP2.out.Ap e (.slice Ad e.disk.length cd) (.slice (some ⟨gm,0,none⟩) e.mem.length cm) (.slice Al e.log.length cl)
  have h1:=HO2.out.Ap (f:=e) (xd:=.slice Ad e.disk.length cd) (xm:=.slice (some ⟨gm,0,none⟩) e.mem.length cm) (xl:=.slice Al e.log.length cl) HP2.out
  have h2:=Aj (g:=w.heap.size + 1) (bj HB.out HB2.out) (by omega) e (.slice Ad e.disk.length cd) (.slice (some ⟨gm,0,none⟩) e.mem.length cm) (.slice Al e.log.length cl)
  have h3:=CS (g:=w.heap.size + 1) (Kept.of_below HB2.out (fun k => some k = (Value.slice (some ⟨gm,0,none⟩) e.mem.length cm).ownBlock)) (by omega) e (.slice Ad e.disk.length cd) (.slice (some ⟨gm,0,none⟩) e.mem.length cm) (.slice Al e.log.length cl)
  have z0:=hy.c0
  have z1:=hy.c1
  have z2:=hy.c2
  have z3:=hy.c3
  have z4:=hy.c4
  exact bodyPost_ret (v:=.tuple #[e.ag (.slice Ad e.disk.length cd) (.slice (some ⟨gm,0,none⟩) e.mem.length cm) (.slice Al e.log.length cl), .bool false]) (by simp [results,Tryz.results136,go_sem,z0,z1,z2,z3,z4]) rfl ⟨_,_,_,rfl,h1,h2,h3⟩
 have H1:=As h1
 cases h2 : inB val 0 9
 ·have H2:=As h2
  rw [HFE.out,if_neg (fun h => by have:=(HFB.out.1 h).2.2;rw [h2] at this;cases this)]
  clear h1 h2 hv3
  go_enter Tryz.func136,Tryz.ntmps136
  go_wp2_with (first
   | (go_at_call 152;rw [show (w.alloc (Obj.cells #[Value.slice Ad e.disk.length cd,Value.slice (some ⟨gm,0,none⟩) e.mem.length cm,Value.slice Al e.log.length cl,Value.int IntKind.i64 e.safe,Value.bool e.down] 26)).alloc (Obj.cells #[Value.slice none 0 0,Value.slice none 0 0,Value.slice none 0 0,Value.int IntKind.i64 0,Value.bool false] 26) = w1 from HW1.out];refine (BP (cd:=cd) (cm:=cm) (cl:=cl) tx (p : Int) HM.out HI.out.core (Below.refl w1.heap.size w1) HC1.out).mono ?_;rintro x w2 ⟨rfl,hb2⟩;replace x0:=bc hb2 x0;replace x1:=bc hb2 x1;replace x2:=bc hb2 x2;replace x3:=bc hb2 x3;replace x4:=bc hb2 x4;replace p1:=bc hb2 p1;have HO2:=As (HO1.out.below hb2);have HB2:=As (bj HB1.out hb2);have hp:=HP1.out.up hb2;have HP2:=As hp;have y0:=hp.c0;have y1:=hp.c1;have y2:=hp.c2;have y3:=hp.c3;have y4:=hp.c4;have f0:=hp.frz 0;have f1:=hp.frz 1;have f2:=hp.frz 2;have f3:=hp.frz 3;have f4:=hp.frz 4;clear hp hb2)
   | (go_at_call 53;refine (AX _ _ _ _).mono ?_;(first | rw [H1.out] | rw [H2.out]);rintro x w' ⟨rfl,rfl⟩))
  have hz:=HZ1.out
  have hs0:=HB.out.size
  have hy:=HP2.out.Ap e (.slice Ad e.disk.length cd) (.slice (some ⟨gm,0,none⟩) e.mem.length cm) (.slice Al e.log.length cl)
  have h1:=HO2.out.Ap (f:=e) (xd:=.slice Ad e.disk.length cd) (xm:=.slice (some ⟨gm,0,none⟩) e.mem.length cm) (xl:=.slice Al e.log.length cl) HP2.out
  have h2:=Aj (g:=w.heap.size + 1) (bj HB.out HB2.out) (by omega) e (.slice Ad e.disk.length cd) (.slice (some ⟨gm,0,none⟩) e.mem.length cm) (.slice Al e.log.length cl)
  have h3:=CS (g:=w.heap.size + 1) (Kept.of_below HB2.out (fun k => some k = (Value.slice (some ⟨gm,0,none⟩) e.mem.length cm).ownBlock)) (by omega) e (.slice Ad e.disk.length cd) (.slice (some ⟨gm,0,none⟩) e.mem.length cm) (.slice Al e.log.length cl)
  have z0:=hy.c0
  have z1:=hy.c1
  have z2:=hy.c2
  have z3:=hy.c3
  have z4:=hy.c4
  exact bodyPost_ret (v:=.tuple #[e.ag (.slice Ad e.disk.length cd) (.slice (some ⟨gm,0,none⟩) e.mem.length cm) (.slice Al e.log.length cl), .bool false]) (by simp [results,Tryz.results136,go_sem,z0,z1,z2,z3,z4]) rfl ⟨_,_,_,rfl,h1,h2,h3⟩
 have H2:=As h2
 rcases BS P.owner 0 with ⟨e1,b1,c1⟩ | ⟨e1,b1,c1⟩
 ·rw [HFE.out,if_neg (fun h => (HFB.out.1 h).1 e1.out)]
  clear h1 h2 hv3
  go_enter Tryz.func136,Tryz.ntmps136
  go_wp2_with (first
   | (go_at_call 152;rw [show (w.alloc (Obj.cells #[Value.slice Ad e.disk.length cd,Value.slice (some ⟨gm,0,none⟩) e.mem.length cm,Value.slice Al e.log.length cl,Value.int IntKind.i64 e.safe,Value.bool e.down] 26)).alloc (Obj.cells #[Value.slice none 0 0,Value.slice none 0 0,Value.slice none 0 0,Value.int IntKind.i64 0,Value.bool false] 26) = w1 from HW1.out];refine (BP (cd:=cd) (cm:=cm) (cl:=cl) tx (p : Int) HM.out HI.out.core (Below.refl w1.heap.size w1) HC1.out).mono ?_;rintro x w2 ⟨rfl,hb2⟩;replace x0:=bc hb2 x0;replace x1:=bc hb2 x1;replace x2:=bc hb2 x2;replace x3:=bc hb2 x3;replace x4:=bc hb2 x4;replace p1:=bc hb2 p1;have HO2:=As (HO1.out.below hb2);have HB2:=As (bj HB1.out hb2);have hp:=HP1.out.up hb2;have HP2:=As hp;have y0:=hp.c0;have y1:=hp.c1;have y2:=hp.c2;have y3:=hp.c3;have y4:=hp.c4;have f0:=hp.frz 0;have f1:=hp.frz 1;have f2:=hp.frz 2;have f3:=hp.frz 3;have f4:=hp.frz 4;clear hp hb2)
   | (go_at_call 53;refine (AX _ _ _ _).mono ?_;(first | rw [H1.out] | rw [H2.out]);rintro x w' ⟨rfl,rfl⟩))
  have hz:=HZ1.out
  have hs0:=HB.out.size
  have hy:=HP2.out.Ap e (.slice Ad e.disk.length cd) (.slice (some ⟨gm,0,none⟩) e.mem.length cm) (.slice Al e.log.length cl)
  have h1:=HO2.out.Ap (f:=e) (xd:=.slice Ad e.disk.length cd) (xm:=.slice (some ⟨gm,0,none⟩) e.mem.length cm) (xl:=.slice Al e.log.length cl) HP2.out
  have h2:=Aj (g:=w.heap.size + 1) (bj HB.out HB2.out) (by omega) e (.slice Ad e.disk.length cd) (.slice (some ⟨gm,0,none⟩) e.mem.length cm) (.slice Al e.log.length cl)
  have h3:=CS (g:=w.heap.size + 1) (Kept.of_below HB2.out (fun k => some k = (Value.slice (some ⟨gm,0,none⟩) e.mem.length cm).ownBlock)) (by omega) e (.slice Ad e.disk.length cd) (.slice (some ⟨gm,0,none⟩) e.mem.length cm) (.slice Al e.log.length cl)
  have z0:=hy.c0
  have z1:=hy.c1
  have z2:=hy.c2
  have z3:=hy.c3
  have z4:=hy.c4
  exact bodyPost_ret (v:=.tuple #[e.ag (.slice Ad e.disk.length cd) (.slice (some ⟨gm,0,none⟩) e.mem.length cm) (.slice Al e.log.length cl), .bool false]) (by simp [results,Tryz.results136,go_sem,z0,z1,z2,z3,z4]) rfl ⟨_,_,_,rfl,h1,h2,h3⟩
 have hFBT:=HFB.out.2 ⟨e1.out,h1,h2⟩
 rw [CU] at h1
 obtain ⟨s,rfl⟩ : ∃ s : Nat,slot = (s : Int):=⟨slot.toNat,by omega⟩
 have hsl : s < P.vals.length:=by omega
 have hs3i : (s : Int) < 3:=by omega
 obtain ⟨ad,rfl,z0⟩:=DW HPC.out s hsl
 have hI:=HI.out.Xu HBB.out hFBT
 obtain ⟨E,hE⟩ : ∃ E,e.app (TP e tx (p : Int) (s : Int) val) = E:=⟨_,rfl⟩
 have hHR : (TP e tx (p : Int) (s : Int) val).val = .agg #[.int .i64 1, .int .i64 tx, .int .i64 (p : Int), .int .i64 (s : Int), .int .i64 (iv P.vals s), .int .i64 val, .int .i64 0, .int .i64 0]:=by rw [← HPP.out];rfl
 have HCALL : A7 (∀ wx,Aw wx w0.heap.size (.slice Ad e.disk.length cd) (.slice (some ⟨gm,0,none⟩) e.mem.length cm) (.slice Al e.log.length cl) e → Below w0.heap.size w0 wx → Calls Tryz.prog 119 #[e.val Ad (some ⟨gm,0,none⟩) Al cd cm cl, .agg #[.int .i64 1, .int .i64 tx, .int .i64 (p : Int), .int .i64 (s : Int), .int .i64 (iv P.vals s), .int .i64 val, .int .i64 0, .int .i64 0]] wx (Ig w0 wx (.slice (some ⟨gm,0,none⟩) e.mem.length cm) E true)):=⟨fun wx ho hb => by
  have h:=ES (TP e tx (p : Int) (s : Int) val) HGM.out hI.core.log (hI.SC rfl (MQ _ _)) (fun _ => ⟨by show (0 : Int) ≤ (p : Int);omega,by show (p : Int) < 5;omega,by show (s : Int) < 3;omega⟩) hb ho
  rw [hHR,hE] at h
  exact h⟩
 rw [HFE.out,if_pos hFBT,hE]
 clear hI hE hHR hFBT h1 h2 hv3
 go_enter Tryz.func136,Tryz.ntmps136
 go_wp2_with (first
  | (go_at_call 152;rw [show (w.alloc (Obj.cells #[Value.slice Ad e.disk.length cd,Value.slice (some ⟨gm,0,none⟩) e.mem.length cm,Value.slice Al e.log.length cl,Value.int IntKind.i64 e.safe,Value.bool e.down] 26)).alloc (Obj.cells #[Value.slice none 0 0,Value.slice none 0 0,Value.slice none 0 0,Value.int IntKind.i64 0,Value.bool false] 26) = w1 from HW1.out];refine (BP (cd:=cd) (cm:=cm) (cl:=cl) tx (p : Int) HM.out HI.out.core (Below.refl w1.heap.size w1) HC1.out).mono ?_;rintro x w2 ⟨rfl,hb2⟩;replace x0:=bc hb2 x0;replace x1:=bc hb2 x1;replace x2:=bc hb2 x2;replace x3:=bc hb2 x3;replace x4:=bc hb2 x4;replace p1:=bc hb2 p1;replace p2:=bc hb2 p2;replace z0:=bc hb2 z0;have HO2:=As (HO1.out.below hb2);have HB2:=As (bj HB1.out hb2);have hp:=HP1.out.up hb2;have HP2:=As hp;have y0:=hp.c0;have y1:=hp.c1;have y2:=hp.c2;have y3:=hp.c3;have y4:=hp.c4;have f0:=hp.frz 0;have f1:=hp.frz 1;have f2:=hp.frz 2;have f3:=hp.frz 3;have f4:=hp.frz 4;clear hp hb2)
  | (go_at_call 53;refine (AX _ _ _ _).mono ?_;(first | rw [H1.out] | rw [H2.out]);rintro x w' ⟨rfl,rfl⟩))
 clear y0 y1 y2 y3 y4 f0 f1 f2 f3 f4
 refine Bo (fun lx a wx => (Below w0.heap.size w0 wx ∧ IC w (.slice (some ⟨gm,0,none⟩) e.mem.length cm) wx) ∧ (Un 15 (fun wx => Below w2.heap.size w2 wx) lx a wx ∧ (Un 18 (fun wx => IC w2 (.slice (some ⟨gm,0,none⟩) e.mem.length cm) wx) lx a wx ∧ (Sl 15 52 (fun v wx => ∃ ud um ul,v = .tuple #[E.ag ud um ul, .bool true] ∧ Aw wx w0.heap.size ud um ul E) lx a wx ∧ Ys 18 (fun wx => ∃ ud um ul,Ab wx (w.heap.size + 1) E ud um ul ∧ Aw wx w0.heap.size ud um ul E) lx a wx)))) 20 rfl (by kernel_rfl) (⟨⟨Ac (bj HB.out HB2.out),Kept.drew (Kept.of_below HB2.out _)⟩,fun _ => Ac (Below.refl _ _),fun _ => Kept.drew (Kept.refl _ _),Bp,KV⟩) (fun HT => ?_)
 refine Bw [0,1,2,3,4,5,6,7,8,9,10,11,12,13,14] ?_
 iterate 15 (refine IY (v:=?_) 15 HT rfl (by kernel_rfl) (by kernel_rfl) rfl (kA Ah (kA (Bj rfl) (kA (Bj rfl) (kA (Ak rfl rfl) (Gx rfl))))) (by rfl) (fun _ _ _ h => h) (fun lx ax wx hK hS => ?_) ?_;rotate_left;(have hbx:=hS.2.1 hK;clear hS;replace x0:=bc hbx x0;replace x1:=bc hbx x1;replace x2:=bc hbx x2;replace x3:=bc hbx x3;replace x4:=bc hbx x4;replace p2:=bc hbx p2;replace z0:=bc hbx z0;go_simp;with_reducible rfl);rotate_left;simp only [sc0,sc1])
 refine Bv ?_
 refine Cr (i:=15) (f:=119) (args:=#[e.val Ad (some ⟨gm,0,none⟩) Al cd cm cl, .agg #[.int .i64 1, .int .i64 tx, .int .i64 (p : Int), .int .i64 (s : Int), .int .i64 (iv P.vals s), .int .i64 val, .int .i64 0, .int .i64 0]]) (fun v => ∃ ud um ul,v = .tuple #[E.ag ud um ul, .bool true]) rfl (by kernel_rfl) rfl Tryz.func119 (by kernel_rfl) rfl rfl (by rfl) (by simp only [List.map_toArray,List.map_cons,List.map_nil];rfl) (fun wx hS => (HCALL.out wx (HO2.out.below (hS.2.1 (by kernel_rfl))) hS.1.1).mono (by rintro x w6 ⟨ud,um,ul,rfl,ho,hb,hk⟩;exact ⟨_,rfl,⟨ud,um,ul,rfl⟩,⟨hb,hS.1.2.Ce hk (fun k hk => .inl hk)⟩,fun h => (Ao (by kernel_rfl) h).elim,fun _ => (hS.2.2.1 (by kernel_rfl)).Ce hk (fun k hk => .inl hk),fun _ => ⟨ud,um,ul,rfl,ho⟩,fun h => (Ao h (by kernel_rfl)).elim⟩)) (fun vx hg => ?_);simp only [sc0,sc1]
 obtain ⟨ud,um,ul,rfl⟩:=hg
 refine Bw [16,17] ?_
 iterate 2 (refine Bq (v:=?_) HT rfl (by kernel_rfl) rfl (kA Ah (kA (Bj rfl) (kA (Bj rfl) (kA (Ak rfl rfl) (Gx rfl))))) (by rfl) (fun _ _ _ h => h) (fun lx ax wx hS => ?_) ?_;rotate_left;(go_simp;with_reducible rfl);rotate_left;simp only [sc0,sc1])
 refine Bv ?_
 refine AJ [18] (by kernel_rfl) (fun i hi wx hS => ?_)
 obtain rfl:=List.mem_singleton.1 hi
 clear hi
 obtain ⟨⟨h1,h2⟩, -,h3,h4, -⟩:=hS
 obtain ⟨ud',um',ul',hu',hown⟩:=h4 (by kernel_rfl)
 have hu' : Value.tuple #[E.ag ud um ul, .bool true] = .tuple #[E.ag ud' um' ul', .bool true]:=hu'
 obtain ⟨rfl,rfl,rfl⟩ : ud = ud' ∧ um = um' ∧ ul = ul':=by simpa using hu'
 obtain ⟨Bd,dd,Bm,dm,Bl,dl,rfl,rfl,rfl, -, -⟩:=hown.reads
 have hp:=HP2.out.GQ HO2.out (h3 (by kernel_rfl))
 have y0:=hp.c0
 have y1:=hp.c1
 have y2:=hp.c2
 have y3:=hp.c3
 have y4:=hp.c4
 have f0:=hp.frz 0
 have f1:=hp.frz 1
 have f2:=hp.frz 2
 have f3:=hp.frz 3
 have f4:=hp.frz 4
 refine BH (w1:=Go.Proofs.YtjeodgfkilhkhaaGreat.Ap wx (w.heap.size + 1) E (.slice Bd E.disk.length dd) (.slice Bm E.mem.length dm) (.slice Bl E.log.length dl)) rfl (by rfl) (by go_simp) ?_
 have hs0:=HB.out.size
 refine ⟨⟨⟨Aj (g:=w.heap.size + 1) h1 (by omega) E (.slice Bd E.disk.length dd) (.slice Bm E.mem.length dm) (.slice Bl E.log.length dl),CS (g:=w.heap.size + 1) h2 (by omega) E (.slice Bd E.disk.length dd) (.slice Bm E.mem.length dm) (.slice Bl E.log.length dl)⟩,fun h => (Ao (by kernel_rfl) h).elim,fun h => (Ao (by kernel_rfl) h).elim,fun _ => ⟨_,_,_,rfl,hown.Ap (f:=E) (xd:=.slice Bd E.disk.length dd) (xm:=.slice Bm E.mem.length dm) (xl:=.slice Bl E.log.length dl) hp⟩,fun _ => ⟨_,_,_,hp.Ap E (.slice Bd E.disk.length dd) (.slice Bm E.mem.length dm) (.slice Bl E.log.length dl),hown.Ap (f:=E) (xd:=.slice Bd E.disk.length dd) (xm:=.slice Bm E.mem.length dm) (xl:=.slice Bl E.log.length dl) hp⟩⟩,?_⟩
 clear h1 h2 h3 h4 hu' hown hp y0 y1 y2 y3 y4 f0 f1 f2 f3 f4 hs0
 refine CZ (i:=19) (v:=?_) HT rfl (by kernel_rfl) rfl (kA Ah (kA (Bj rfl) (kA (Bj rfl) (kA (Ak rfl rfl) (Gx rfl))))) (by rfl) (fun _ _ _ h => h) (fun lx ax wx hS => ?_) ?_;rotate_left;(go_simp;with_reducible rfl);rotate_left;simp only [sc0,sc1]
 refine GU (by kernel_rfl) (fun w8 hS => ?_)
 obtain ⟨⟨h1,h2⟩, -, -, -,h5⟩:=hS
 obtain ⟨ud',um',ul',hq8,ho8⟩:=h5 (by kernel_rfl)
 have HX:=As (And.intro h1 (And.intro h2 ho8))
 have za:=hq8.c0
 have zb:=hq8.c1
 have zc:=hq8.c2
 have zd:=hq8.c3
 have ze:=hq8.c4
 clear h1 h2 h5 ho8 hq8 x0 x1 x2 x3 x4 p2 z0
 go_wp2
 exact bodyPost_ret (v:=.tuple #[E.ag ud' um' ul', .bool true]) (by simp [results,Tryz.results136,go_sem,za,zb,zc,zd,ze]) rfl ⟨ud',um',ul',rfl,HX.out.2.2,HX.out.1,HX.out.2.1⟩
set_option maxRecDepth 100000 in
set_option maxHeartbeats 16000000 in
theorem Pm {w0 w : World} {e : Eng} {C : Nat → Page} {B : Nat} {vd vm vl : Value} (tx page table : Int) (hi : Inv e C B) (hB : B + 3 ≤ 150) (hb : Below w0.heap.size w0 w) (hr : Aw w w0.heap.size vd vm vl e) : Calls Tryz.prog 137 #[e.ag vd vm vl, .int .i64 tx, .int .i64 page, .int .i64 table] w (Ig w0 w vm (U2 e tx page table).1 (U2 e tx page table).2):=by
 have hFE : U2 e tx page table = if ownB e tx page table = true then (e.app (U1 e tx page table),true) else (e,false):=Inv.Pw (fun hp => hi.XD hB hp)
 obtain ⟨Ad,cd,Am,cm,Al,cl,rfl,rfl,rfl,hcl,hrd⟩:=hr.reads
 obtain ⟨w1a,hw1a⟩ : ∃ w1a,w.alloc (e.obox (.slice Ad e.disk.length cd) (.slice Am e.mem.length cm) (.slice Al e.log.length cl)) = w1a:=⟨_,rfl⟩
 obtain ⟨w1,hw1⟩ : ∃ w1,w1a.alloc (zE.obox (.slice none 0 0) (.slice none 0 0) (.slice none 0 0)) = w1:=⟨_,rfl⟩
 have hza : w1a.heap.size = w.heap.size + 1:=by rw [← hw1a];exact BD _ _
 have hz1 : w1.heap.size = w.heap.size + 2:=by rw [← hw1,BD,hza]
 have hba : Below w1a.heap.size w1a w1:=by rw [← hw1];exact Aa (Below.refl _ _) _
 have hb1 : Below w.heap.size w w1:=by rw [← hw1, ← hw1a];exact Aa (Aa (Below.refl _ _) _) _
 have HQ1 : A7 (Ab w1 w.heap.size e (.slice Ad e.disk.length cd) (.slice Am e.mem.length cm) (.slice Al e.log.length cl)):=⟨Ab.up (by rw [← hw1a];exact Ab.mk1 _ _ _ _ _) hba⟩
 have HP1 : A7 (Ab w1 (w.heap.size + 1) zE (.slice none 0 0) (.slice none 0 0) (.slice none 0 0)):=⟨by rw [← hw1, ← hza];exact Ab.mk1 _ _ _ _ _⟩
 have HW1 : A7 ((w.alloc (Obj.cells #[Value.slice Ad e.disk.length cd,Value.slice Am e.mem.length cm,Value.slice Al e.log.length cl,Value.int IntKind.i64 e.safe,Value.bool e.down] 26)).alloc (Obj.cells #[Value.slice none 0 0,Value.slice none 0 0,Value.slice none 0 0,Value.int IntKind.i64 0,Value.bool false] 26) = w1):=⟨by rw [← hw1, ← hw1a];rfl⟩
 have HZ1:=As hz1
 have HB1:=As hb1
 have HB:=As hb
 have HO1:=As (hr.below hb1)
 have HC1:=As (hrd.up hb1)
 have HI:=As hi
 have HBB:=As hB
 have x0:=HQ1.out.c0
 have x1:=HQ1.out.c1
 have x2:=HQ1.out.c2
 have x3:=HQ1.out.c3
 have x4:=HQ1.out.c4
 clear hw1a hw1 hza hz1 hba hb1 hb hr hrd hB
 obtain ⟨m,hm⟩ : ∃ m,M4 e tx page = m:=⟨_,rfl⟩
 have HM:=As hm
 have HFE:=As hFE
 clear hm hi hFE
 cases m
 ·rw [HFE.out,if_neg (by rw [ownB,HM.out];simp)]
  go_enter Tryz.func137,Tryz.ntmps137
  go_wp2_with (first
   | (go_at_call 152;rw [show (w.alloc (Obj.cells #[Value.slice Ad e.disk.length cd,Value.slice Am e.mem.length cm,Value.slice Al e.log.length cl,Value.int IntKind.i64 e.safe,Value.bool e.down] 26)).alloc (Obj.cells #[Value.slice none 0 0,Value.slice none 0 0,Value.slice none 0 0,Value.int IntKind.i64 0,Value.bool false] 26) = w1 from HW1.out];refine (BP (cd:=cd) (cm:=cm) (cl:=cl) tx page HM.out HI.out.core (Below.refl w1.heap.size w1) HC1.out).mono ?_;rintro x w2 ⟨rfl,hb2⟩;replace x0:=bc hb2 x0;replace x1:=bc hb2 x1;replace x2:=bc hb2 x2;replace x3:=bc hb2 x3;replace x4:=bc hb2 x4;have HO2:=As (HO1.out.below hb2);have HB2:=As (bj HB1.out hb2);have hp:=HP1.out.up hb2;have HP2:=As hp;have y0:=hp.c0;have y1:=hp.c1;have y2:=hp.c2;have y3:=hp.c3;have y4:=hp.c4;have f0:=hp.frz 0;have f1:=hp.frz 1;have f2:=hp.frz 2;have f3:=hp.frz 3;have f4:=hp.frz 4;clear hp hb2))
  have hz:=HZ1.out
  have hs0:=HB.out.size
  have hy:=HP2.out.Ap e (.slice Ad e.disk.length cd) (.slice Am e.mem.length cm) (.slice Al e.log.length cl)
  have h1:=HO2.out.Ap (f:=e) (xd:=.slice Ad e.disk.length cd) (xm:=.slice Am e.mem.length cm) (xl:=.slice Al e.log.length cl) HP2.out
  have h2:=Aj (g:=w.heap.size + 1) (bj HB.out HB2.out) (by omega) e (.slice Ad e.disk.length cd) (.slice Am e.mem.length cm) (.slice Al e.log.length cl)
  have h3:=CS (g:=w.heap.size + 1) (Kept.of_below HB2.out (fun k => some k = (Value.slice Am e.mem.length cm).ownBlock)) (by omega) e (.slice Ad e.disk.length cd) (.slice Am e.mem.length cm) (.slice Al e.log.length cl)
  have z0:=hy.c0
  have z1:=hy.c1
  have z2:=hy.c2
  have z3:=hy.c3
  have z4:=hy.c4
  exact bodyPost_ret (v:=.tuple #[e.ag (.slice Ad e.disk.length cd) (.slice Am e.mem.length cm) (.slice Al e.log.length cl), .bool false]) (by simp [results,Tryz.results137,go_sem,z0,z1,z2,z3,z4]) rfl ⟨_,_,_,rfl,h1,h2,h3⟩
 have hmp:=(Gu.1 HM.out).2.2.1
 obtain ⟨p,rfl⟩ : ∃ p : Nat,page = (p : Int):=⟨page.toNat,by omega⟩
 have hp5 : p < 5:=by omega
 have hp5i : (p : Int) < 5:=by omega
 have hgm:=AZ HI.out.Mk
 have hmem5:=hgm.1
 obtain ⟨okd,okm, -, -,hpm⟩:=HO1.out.ex
 obtain ⟨gm,capm,hAm, -, -⟩:=D9 hpm (by omega)
 injection hAm with hA1 _ hA3
 subst hA1 hA3
 have hpl : p < e.mem.length:=by omega
 have hpli : (p : Int) < (e.mem.length : Int):=by omega
 obtain ⟨A2,c2,p0,p1,p2,pC, -⟩:=F4 hpm p hpl
 have hv3 : (pg e.mem p).vals.length = 3:=Ia hgm hp5
 have HMF:=As (Gu.1 HM.out).1
 have HGM:=As hgm
 have HPC:=As pC
 have HP5:=As hp5
 obtain ⟨P,hP⟩ : ∃ P,pg e.mem p = P:=⟨_,rfl⟩
 have HPP:=As hP
 rw [hP] at p0 p1 p2 HPC hv3
 have HFB : A7 (ownB e tx (p : Int) table = true ↔ inB table 0 3 = true ∧ ((P.owner == 0) != (table == 0)) = true ∧ Ik P.vals = true):=⟨by rw [ownB,HM.out,Int.toNat_natCast,hP];simp⟩
 clear hmp hgm hpm pC hP hmem5
 cases h1 : inB table 0 3
 ·have H1:=As h1
  rw [HFE.out,if_neg (fun h => by have:=(HFB.out.1 h).1;rw [h1] at this;cases this)]
  clear h1 hv3
  go_enter Tryz.func137,Tryz.ntmps137
  go_wp2_with (first
   | (go_at_call 152;rw [show (w.alloc (Obj.cells #[Value.slice Ad e.disk.length cd,Value.slice (some ⟨gm,0,none⟩) e.mem.length cm,Value.slice Al e.log.length cl,Value.int IntKind.i64 e.safe,Value.bool e.down] 26)).alloc (Obj.cells #[Value.slice none 0 0,Value.slice none 0 0,Value.slice none 0 0,Value.int IntKind.i64 0,Value.bool false] 26) = w1 from HW1.out];refine (BP (cd:=cd) (cm:=cm) (cl:=cl) tx (p : Int) HM.out HI.out.core (Below.refl w1.heap.size w1) HC1.out).mono ?_;rintro x w2 ⟨rfl,hb2⟩;replace x0:=bc hb2 x0;replace x1:=bc hb2 x1;replace x2:=bc hb2 x2;replace x3:=bc hb2 x3;replace x4:=bc hb2 x4;replace p0:=bc hb2 p0;replace p1:=bc hb2 p1;replace p2:=bc hb2 p2;have HO2:=As (HO1.out.below hb2);have HB2:=As (bj HB1.out hb2);have hp:=HP1.out.up hb2;have HP2:=As hp;have y0:=hp.c0;have y1:=hp.c1;have y2:=hp.c2;have y3:=hp.c3;have y4:=hp.c4;have f0:=hp.frz 0;have f1:=hp.frz 1;have f2:=hp.frz 2;have f3:=hp.frz 3;have f4:=hp.frz 4;clear hp hb2)
   | (go_at_call 53;refine (AX _ _ _ _).mono ?_;(first | rw [H1.out]);rintro x w' ⟨rfl,rfl⟩))
  have hz:=HZ1.out
  have hs0:=HB.out.size
  have hy:=HP2.out.Ap e (.slice Ad e.disk.length cd) (.slice (some ⟨gm,0,none⟩) e.mem.length cm) (.slice Al e.log.length cl)
  have h1:=HO2.out.Ap (f:=e) (xd:=.slice Ad e.disk.length cd) (xm:=.slice (some ⟨gm,0,none⟩) e.mem.length cm) (xl:=.slice Al e.log.length cl) HP2.out
  have h2:=Aj (g:=w.heap.size + 1) (bj HB.out HB2.out) (by omega) e (.slice Ad e.disk.length cd) (.slice (some ⟨gm,0,none⟩) e.mem.length cm) (.slice Al e.log.length cl)
  have h3:=CS (g:=w.heap.size + 1) (Kept.of_below HB2.out (fun k => some k = (Value.slice (some ⟨gm,0,none⟩) e.mem.length cm).ownBlock)) (by omega) e (.slice Ad e.disk.length cd) (.slice (some ⟨gm,0,none⟩) e.mem.length cm) (.slice Al e.log.length cl)
  have z0:=hy.c0
  have z1:=hy.c1
  have z2:=hy.c2
  have z3:=hy.c3
  have z4:=hy.c4
  exact bodyPost_ret (v:=.tuple #[e.ag (.slice Ad e.disk.length cd) (.slice (some ⟨gm,0,none⟩) e.mem.length cm) (.slice Al e.log.length cl), .bool false]) (by simp [results,Tryz.results137,go_sem,z0,z1,z2,z3,z4]) rfl ⟨_,_,_,rfl,h1,h2,h3⟩
 have H1:=As h1
 cases hz : Ik P.vals
 ·rw [HFE.out,if_neg (fun h => by have:=(HFB.out.1 h).2.2;rw [hz] at this;cases this)]
  have HZE:=As hz
  clear h1 hz hv3
  rcases BS P.owner 0 with ⟨e1,b1,c1⟩ | ⟨e1,b1,c1⟩
  all_goals rcases BS table 0 with ⟨e2,b2,c2_⟩ | ⟨e2,b2,c2_⟩
  all_goals
   go_enter Tryz.func137,Tryz.ntmps137
   go_wp2_with (first
    | (go_at_call 152;rw [show (w.alloc (Obj.cells #[Value.slice Ad e.disk.length cd,Value.slice (some ⟨gm,0,none⟩) e.mem.length cm,Value.slice Al e.log.length cl,Value.int IntKind.i64 e.safe,Value.bool e.down] 26)).alloc (Obj.cells #[Value.slice none 0 0,Value.slice none 0 0,Value.slice none 0 0,Value.int IntKind.i64 0,Value.bool false] 26) = w1 from HW1.out];refine (BP (cd:=cd) (cm:=cm) (cl:=cl) tx (p : Int) HM.out HI.out.core (Below.refl w1.heap.size w1) HC1.out).mono ?_;rintro x w2 ⟨rfl,hb2⟩;replace x0:=bc hb2 x0;replace x1:=bc hb2 x1;replace x2:=bc hb2 x2;replace x3:=bc hb2 x3;replace x4:=bc hb2 x4;replace p0:=bc hb2 p0;replace p1:=bc hb2 p1;replace p2:=bc hb2 p2;have HO2:=As (HO1.out.below hb2);have HBM:=As hb2;have HB2:=As (bj HB1.out hb2);have hp:=HP1.out.up hb2;have HP2:=As hp;have y0:=hp.c0;have y1:=hp.c1;have y2:=hp.c2;have y3:=hp.c3;have y4:=hp.c4;have f0:=hp.frz 0;have f1:=hp.frz 1;have f2:=hp.frz 2;have f3:=hp.frz 3;have f4:=hp.frz 4;clear hp hb2)
    | (go_at_call 53;refine (AX _ _ _ _).mono ?_;(first | rw [H1.out]);rintro x w' ⟨rfl,rfl⟩)
    | (go_at_call 153;refine (F8 HZE.out HBM.out HPC.out).mono ?_;rintro x w3 ⟨rfl,hb3⟩;replace x0:=bc hb3 x0;replace x1:=bc hb3 x1;replace x2:=bc hb3 x2;replace x3:=bc hb3 x3;replace x4:=bc hb3 x4;replace p1:=bc hb3 p1;clear y0 y1 y2 y3 y4 f0 f1 f2 f3 f4;replace HO2:=As (HO2.out.below hb3);replace HB2:=As (bj HB2.out hb3);have hp:=HP2.out.up hb3;replace HP2:=As hp;have y0:=hp.c0;have y1:=hp.c1;have y2:=hp.c2;have y3:=hp.c3;have y4:=hp.c4;have f0:=hp.frz 0;have f1:=hp.frz 1;have f2:=hp.frz 2;have f3:=hp.frz 3;have f4:=hp.frz 4;clear hp hb3))
   have hz:=HZ1.out
   have hs0:=HB.out.size
   have hy:=HP2.out.Ap e (.slice Ad e.disk.length cd) (.slice (some ⟨gm,0,none⟩) e.mem.length cm) (.slice Al e.log.length cl)
   have h1:=HO2.out.Ap (f:=e) (xd:=.slice Ad e.disk.length cd) (xm:=.slice (some ⟨gm,0,none⟩) e.mem.length cm) (xl:=.slice Al e.log.length cl) HP2.out
   have h2:=Aj (g:=w.heap.size + 1) (bj HB.out HB2.out) (by omega) e (.slice Ad e.disk.length cd) (.slice (some ⟨gm,0,none⟩) e.mem.length cm) (.slice Al e.log.length cl)
   have h3:=CS (g:=w.heap.size + 1) (Kept.of_below HB2.out (fun k => some k = (Value.slice (some ⟨gm,0,none⟩) e.mem.length cm).ownBlock)) (by omega) e (.slice Ad e.disk.length cd) (.slice (some ⟨gm,0,none⟩) e.mem.length cm) (.slice Al e.log.length cl)
   have z0:=hy.c0
   have z1:=hy.c1
   have z2:=hy.c2
   have z3:=hy.c3
   have z4:=hy.c4
   exact bodyPost_ret (v:=.tuple #[e.ag (.slice Ad e.disk.length cd) (.slice (some ⟨gm,0,none⟩) e.mem.length cm) (.slice Al e.log.length cl), .bool false]) (by simp [results,Tryz.results137,go_sem,z0,z1,z2,z3,z4]) rfl ⟨_,_,_,rfl,h1,h2,h3⟩
 have HZE:=As hz
 cases hne : ((P.owner == 0) != (table == 0))
 ·rw [HFE.out,if_neg (fun h => by have:=(HFB.out.1 h).2.1;rw [hne] at this;cases this)]
  clear h1 hz hv3
  rcases BS P.owner 0 with ⟨e1,b1,c1⟩ | ⟨e1,b1,c1⟩
  all_goals rcases BS table 0 with ⟨e2,b2,c2_⟩ | ⟨e2,b2,c2_⟩
  all_goals first | (exfalso;rw [b1,b2] at hne;cases hne;done) | skip
  all_goals clear hne
  all_goals
   go_enter Tryz.func137,Tryz.ntmps137
   go_wp2_with (first
    | (go_at_call 152;rw [show (w.alloc (Obj.cells #[Value.slice Ad e.disk.length cd,Value.slice (some ⟨gm,0,none⟩) e.mem.length cm,Value.slice Al e.log.length cl,Value.int IntKind.i64 e.safe,Value.bool e.down] 26)).alloc (Obj.cells #[Value.slice none 0 0,Value.slice none 0 0,Value.slice none 0 0,Value.int IntKind.i64 0,Value.bool false] 26) = w1 from HW1.out];refine (BP (cd:=cd) (cm:=cm) (cl:=cl) tx (p : Int) HM.out HI.out.core (Below.refl w1.heap.size w1) HC1.out).mono ?_;rintro x w2 ⟨rfl,hb2⟩;replace x0:=bc hb2 x0;replace x1:=bc hb2 x1;replace x2:=bc hb2 x2;replace x3:=bc hb2 x3;replace x4:=bc hb2 x4;replace p0:=bc hb2 p0;replace p1:=bc hb2 p1;replace p2:=bc hb2 p2;have HO2:=As (HO1.out.below hb2);have HBM:=As hb2;have HB2:=As (bj HB1.out hb2);have hp:=HP1.out.up hb2;have HP2:=As hp;have y0:=hp.c0;have y1:=hp.c1;have y2:=hp.c2;have y3:=hp.c3;have y4:=hp.c4;have f0:=hp.frz 0;have f1:=hp.frz 1;have f2:=hp.frz 2;have f3:=hp.frz 3;have f4:=hp.frz 4;clear hp hb2)
    | (go_at_call 53;refine (AX _ _ _ _).mono ?_;(first | rw [H1.out]);rintro x w' ⟨rfl,rfl⟩))
   have hz:=HZ1.out
   have hs0:=HB.out.size
   have hy:=HP2.out.Ap e (.slice Ad e.disk.length cd) (.slice (some ⟨gm,0,none⟩) e.mem.length cm) (.slice Al e.log.length cl)
   have h1:=HO2.out.Ap (f:=e) (xd:=.slice Ad e.disk.length cd) (xm:=.slice (some ⟨gm,0,none⟩) e.mem.length cm) (xl:=.slice Al e.log.length cl) HP2.out
   have h2:=Aj (g:=w.heap.size + 1) (bj HB.out HB2.out) (by omega) e (.slice Ad e.disk.length cd) (.slice (some ⟨gm,0,none⟩) e.mem.length cm) (.slice Al e.log.length cl)
   have h3:=CS (g:=w.heap.size + 1) (Kept.of_below HB2.out (fun k => some k = (Value.slice (some ⟨gm,0,none⟩) e.mem.length cm).ownBlock)) (by omega) e (.slice Ad e.disk.length cd) (.slice (some ⟨gm,0,none⟩) e.mem.length cm) (.slice Al e.log.length cl)
   have z0:=hy.c0
   have z1:=hy.c1
   have z2:=hy.c2
   have z3:=hy.c3
   have z4:=hy.c4
   exact bodyPost_ret (v:=.tuple #[e.ag (.slice Ad e.disk.length cd) (.slice (some ⟨gm,0,none⟩) e.mem.length cm) (.slice Al e.log.length cl), .bool false]) (by simp [results,Tryz.results137,go_sem,z0,z1,z2,z3,z4]) rfl ⟨_,_,_,rfl,h1,h2,h3⟩
 have hFBT:=HFB.out.2 ⟨h1,hne,hz⟩
 clear h1 hz hv3
 rcases BS P.owner 0 with ⟨e1,b1,c1⟩ | ⟨e1,b1,c1⟩
 all_goals rcases BS table 0 with ⟨e2,b2,c2_⟩ | ⟨e2,b2,c2_⟩
 all_goals first | (exfalso;rw [b1,b2] at hne;cases hne;done) | skip
 all_goals clear hne
 all_goals
  have hI:=HI.out.XD HBB.out hFBT
  obtain ⟨E,hE⟩ : ∃ E,e.app (U1 e tx (p : Int) table) = E:=⟨_,rfl⟩
  have hHR : (U1 e tx (p : Int) table).val = .agg #[.int .i64 2, .int .i64 tx, .int .i64 (p : Int), .int .i64 (-1), .int .i64 P.owner, .int .i64 table, .int .i64 0, .int .i64 0]:=by rw [← HPP.out];rfl
  have HCALL : A7 (∀ wx,Aw wx w0.heap.size (.slice Ad e.disk.length cd) (.slice (some ⟨gm,0,none⟩) e.mem.length cm) (.slice Al e.log.length cl) e → Below w0.heap.size w0 wx → Calls Tryz.prog 119 #[e.val Ad (some ⟨gm,0,none⟩) Al cd cm cl, .agg #[.int .i64 2, .int .i64 tx, .int .i64 (p : Int), .int .i64 (-1), .int .i64 P.owner, .int .i64 table, .int .i64 0, .int .i64 0]] wx (Ig w0 wx (.slice (some ⟨gm,0,none⟩) e.mem.length cm) E true)):=⟨fun wx ho hb => by
   have h:=ES (U1 e tx (p : Int) table) HGM.out hI.core.log (hI.SC rfl (MQ _ _)) (fun _ => ⟨by show (0 : Int) ≤ (p : Int);omega,by show (p : Int) < 5;omega,by show (-1 : Int) < 3;omega⟩) hb ho
   rw [hHR,hE] at h
   exact h⟩
  rw [HFE.out,if_pos hFBT,hE]
  clear hI hE hHR hFBT
  go_enter Tryz.func137,Tryz.ntmps137
  go_wp2_with (first
   | (go_at_call 152;rw [show (w.alloc (Obj.cells #[Value.slice Ad e.disk.length cd,Value.slice (some ⟨gm,0,none⟩) e.mem.length cm,Value.slice Al e.log.length cl,Value.int IntKind.i64 e.safe,Value.bool e.down] 26)).alloc (Obj.cells #[Value.slice none 0 0,Value.slice none 0 0,Value.slice none 0 0,Value.int IntKind.i64 0,Value.bool false] 26) = w1 from HW1.out];refine (BP (cd:=cd) (cm:=cm) (cl:=cl) tx (p : Int) HM.out HI.out.core (Below.refl w1.heap.size w1) HC1.out).mono ?_;rintro x w2 ⟨rfl,hb2⟩;replace x0:=bc hb2 x0;replace x1:=bc hb2 x1;replace x2:=bc hb2 x2;replace x3:=bc hb2 x3;replace x4:=bc hb2 x4;replace p0:=bc hb2 p0;replace p1:=bc hb2 p1;replace p2:=bc hb2 p2;have HO2:=As (HO1.out.below hb2);have HBM:=As hb2;have HB2:=As (bj HB1.out hb2);have hp:=HP1.out.up hb2;have HP2:=As hp;have y0:=hp.c0;have y1:=hp.c1;have y2:=hp.c2;have y3:=hp.c3;have y4:=hp.c4;have f0:=hp.frz 0;have f1:=hp.frz 1;have f2:=hp.frz 2;have f3:=hp.frz 3;have f4:=hp.frz 4;clear hp hb2)
   | (go_at_call 53;refine (AX _ _ _ _).mono ?_;(first | rw [H1.out]);rintro x w' ⟨rfl,rfl⟩)
   | (go_at_call 153;refine (F8 HZE.out HBM.out HPC.out).mono ?_;rintro x w3 ⟨rfl,hb3⟩;replace x0:=bc hb3 x0;replace x1:=bc hb3 x1;replace x2:=bc hb3 x2;replace x3:=bc hb3 x3;replace x4:=bc hb3 x4;replace p1:=bc hb3 p1;clear y0 y1 y2 y3 y4 f0 f1 f2 f3 f4;replace HO2:=As (HO2.out.below hb3);replace HB2:=As (bj HB2.out hb3);have hp:=HP2.out.up hb3;replace HP2:=As hp;have y0:=hp.c0;have y1:=hp.c1;have y2:=hp.c2;have y3:=hp.c3;have y4:=hp.c4;have f0:=hp.frz 0;have f1:=hp.frz 1;have f2:=hp.frz 2;have f3:=hp.frz 3;have f4:=hp.frz 4;clear hp hb3))
  clear y0 y1 y2 y3 y4 f0 f1 f2 f3 f4
  refine Bo (fun lx a wx => (Below w0.heap.size w0 wx ∧ IC w (.slice (some ⟨gm,0,none⟩) e.mem.length cm) wx) ∧ (Un 11 (fun wx => Below w3.heap.size w3 wx) lx a wx ∧ (Un 14 (fun wx => IC w3 (.slice (some ⟨gm,0,none⟩) e.mem.length cm) wx) lx a wx ∧ (Sl 11 53 (fun v wx => ∃ ud um ul,v = .tuple #[E.ag ud um ul, .bool true] ∧ Aw wx w0.heap.size ud um ul E) lx a wx ∧ Ys 14 (fun wx => ∃ ud um ul,Ab wx (w.heap.size + 1) E ud um ul ∧ Aw wx w0.heap.size ud um ul E) lx a wx)))) 16 rfl (by kernel_rfl) (⟨⟨Ac (bj HB.out HB2.out),Kept.drew (Kept.of_below HB2.out _)⟩,fun _ => Ac (Below.refl _ _),fun _ => Kept.drew (Kept.refl _ _),Bp,KV⟩) (fun HT => ?_)
  refine Bw [0,1,2,3,4,5,6,7,8,9,10] ?_
  iterate 11 (refine IY (v:=?_) 11 HT rfl (by kernel_rfl) (by kernel_rfl) rfl (kA Ah (kA (Bj rfl) (kA (Bj rfl) (kA (Ak rfl rfl) (Gx rfl))))) (by rfl) (fun _ _ _ h => h) (fun lx ax wx hK hS => ?_) ?_;rotate_left;(have hbx:=hS.2.1 hK;clear hS;replace x0:=bc hbx x0;replace x1:=bc hbx x1;replace x2:=bc hbx x2;replace x3:=bc hbx x3;replace x4:=bc hbx x4;replace p1:=bc hbx p1;go_simp;with_reducible rfl);rotate_left;simp only [sc0,sc1])
  refine Bv ?_
  refine Cr (i:=11) (f:=119) (args:=#[e.val Ad (some ⟨gm,0,none⟩) Al cd cm cl, .agg #[.int .i64 2, .int .i64 tx, .int .i64 (p : Int), .int .i64 (-1), .int .i64 P.owner, .int .i64 table, .int .i64 0, .int .i64 0]]) (fun v => ∃ ud um ul,v = .tuple #[E.ag ud um ul, .bool true]) rfl (by kernel_rfl) rfl Tryz.func119 (by kernel_rfl) rfl rfl (by rfl) (by simp only [List.map_toArray,List.map_cons,List.map_nil];rfl) (fun wx hS => (HCALL.out wx (HO2.out.below (hS.2.1 (by kernel_rfl))) hS.1.1).mono (by rintro x w6 ⟨ud,um,ul,rfl,ho,hb,hk⟩;exact ⟨_,rfl,⟨ud,um,ul,rfl⟩,⟨hb,hS.1.2.Ce hk (fun k hk => .inl hk)⟩,fun h => (Ao (by kernel_rfl) h).elim,fun _ => (hS.2.2.1 (by kernel_rfl)).Ce hk (fun k hk => .inl hk),fun _ => ⟨ud,um,ul,rfl,ho⟩,fun h => (Ao h (by kernel_rfl)).elim⟩)) (fun vx hg => ?_);simp only [sc0,sc1]
  obtain ⟨ud,um,ul,rfl⟩:=hg
  refine Bw [12,13] ?_
  iterate 2 (refine Bq (v:=?_) HT rfl (by kernel_rfl) rfl (kA Ah (kA (Bj rfl) (kA (Bj rfl) (kA (Ak rfl rfl) (Gx rfl))))) (by rfl) (fun _ _ _ h => h) (fun lx ax wx hS => ?_) ?_;rotate_left;(go_simp;with_reducible rfl);rotate_left;simp only [sc0,sc1])
  refine Bv ?_
  refine AJ [14] (by kernel_rfl) (fun i hi wx hS => ?_)
  obtain rfl:=List.mem_singleton.1 hi
  clear hi
  obtain ⟨⟨h1,h2⟩, -,h3,h4, -⟩:=hS
  obtain ⟨ud',um',ul',hu',hown⟩:=h4 (by kernel_rfl)
  have hu' : Value.tuple #[E.ag ud um ul, .bool true] = .tuple #[E.ag ud' um' ul', .bool true]:=hu'
  obtain ⟨rfl,rfl,rfl⟩ : ud = ud' ∧ um = um' ∧ ul = ul':=by simpa using hu'
  obtain ⟨Bd,dd,Bm,dm,Bl,dl,rfl,rfl,rfl, -, -⟩:=hown.reads
  have hp:=HP2.out.GQ HO2.out (h3 (by kernel_rfl))
  have y0:=hp.c0
  have y1:=hp.c1
  have y2:=hp.c2
  have y3:=hp.c3
  have y4:=hp.c4
  have f0:=hp.frz 0
  have f1:=hp.frz 1
  have f2:=hp.frz 2
  have f3:=hp.frz 3
  have f4:=hp.frz 4
  refine BH (w1:=Go.Proofs.YtjeodgfkilhkhaaGreat.Ap wx (w.heap.size + 1) E (.slice Bd E.disk.length dd) (.slice Bm E.mem.length dm) (.slice Bl E.log.length dl)) rfl (by rfl) (by go_simp) ?_
  have hs0:=HB.out.size
  refine ⟨⟨⟨Aj (g:=w.heap.size + 1) h1 (by omega) E (.slice Bd E.disk.length dd) (.slice Bm E.mem.length dm) (.slice Bl E.log.length dl),CS (g:=w.heap.size + 1) h2 (by omega) E (.slice Bd E.disk.length dd) (.slice Bm E.mem.length dm) (.slice Bl E.log.length dl)⟩,fun h => (Ao (by kernel_rfl) h).elim,fun h => (Ao (by kernel_rfl) h).elim,fun _ => ⟨_,_,_,rfl,hown.Ap (f:=E) (xd:=.slice Bd E.disk.length dd) (xm:=.slice Bm E.mem.length dm) (xl:=.slice Bl E.log.length dl) hp⟩,fun _ => ⟨_,_,_,hp.Ap E (.slice Bd E.disk.length dd) (.slice Bm E.mem.length dm) (.slice Bl E.log.length dl),hown.Ap (f:=E) (xd:=.slice Bd E.disk.length dd) (xm:=.slice Bm E.mem.length dm) (xl:=.slice Bl E.log.length dl) hp⟩⟩,?_⟩
  clear h1 h2 h3 h4 hu' hown hp y0 y1 y2 y3 y4 f0 f1 f2 f3 f4 hs0
  refine CZ (i:=15) (v:=?_) HT rfl (by kernel_rfl) rfl (kA Ah (kA (Bj rfl) (kA (Bj rfl) (kA (Ak rfl rfl) (Gx rfl))))) (by rfl) (fun _ _ _ h => h) (fun lx ax wx hS => ?_) ?_;rotate_left;(go_simp;with_reducible rfl);rotate_left;simp only [sc0,sc1]
  refine GU (by kernel_rfl) (fun w8 hS => ?_)
  obtain ⟨⟨h1,h2⟩, -, -, -,h5⟩:=hS
  obtain ⟨ud',um',ul',hq8,ho8⟩:=h5 (by kernel_rfl)
  have HX:=As (And.intro h1 (And.intro h2 ho8))
  have za:=hq8.c0
  have zb:=hq8.c1
  have zc:=hq8.c2
  have zd:=hq8.c3
  have ze:=hq8.c4
  clear h1 h2 h5 ho8 hq8 x0 x1 x2 x3 x4 p1
  go_wp2
  exact bodyPost_ret (v:=.tuple #[E.ag ud' um' ul', .bool true]) (by simp [results,Tryz.results137,go_sem,za,zb,zc,zd,ze]) rfl ⟨ud',um',ul',rfl,HX.out.2.2,HX.out.1,HX.out.2.1⟩
theorem Va {e : Eng} {j : Nat} (h1 : 1 ≤ j) (h3 : j ≤ 3) (hp : ∀ i : Nat,1 ≤ i → i < j → lastT e (i : Int) = 0) (hj : lastT e (j : Int) ≠ 0) : Ai e = j:=by
 unfold Ai
 have hj' : j = 1 ∨ j = 2 ∨ j = 3:=by omega
 rcases hj' with rfl | rfl | rfl
 ·rw [if_pos (show lastT e 1 ≠ 0 from hj)];rfl
 ·rw [if_neg (fun h => h (hp 1 (by omega) (by omega))),if_pos (show lastT e 2 ≠ 0 from hj)];rfl
 ·rw [if_neg (fun h => h (hp 1 (by omega) (by omega))),if_neg (fun h => h (hp 2 (by omega) (by omega))),if_pos (show lastT e 3 ≠ 0 from hj)];rfl
theorem V9 {e : Eng} (hp : ∀ i : Nat,1 ≤ i → i < 4 → lastT e (i : Int) = 0) : Ai e = 0:=by
 unfold Ai
 rw [if_neg (fun h => h (hp 1 (by omega) (by omega))),if_neg (fun h => h (hp 2 (by omega) (by omega))),if_neg (fun h => h (hp 3 (by omega) (by omega)))]
set_option maxHeartbeats 4000000 in
theorem JP {w0 w : World} {A : Option Addr} {c : Nat} {e : Eng} (hb : Below w0.heap.size w0 w) (hr : Kd.C kRec w0 A e.log.length e.log) : Calls Tryz.prog 84 #[.slice A e.log.length c] w fun x w' => x = .returned (.int .i64 (Ai e)) ∧ w = w':=by
 have HR:=As (BF hr hb)
 obtain ⟨f,hf⟩ : ∃ f,Ai e = f:=⟨_,rfl⟩
 rw [hf]
 have HF:=As hf
 clear hr hb hf
 go_enter Tryz.func84,Tryz.ntmps84
 go_wp2
 go_loopw [3] (fun t wr => ∃ j : Nat,1 ≤ j ∧ j ≤ 4 ∧ t = .int .i64 (j : Int) ∧ A7 (∀ i : Nat,1 ≤ i → i < j → lastT e (i : Int) = 0) ∧ wr = w) (fun t _ => (4 - intOf t).toNat)
 case atStart => exact ⟨1,by omega,by omega,rfl,⟨fun i h1 h2 => by omega⟩,by first | rfl | trivial⟩
 case round =>
  obtain ⟨j,hj1,hj4,rfl,HP,rfl⟩:=hrel
  by_cases h3 : j ≤ 3
  ·obtain ⟨m,hm⟩ : ∃ m : Nat,Ae e.log (j : Int) e.log.length = m:=⟨_,rfl⟩
   have HM:=As hm
   clear hm
   rcases m with _ | m
   ·go_wp2_with (go_at_call 93;refine (Dn (c:=c) HM.out (Below.refl _ _) HR.out).mono ?_;rintro x w' ⟨rfl,rfl⟩)
    go_roundw
    case rel => exact ⟨j + 1,by omega,by omega,by go_num,⟨fun i h1 h2 => by
     by_cases hij : i = j
     ·rw [hij];exact HM.out
     ·exact HP.out i h1 (by omega)⟩,by first | rfl | trivial⟩
    case measure => simp [intOf];omega
   ·have HE:=As (show f = (j : Int) by rw [← HF.out];exact Va hj1 h3 HP.out (by rw [show lastT e (j : Int) = m + 1 from HM.out];exact Nat.succ_ne_zero m))
    have hpos : decide ((0 : Int) < ((m + 1 : Nat) : Int)) = true:=by simp
    go_wp2_with (go_at_call 93;refine (Dn (c:=c) HM.out (Below.refl _ _) HR.out).mono ?_;rintro x w' ⟨rfl,rfl⟩)
    go_ret
    exact ⟨Dz HE.out.symm,rfl⟩
  ·have HE:=As (show f = 0 by rw [← HF.out];exact V9 (fun i h1 h2 => HP.out i h1 (by omega)))
   go_wp2
   go_ret
   exact ⟨Dz HE.out.symm,rfl⟩
theorem QO {e : Eng} (h : Ai e ≠ 0) : 0 < Ai e:=by
 have:=(Iz h).1
 omega
def Vq (w0 : World) (X : Eng) (x : Ending) (w' : World) : Prop := ∃ vd vm vl,x = .returned (.tuple #[(upE X).ag vd vm vl, .bool (decide (Ai X = 0))]) ∧ Aw w' w0.heap.size vd vm vl (upE X) ∧ Below w0.heap.size w0 w'
set_option maxRecDepth 100000 in
set_option maxHeartbeats 6000000 in
theorem QG {w0 w : World} {e : Eng} {vd vm vl : Value} (n : Nat) (hgd : geo e.disk) (hlog : Au e.log = true) (hro : DY (Cc e)) (hb : Below w0.heap.size w0 w) (hr : Aw w w0.heap.size vd vm vl e) : Calls Tryz.prog 48 #[e.ag vd vm vl, .int .i64 (n : Int)] w (Vq w0 (BJ n (Cc e))):=by
 obtain ⟨Ad,cd,Am,cm,Al,cl,rfl,rfl,rfl,hcl,hrd⟩:=hr.reads
 obtain ⟨w1a,hw1a⟩ : ∃ w1a,w.alloc (e.obox (.slice Ad e.disk.length cd) (.slice Am e.mem.length cm) (.slice Al e.log.length cl)) = w1a:=⟨_,rfl⟩
 obtain ⟨w1,hw1⟩ : ∃ w1,w1a.alloc (zE.obox (.slice none 0 0) (.slice none 0 0) (.slice none 0 0)) = w1:=⟨_,rfl⟩
 have hza : w1a.heap.size = w.heap.size + 1:=by rw [← hw1a];exact BD _ _
 have hz1 : w1.heap.size = w.heap.size + 2:=by rw [← hw1,BD,hza]
 have hba : Below w1a.heap.size w1a w1:=by rw [← hw1];exact Aa (Below.refl _ _) _
 have hb1 : Below w.heap.size w w1:=by rw [← hw1, ← hw1a];exact Aa (Aa (Below.refl _ _) _) _
 have HQ1 : A7 (Ab w1 w.heap.size e (.slice Ad e.disk.length cd) (.slice Am e.mem.length cm) (.slice Al e.log.length cl)):=⟨Ab.up (by rw [← hw1a];exact Ab.mk1 _ _ _ _ _) hba⟩
 have HP1 : A7 (Ab w1 (w.heap.size + 1) zE (.slice none 0 0) (.slice none 0 0) (.slice none 0 0)):=⟨by rw [← hw1, ← hza];exact Ab.mk1 _ _ _ _ _⟩
 have HW1 : A7 ((w.alloc (e.obox (.slice Ad e.disk.length cd) (.slice Am e.mem.length cm) (.slice Al e.log.length cl))).alloc (zE.obox (.slice none 0 0) (.slice none 0 0) (.slice none 0 0)) = w1):=⟨by rw [hw1a,hw1]⟩
 have HZ1:=As hz1
 have HB1:=As hb1
 have HB:=As hb
 have HO1:=As (hr.below hb1)
 have HC1:=As (hrd.up hb1)
 obtain ⟨X,hX⟩ : ∃ X,BJ n (Cc e) = X:=⟨_,rfl⟩
 obtain ⟨R,hR⟩ : ∃ R,BI e.disk e.log e.log.length = R:=⟨_,rfl⟩
 have hst : Cc e = { e with mem:=R }:=by rw [Cc,hR]
 rw [hX]
 rw [hst] at hro hX
 have HRR:=As hR
 have HRO:=As hro
 have HRX:=As hX
 have HGD:=As hgd
 have HLOG:=As hlog
 have HLG:=As (BA hlog)
 have x0:=HQ1.out.c0
 have x2:=HQ1.out.c2
 clear hw1a hw1 hza hz1 hba hb1 hb hr hrd hX hR hst hro hgd hlog
 go_enter Tryz.func48,Tryz.ntmps48
 go_wp2_with (first
  | (go_at_call 54;rw [show (w.alloc (Obj.cells #[Value.slice Ad e.disk.length cd,Value.slice Am e.mem.length cm,Value.slice Al e.log.length cl,Value.int IntKind.i64 e.safe,Value.bool e.down] 26)).alloc (Obj.cells #[Value.slice none 0 0,Value.slice none 0 0,Value.slice none 0 0,Value.int IntKind.i64 0,Value.bool false] 26) = w1 from HW1.out];refine (Gp (c:=cd) (d:=cl) HGD.out (fun k hk => (Ag HLOG.out hk).ok) HLG.out (Below.refl w1.heap.size w1) HC1.out.d HC1.out.l).mono ?_;rw [HRR.out];rintro x w2 ⟨v,rfl,ho,hb2⟩;obtain ⟨Bn,dn,rfl, -, -⟩:=Kd.CV ho;have HO2:=As (Gg HO1.out hb2 ho (by have:=HB.out.size;have:=HB1.out.size;omega));have hq2:=HQ1.out.up hb2;have HQ2:=As hq2;have HP2:=As (HP1.out.up hb2);have HX2:=As (bj HB1.out hb2);have HN2:=As hb2.size;have g1:=hq2.frz 1;have x1':=hq2.c1;clear ho hb2 hq2 x0 x2))
 obtain ⟨w3,hw3⟩ : ∃ w3,w2.setCell ⟨w.heap.size,1,none⟩ (.slice Bn R.length dn) = w3:=⟨_,rfl⟩
 have hq3 : Ab w3 w.heap.size { e with mem:=R } (.slice Ad e.disk.length cd) (.slice Bn R.length dn) (.slice Al e.log.length cl):=by rw [← hw3];exact HQ2.out.set1 _
 have hp3 : Ab w3 (w.heap.size + 1) zE (.slice none 0 0) (.slice none 0 0) (.slice none 0 0):=by rw [← hw3];exact HP2.out.far (by omega) _ _
 have ho3 : Aw w3 w0.heap.size (.slice Ad e.disk.length cd) (.slice Bn R.length dn) (.slice Al e.log.length cl) { e with mem:=R }:=by rw [← hw3];exact HO2.out.Dy HQ2.out 1 _
 have hb3 : Below w0.heap.size w0 w3:=by rw [← hw3];exact (bj HB.out HX2.out).setCell (p:=⟨w.heap.size,1,none⟩) HB.out.size _
 have hn3 : w.heap.size + 2 ≤ w3.heap.size:=by
  have h1:=HZ1.out
  have h2:=HN2.out
  have h3 : w3.heap.size = w2.heap.size:=by rw [← hw3];simp
  omega
 rw [hw3]
 have HE3 : A7 (∃ vd vm vl,Ab w3 w.heap.size { e with mem:=R } vd vm vl ∧ Aw w3 w0.heap.size vd vm vl { e with mem:=R }):=⟨⟨_,_,_,hq3,ho3⟩⟩
 have HP3:=As hp3
 have HB3:=As (And.intro hb3 hn3)
 have hroom:=HRO.out.room'
 clear hw3 hq3 hp3 ho3 hb3 hn3 g1 x1'
 go_loopw [6] (fun i wr => ∃ (k : Nat) (x : Eng),k ≤ n ∧ i = .int .i64 (k : Int) ∧ A7 (∃ vd vm vl,Ab wr w.heap.size x vd vm vl ∧ Aw wr w0.heap.size vd vm vl x) ∧ A7 (Ab wr (w.heap.size + 1) zE (.slice none 0 0) (.slice none 0 0) (.slice none 0 0)) ∧ A7 (Below w0.heap.size w0 wr ∧ w.heap.size + 2 ≤ wr.heap.size) ∧ A7 (DY x ∧ BJ (n - k) x = X) ∧ k + AR x.log x.log.length ≤ 150) (fun i _ => (n - intOf i).toNat)
 case atStart => exact ⟨0,{ e with mem:=R },Nat.zero_le _,rfl,HE3,HP3,HB3,⟨HRO.out,HRX.out⟩,by show 0 + AR e.log e.log.length ≤ 150;have : e.log.length + AR e.log e.log.length ≤ 150:=hroom;omega⟩
 case round =>
  obtain ⟨k,x,hk,rfl,HEG,HPr,HBr,HRK,hkn⟩:=hrel
  obtain ⟨vd,vm,vl,hq,ho⟩:=HEG.out
  obtain ⟨Ed,n1,Em,n2,El,n3,rfl,rfl,rfl, -,hc⟩:=ho.reads
  have HQ:=As hq
  have HO:=As ho
  have HC:=As hc
  obtain ⟨t,ht⟩ : ∃ t,Ai x = t:=⟨_,rfl⟩
  have hfirst : ∀ wx,Kd.C kRec wx El x.log.length x.log → Calls Tryz.prog 84 #[.slice El x.log.length n3] wx fun y w' => y = .returned (.int .i64 t) ∧ wx = w':=fun wx hc => ht ▸ JP (c:=n3) (Below.refl _ _) hc
  have HFI:=As hfirst
  have hx2:=hq.c2
  clear hq ho hc hfirst
  by_cases h0 : t = 0
  ·subst h0
   have hXx : X = x:=by rw [← HRK.out.2,KE ht]
   have HU:=As (show upE X = { x with down:=false } ∧ decide (Ai X = 0) = true from ⟨by rw [hXx,upE,if_pos ht],by rw [hXx];simp [ht]⟩)
   clear hXx ht hkn hroom
   have q0:=HQ.out.c0
   have q1:=HQ.out.c1
   have q3:=HQ.out.c3
   have q4:=HQ.out.c4
   have g4:=HQ.out.frz 4
   have hp:=HPr.out
   have y0:=hp.c0
   have y1:=hp.c1
   have y2:=hp.c2
   have y3:=hp.c3
   have y4:=hp.c4
   have f0:=hp.frz 0
   have f1:=hp.frz 1
   have f2:=hp.frz 2
   have f3:=hp.frz 3
   have f4:=hp.frz 4
   clear hp
   by_cases hlt : k < n
   all_goals
    go_wp2_with (go_at_call 84;refine (HFI.out _ HC.out.l).mono ?_;rintro y w' ⟨rfl,rfl⟩)
    have r1:=HO.out.Dy HQ.out 4 (.bool false)
    have p1:=HPr.out.far (b:=w.heap.size) (by omega) 4 (.bool false)
    have b1:=HBr.out.1.setCell (p:=⟨w.heap.size,4,none⟩) HB.out.size (.bool false)
    have hy:=p1.Ap { x with down:=false } (.slice Ed x.disk.length n1) (.slice Em x.mem.length n2) (.slice El x.log.length n3)
    have h1:=r1.Ap (f:={ x with down:=false }) (xd:=.slice Ed x.disk.length n1) (xm:=(.slice Em x.mem.length n2)) (xl:=.slice El x.log.length n3) p1
    have h2:=Aj (g:=w.heap.size + 1) b1 (by have:=HB.out.size;omega) { x with down:=false } (.slice Ed x.disk.length n1) (.slice Em x.mem.length n2) (.slice El x.log.length n3)
    have z0:=hy.c0
    have z1:=hy.c1
    have z2:=hy.c2
    have z3:=hy.c3
    have z4:=hy.c4
    simp only at z0 z1 z2 z3 z4
    exact bodyPost_ret (v:=.tuple #[.agg #[.slice Ed x.disk.length n1, .slice Em x.mem.length n2, .slice El x.log.length n3, .int .i64 x.safe, .bool false], .bool true]) (by simp [results,Tryz.results48,go_sem,z0,z1,z2,z3,z4]) rfl ⟨.slice Ed x.disk.length n1, .slice Em x.mem.length n2, .slice El x.log.length n3,by rw [HU.out.1,HU.out.2],by rw [HU.out.1];exact ⟨h1.ex,h1.l⟩,h2⟩
  ·have hne : Ai x ≠ 0:=by rw [ht];exact h0
   have htp : decide (0 < t) = true:=by
    have:=QO hne
    rw [ht] at this
    exact decide_eq_true this
   by_cases hlt : k < n
   ·obtain ⟨hso,hro',hnd⟩:=HRK.out.1.step hne
    have hrk : BJ (n - (k + 1)) (AY x (Ai x)) = X:=by
     have h:=HRK.out.2
     rw [show n - k = (n - (k + 1)) + 1 by omega,BJ,if_neg hne] at h
     exact h
    rw [ht] at hso hro' hnd hrk
    obtain ⟨E,hEE⟩ : ∃ E,AY x t = E:=⟨_,rfl⟩
    have hstep : ∀ wx,Below w0.heap.size w0 wx → Aw wx w0.heap.size (.slice Ed x.disk.length n1) (.slice Em x.mem.length n2) (.slice El x.log.length n3) x → Calls Tryz.prog 85 #[x.val Ed Em El n1 n2 n3, .int .i64 t] wx (Vu w0 wx (.slice Em x.mem.length n2) E):=fun wx hb ho => hEE ▸ IL hso hb ho
    rw [hEE] at hro' hnd hrk
    have HST:=As hstep
    have HNX:=As (And.intro hro' hrk)
    have HND:=As (show k + 1 + AR E.log E.log.length ≤ 150 by omega)
    have hk150 : k ≤ 150:=by omega
    have hwr : IntKind.i64.wrap ((k : Int) + 1) = (k : Int) + 1:=by simp (disch:=omega) only [IntWalk.i64_in]
    clear hso hro' hnd hrk hEE hstep ht h0 hne hkn hroom
    go_wp2_with (go_at_call 84;refine (HFI.out _ HC.out.l).mono ?_;rintro y w' ⟨rfl,rfl⟩)
    refine Bo (fun lx a wx => (Below w0.heap.size w0 wx ∧ IC wr (.slice Em x.mem.length n2) wx) ∧ (Un 4 (fun wx => Below wr.heap.size wr wx) lx a wx ∧ Sl 4 28 (fun v wx => ∃ ud um ul,v = E.ag ud um ul ∧ Aw wx w0.heap.size ud um ul E) lx a wx)) 5 rfl (by kernel_rfl) (⟨⟨Ac HBr.out.1,Kept.drew (Kept.refl _ _)⟩,fun _ => Ac (Below.refl _ _),Bp⟩) (fun HT => ?_)
    refine Bw [0,1,2] ?_
    iterate 3 (refine Bq (v:=?_) HT rfl (by kernel_rfl) rfl (kA Ah (kA (Bj rfl) (Ak rfl rfl))) (by rfl) (fun _ _ _ h => h) (fun lx ax wx hS => ?_) ?_;rotate_left;(have hk':=hS.1.2;clear hS;have hq:=HQ.out.GQ HO.out hk';have x0:=hq.c0;have x1:=hq.c1;have x2:=hq.c2;have x3:=hq.c3;have x4:=hq.c4;clear hq;go_simp;with_reducible rfl);rotate_left;simp only [sc0,sc1])
    refine Bv ?_
    refine JH (i:=3) (f:=84) (v:=.int .i64 t) (args:=#[.slice El x.log.length n3]) HT rfl (by kernel_rfl) rfl Tryz.func84 (by kernel_rfl) rfl rfl (kA Ah (kA (Bj rfl) (Ak rfl rfl))) (by rfl) (fun _ _ _ h => h) (by simp only [List.map_toArray,List.map_cons,List.map_nil];rfl) (fun lx ax wx hS => (HFI.out wx (HO.out.XI hS.1.2)).mono fun _ w' h => ⟨h.1,h.2 ▸ hS⟩) ?_;simp only [sc0,sc1]
    refine Cr (i:=4) (f:=85) (args:=#[x.val Ed Em El n1 n2 n3, .int .i64 t]) (fun v => ∃ ud um ul,v = E.ag ud um ul) rfl (by kernel_rfl) rfl Tryz.func85 (by kernel_rfl) rfl rfl (by rfl) (by simp only [List.map_toArray,List.map_cons,List.map_nil];rfl) (fun wx hS => (HST.out wx hS.1.1 (HO.out.below (hS.2.1 (by kernel_rfl)))).mono (by rintro y w6 ⟨ud,um,ul,rfl,ho,hb,hk6⟩;exact ⟨_,rfl,⟨ud,um,ul,rfl⟩,⟨hb,hS.1.2.Ce hk6 (fun k hk => .inl hk)⟩,fun h => (Ao (by kernel_rfl) h).elim,fun _ => ⟨ud,um,ul,rfl,ho⟩⟩)) (fun vx hg => ?_);simp only [sc0,sc1]
    obtain ⟨ud,um,ul,rfl⟩:=hg
    refine Cb (i:=5) (by kernel_rfl) rfl (fun wx hS => ?_)
    obtain ⟨⟨h1,h2⟩, -,h3⟩:=hS
    obtain ⟨ud',um',ul',hu',hown⟩:=h3 (by kernel_rfl)
    have hu' : E.ag ud um ul = E.ag ud' um' ul':=hu'
    obtain ⟨rfl,rfl,rfl⟩ : ud = ud' ∧ um = um' ∧ ul = ul':=by simpa using hu'
    obtain ⟨Bd,dd,Bm,dm,Bl,dl,rfl,rfl,rfl, -, -⟩:=hown.reads
    have hq5:=HQ.out.GQ HO.out h2
    have hp5:=HPr.out.GQ HO.out h2
    have x0:=hq5.c0
    have x1:=hq5.c1
    have x2:=hq5.c2
    have x3:=hq5.c3
    have x4:=hq5.c4
    have f0:=hq5.frz 0
    have f1:=hq5.frz 1
    have f2:=hq5.frz 2
    have f3:=hq5.frz 3
    have f4:=hq5.frz 4
    refine BH (w1:=Go.Proofs.YtjeodgfkilhkhaaGreat.Ap wx w.heap.size E (.slice Bd E.disk.length dd) (.slice Bm E.mem.length dm) (.slice Bl E.log.length dl)) rfl (by rfl) (by go_simp) ?_
    have hq6:=hq5.Ap E (.slice Bd E.disk.length dd) (.slice Bm E.mem.length dm) (.slice Bl E.log.length dl)
    have ho6:=hown.Ap (f:=E) (xd:=.slice Bd E.disk.length dd) (xm:=.slice Bm E.mem.length dm) (xl:=.slice Bl E.log.length dl) hq5
    have hp6 : Ab (Go.Proofs.YtjeodgfkilhkhaaGreat.Ap wx w.heap.size E (.slice Bd E.disk.length dd) (.slice Bm E.mem.length dm) (.slice Bl E.log.length dl)) (w.heap.size + 1) zE (.slice none 0 0) (.slice none 0 0) (.slice none 0 0):=((((hp5.far (b:=w.heap.size) (by omega) 0 _).far (b:=w.heap.size) (by omega) 1 _).far (b:=w.heap.size) (by omega) 2 _).far (b:=w.heap.size) (by omega) 3 _).far (b:=w.heap.size) (by omega) 4 _
    have hb6:=Aj (g:=w.heap.size) h1 HB.out.size E (.slice Bd E.disk.length dd) (.slice Bm E.mem.length dm) (.slice Bl E.log.length dl)
    obtain ⟨w9,hw9⟩ : ∃ w9,Go.Proofs.YtjeodgfkilhkhaaGreat.Ap wx w.heap.size E (.slice Bd E.disk.length dd) (.slice Bm E.mem.length dm) (.slice Bl E.log.length dl) = w9:=⟨_,rfl⟩
    have hs9 : w.heap.size + 2 ≤ w9.heap.size:=by
     have h4:=h2.1
     have h5:=HBr.out.2
     rw [← hw9]
     simp
     omega
    rw [hw9] at hq6 ho6 hp6 hb6 ⊢
    have HE9 : A7 (∃ vd vm vl,Ab w9 w.heap.size E vd vm vl ∧ Aw w9 w0.heap.size vd vm vl E):=⟨⟨_,_,_,hq6,ho6⟩⟩
    have HP9:=As hp6
    have HB9:=As (And.intro hb6 hs9)
    clear h1 h2 h3 hu' hown hq5 hp5 hq6 ho6 hp6 hb6 hs9 hw9 x0 x1 x2 x3 x4 f0 f1 f2 f3 f4 hx2
    refine BM (by kernel_rfl) ?_
    go_wp2
    go_roundw
    case rel => exact ⟨k + 1,E,by omega,by go_num,HE9,HP9,HB9,HNX,HND.out⟩
    case measure => simp [intOf];omega
   ·have hkn' : k = n:=by omega
    have hXx : X = x:=by
     have h:=HRK.out.2
     rw [hkn',Nat.sub_self] at h
     exact h.symm
    have HU:=As (show upE X = { x with mem:=x.disk } ∧ decide (Ai X = 0) = false from ⟨by rw [hXx,upE,if_neg hne],by rw [hXx];simp [hne]⟩)
    have HGX:=As (show geo x.disk from by
     have h1:=(Ir n { e with mem:=R }).1
     rw [HRX.out,hXx] at h1
     rw [h1]
     exact HGD.out)
    have q0:=HQ.out.c0
    clear hXx hne h0 ht hkn hroom hkn'
    go_wp2_with (first
     | (go_at_call 84;refine (HFI.out _ HC.out.l).mono ?_;rintro y w' ⟨rfl,rfl⟩)
     | (go_at_call 68;refine (Cx (w0:=wr) (c:=n1) (ET HGX.out) (by have:=HGX.out.1;omega) (Below.refl _ _) HC.out.d).mono ?_;rintro x1 w9 ⟨v1,rfl,ho9,hb9⟩;obtain ⟨Cd,k1,rfl, -, -⟩:=Kd.CV ho9;have HO9:=As (Gg HO.out hb9 ho9 HBr.out.1.size);have hq9:=HQ.out.up hb9;have HQ9:=As hq9;have HB9:=As (bj HBr.out.1 hb9);have HP9:=As (HPr.out.up hb9);have g1:=hq9.frz 1;have q0':=hq9.c0;have q1':=hq9.c1;have q2':=hq9.c2;have q3':=hq9.c3;have q4':=hq9.c4;have hp:=HP9.out;have y0:=hp.c0;have y1:=hp.c1;have y2:=hp.c2;have y3:=hp.c3;have y4:=hp.c4;have f0:=hp.frz 0;have f1:=hp.frz 1;have f2:=hp.frz 2;have f3:=hp.frz 3;have f4:=hp.frz 4;clear hp ho9 hb9 hq9 q0))
    have r1:=HO9.out.Dy HQ9.out 1 (.slice Cd x.disk.length k1)
    have p1:=HP9.out.far (b:=w.heap.size) (by omega) 1 (.slice Cd x.disk.length k1)
    have b1:=HB9.out.setCell (p:=⟨w.heap.size,1,none⟩) HB.out.size (.slice Cd x.disk.length k1)
    have hy:=p1.Ap { x with mem:=x.disk } (.slice Ed x.disk.length n1) (.slice Cd x.disk.length k1) (.slice El x.log.length n3)
    have h1:=r1.Ap (f:={ x with mem:=x.disk }) (xd:=.slice Ed x.disk.length n1) (xm:=(.slice Cd x.disk.length k1)) (xl:=.slice El x.log.length n3) p1
    have h2:=Aj (g:=w.heap.size + 1) b1 (by have:=HB.out.size;omega) { x with mem:=x.disk } (.slice Ed x.disk.length n1) (.slice Cd x.disk.length k1) (.slice El x.log.length n3)
    have z0:=hy.c0
    have z1:=hy.c1
    have z2:=hy.c2
    have z3:=hy.c3
    have z4:=hy.c4
    simp only at z0 z1 z2 z3 z4
    exact bodyPost_ret (v:=.tuple #[.agg #[.slice Ed x.disk.length n1, .slice Cd x.disk.length k1, .slice El x.log.length n3, .int .i64 x.safe, .bool x.down], .bool false]) (by simp [results,Tryz.results48,go_sem,z0,z1,z2,z3,z4]) rfl ⟨.slice Ed x.disk.length n1, .slice Cd x.disk.length k1, .slice El x.log.length n3,by rw [HU.out.1,HU.out.2],by rw [HU.out.1];exact h1,h2⟩
def X4 (w0 w : World) (vd vm vl : Value) (e : Eng) (x : Ending) (w' : World) : Prop:=x = .returned (e.ag vd vm vl) ∧ Aw w' w0.heap.size vd vm vl e ∧ Below w0.heap.size w0 w' ∧ Kept w w' (fun k => some k = vd.ownBlock)
set_option maxRecDepth 100000 in
set_option maxHeartbeats 16000000 in
theorem JQ {w0 w : World} {vd vm vl : Value} {e : Eng} {p : Nat} (hp : p < 5) (hgd : geo e.disk) (hgm : geo e.mem) (hb : Below w0.heap.size w0 w) (ho : Aw w w0.heap.size vd vm vl e) : Calls Tryz.prog 62 #[e.ag vd vm vl, .int .i64 (p : Int)] w (X4 w0 w vd vm vl (Cj e p)):=by
 obtain ⟨Ad,cd,Am,cm,Al,cl,rfl,rfl,rfl, -, -⟩:=ho.reads
 obtain ⟨w1a,hw1a⟩ : ∃ w1a,w.alloc (e.obox (.slice Ad e.disk.length cd) (.slice Am e.mem.length cm) (.slice Al e.log.length cl)) = w1a:=⟨_,rfl⟩
 obtain ⟨w1,hw1⟩ : ∃ w1,w1a.alloc (zE.obox (.slice none 0 0) (.slice none 0 0) (.slice none 0 0)) = w1:=⟨_,rfl⟩
 have hza : w1a.heap.size = w.heap.size + 1:=by rw [← hw1a];exact BD _ _
 have hz1 : w1.heap.size = w.heap.size + 2:=by rw [← hw1,BD,hza]
 have hba : Below w1a.heap.size w1a w1:=by rw [← hw1];exact Aa (Below.refl _ _) _
 have hb1 : Below w.heap.size w w1:=by rw [← hw1, ← hw1a];exact Aa (Aa (Below.refl _ _) _) _
 have hq : Ab w1 w.heap.size e (.slice Ad e.disk.length cd) (.slice Am e.mem.length cm) (.slice Al e.log.length cl):=Ab.up (by rw [← hw1a];exact Ab.mk1 _ _ _ _ _) hba
 have HP1 : A7 (Ab w1 (w.heap.size + 1) zE (.slice none 0 0) (.slice none 0 0) (.slice none 0 0)):=⟨by rw [← hw1, ← hza];exact Ab.mk1 _ _ _ _ _⟩
 have HW1 : A7 ((w.alloc (Obj.cells #[Value.slice Ad e.disk.length cd,Value.slice Am e.mem.length cm,Value.slice Al e.log.length cl,Value.int IntKind.i64 e.safe,Value.bool e.down] 26)).alloc (Obj.cells #[Value.slice none 0 0,Value.slice none 0 0,Value.slice none 0 0,Value.int IntKind.i64 0,Value.bool false] 26) = w1):=⟨by rw [← hw1, ← hw1a];rfl⟩
 have ho1:=ho.below hb1
 have HB1:=As hb1
 have HB:=As hb
 have HZ1:=As hz1
 have hgm5:=hgm.1
 obtain ⟨okd,okm, -, -,hpm⟩:=ho1.ex
 obtain ⟨gm,capm,hAm, -, -⟩:=D9 hpm (by omega)
 injection hAm with hA1 _ hA3
 subst hA1 hA3
 have hpl : p < e.mem.length:=by omega
 have hpli : (p : Int) < (e.mem.length : Int):=by omega
 obtain ⟨A2,c2,p0,p1,p2,pC, -⟩:=F4 hpm p hpl
 have x1:=hq.c1
 have x3:=hq.c3
 have HQ:=As hq
 have HO:=As ho1
 have HGD:=As hgd
 have HGM:=As hgm
 clear hw1a hw1 hza hz1 hba hb1 hb hpm hq ho ho1 hgd p1 p2 pC hgm5 hgm
 go_enter Tryz.func62,Tryz.ntmps62
 go_wp2
 rw [HW1.out]
 refine Bo (fun lx a wx => Un 10 (fun wx => Below w1.heap.size w1 wx) lx a wx ∧ Ys 10 (fun wx => ∃ wy,Below w1.heap.size w1 wy ∧ wx = wy.setCell ⟨w.heap.size,3,none⟩ (.int .i64 (max e.safe (pg e.mem p).lsn))) lx a wx) 11 rfl (by kernel_rfl) (⟨fun _ => Ac (Below.refl _ _),KV⟩) (fun HT => ?_)
 refine Bw [0,1,2,3,4,5,6,7,8,9] ?_
 iterate 10 (refine IY (v:=?_) 10 HT rfl (by kernel_rfl) (by kernel_rfl) rfl (kA (Bj rfl) (Gx rfl)) (by rfl) (fun _ _ _ h => h) (fun lx ax wx hK hS => ?_) ?_;rotate_left;(have hbx:=hS.1 hK;clear hS;replace x1:=bc hbx x1;replace x3:=bc hbx x3;replace p0:=bc hbx p0;go_simp;with_reducible rfl);rotate_left;simp only [sc0,sc1])
 refine Bv ?_
 refine AJ [10] (by kernel_rfl) (fun i hi wx hS => ?_)
 obtain rfl:=List.mem_singleton.1 hi
 clear hi
 have hbx:=hS.1 (by kernel_rfl)
 have q3:=bc hbx x3
 have f3':=(HQ.out.up hbx).frz 3
 refine BH (w1:=wx.setCell ⟨w.heap.size,3,none⟩ (.int .i64 (max e.safe (pg e.mem p).lsn))) rfl (by rfl) (by go_simp) ?_
 refine ⟨⟨fun h => (Ao (by kernel_rfl) h).elim,fun _ => ⟨wx,hbx,rfl⟩⟩,?_⟩
 clear hS hbx q3 f3'
 refine GU (by kernel_rfl) (fun w3 hS => ?_)
 obtain ⟨wy,hbx,rfl⟩:=hS.2 (by kernel_rfl)
 obtain ⟨E,hE⟩ : ∃ E : Eng,{ e with safe:=max e.safe (pg e.mem p).lsn } = E:=⟨_,rfl⟩
 obtain ⟨w3,hw3⟩ : ∃ w3,wy.setCell ⟨w.heap.size,3,none⟩ (.int .i64 (max e.safe (pg e.mem p).lsn)) = w3:=⟨_,rfl⟩
 have hs0:=HB.out.size
 have HQ3 : A7 (Ab w3 w.heap.size E (.slice Ad e.disk.length cd) (.slice (some ⟨gm,0,none⟩) e.mem.length cm) (.slice Al e.log.length cl)):=⟨by rw [← hw3, ← hE];exact (HQ.out.up hbx).CK _⟩
 have HP3 : A7 (Ab w3 (w.heap.size + 1) zE (.slice none 0 0) (.slice none 0 0) (.slice none 0 0)):=⟨by rw [← hw3];exact (HP1.out.up hbx).far (by omega) 3 _⟩
 have ho3 : Aw w3 w0.heap.size (.slice Ad e.disk.length cd) (.slice (some ⟨gm,0,none⟩) e.mem.length cm) (.slice Al e.log.length cl) e:=by rw [← hw3];exact (HO.out.below hbx).Dy (HQ.out.up hbx) 3 _
 have HO3 : A7 (Aw w3 w0.heap.size (.slice Ad e.disk.length cd) (.slice (some ⟨gm,0,none⟩) e.mem.length cm) (.slice Al e.log.length cl) E):=⟨by rw [← hE];exact ⟨ho3.ex,ho3.l⟩⟩
 have HB3 : A7 (Below w0.heap.size w0 w3):=⟨by rw [← hw3];exact (bj HB.out (bj HB1.out hbx)).setCell (p:=⟨w.heap.size,3,none⟩) hs0 _⟩
 have HK3 : A7 (Kept w w3 (fun k => some k = (Value.slice Ad e.disk.length cd).ownBlock)):=⟨by rw [← hw3];exact (Kept.of_below (bj HB1.out hbx) _).setCell (p:=⟨w.heap.size,3,none⟩) (.inr (Nat.le_refl _)) _⟩
 have HED : A7 (E.disk = e.disk ∧ E.mem = e.mem ∧ E.log = e.log):=⟨by rw [← hE];exact ⟨rfl,rfl,rfl⟩⟩
 have HEL : A7 (Cj e p = { E with disk:=E.disk.set p (pg E.mem p) }):=⟨by rw [← hE];rfl⟩
 rw [hw3]
 clear hS hbx x1 x3 p0 ho3 hw3 hE HQ HO HB1 hpl hpli hs0
 have hgm:=HGM.out
 have hgd:=HGD.out
 rw [← HED.out.2.1] at hgm
 rw [← HED.out.1] at hgd
 obtain ⟨okd,okm,hap,hpd,hpm⟩:=HO3.out.ex
 have hpl : p < E.mem.length:=by rw [hgm.1];exact hp
 have hpli : (p : Int) < (e.mem.length : Int):=by rw [HGM.out.1];omega
 have hpd5 : p < E.disk.length:=by rw [hgd.1];exact hp
 have hpdi : (p : Int) < (e.disk.length : Int):=by rw [HGD.out.1];omega
 obtain ⟨gd,capd,hAd, -,hgdl⟩:=D9 hpd (by omega)
 injection hAd with hA1 hA2 hA3
 subst hA1 hA3
 rw [hA2] at hpd
 obtain ⟨A2,c2,p0,p1,p2,pC, -⟩:=F4 hpm p (by rw [HGM.out.1];exact hp)
 have x0:=HQ3.out.c0
 have x1:=HQ3.out.c1
 have HPM:=As hpm
 have HPD:=As hpd
 have HAP:=As hap
 have HC:=As pC
 have HA2:=As hA2
 have HV3:=As (show (pg E.mem p).vals.length ≤ 17592186044416 by rw [Ia hgm hp];omega)
 obtain ⟨q,hqq⟩ : ∃ q,pg E.mem p = q:=⟨_,rfl⟩
 rw [hqq] at p0 p1 p2 HC HV3
 have HEL2 : A7 (Cj e p = { E with disk:=E.disk.set p q }):=⟨by rw [HEL.out,hqq]⟩
 clear hap hpd hpm pC hgdl hqq HEL hgm hgd hA2
 go_wp2
 refine Bo (fun lx a wx => Below w3.heap.size w3 wx ∧ Sl 8 23 (fun v wx => ∃ u,v = q.own u ∧ AA wx w3.heap.size u q.vals) lx a wx) 10 rfl (by kernel_rfl) (⟨Ac (Below.refl _ _),Bp⟩) (fun HT => ?_)
 refine Bw [0,1,2,3,4,5,6,7] ?_
 iterate 8 (refine Bq (v:=?_) HT rfl (by kernel_rfl) rfl (kA Ah (Ak rfl rfl)) (by rfl) (fun _ _ _ h => h) (fun lx ax wx hS => ?_) ?_;rotate_left;(have hbx:=hS.1;clear hS;replace x0:=bc hbx x0;replace x1:=bc hbx x1;replace p0:=bc hbx p0;replace p1:=bc hbx p1;replace p2:=bc hbx p2;go_simp;with_reducible rfl);rotate_left;simp only [sc0,sc1])
 refine Bv ?_
 refine Cr (i:=8) (f:=101) (args:=#[q.val A2 c2]) (fun v => ∃ u,v = q.own u) rfl (by kernel_rfl) rfl Tryz.func101 (by kernel_rfl) rfl rfl (by rfl) (by simp only [List.map_toArray,List.map_cons,List.map_nil];rfl) (fun wx hS => (FU HV3.out hS.1 HC.out).mono (by rintro x w6 ⟨u,rfl,ho,hb⟩;exact ⟨_,rfl,⟨u,rfl⟩,bj hS.1 hb,fun _ => ⟨u,rfl,ho.lower hS.1.size⟩⟩)) (fun vx hg => ?_);simp only [sc0,sc1]
 obtain ⟨u,rfl⟩:=hg
 refine CZ (i:=9) (v:=?_) HT rfl (by kernel_rfl) rfl (kA Ah (Ak rfl rfl)) (by rfl) (fun _ _ _ h => h) (fun lx ax wx hS => ?_) ?_;rotate_left;(go_simp;with_reducible rfl);rotate_left;simp only [sc0,sc1]
 refine Cb (i:=10) (by kernel_rfl) rfl (fun wx hS => ?_)
 obtain ⟨h5x,h2⟩:=hS
 obtain ⟨u1,hu1,hown⟩:=h2 (by kernel_rfl)
 have hu1 : q.own u = q.own u1:=hu1
 obtain rfl : u = u1:=by simpa using hu1
 refine FC (ok:=okd) (w0:=w0) (N:=w3.heap.size) (q:=q) p HA2.out.symm (.tmp 24) (.tmp 23) rfl (by rfl) rfl rfl rfl hown HB3.out.size (by rw [HA2.out];exact Kd.Fe HPD.out h5x) (by rw [HA2.out];exact hpd5) (bj HB3.out h5x) (fun w8 hO8 hB8 hg8 => ?_)
 refine BM (by kernel_rfl) ?_
 rw [HA2.out] at hO8
 have hm8 : Ci _ _ (fun k => okm k ∧ k < w3.heap.size) (.slice (some ⟨gm,0,none⟩) e.mem.length cm) E.mem:=Kd.Fe HPM.out h5x
 have hty:=Kd.FY (Kd.Bg HPD.out h5x) gd (by simp [Value.ownBlock])
 have he8:=Aw.Tc (e:=E) HAP.out hm8 (Kd.C8 HO3.out.l h5x) hown hO8 (Kr HPD.out gd (by simp [Value.ownBlock])) hg8 hty
 have hq8 : Ab w8 w.heap.size E (.slice (some ⟨gd,0,none⟩) e.disk.length cd) (.slice (some ⟨gm,0,none⟩) e.mem.length cm) (.slice Al e.log.length cl):=(hg8.block w.heap.size (by have:=HQ3.out.lt;have:=h5x.size;omega) (fun e2 => by injection e2 with e2;exact GD HQ3.out HPD.out e2)).trans (HQ3.out.up h5x)
 have hp8 : Ab w8 (w.heap.size + 1) zE (.slice none 0 0) (.slice none 0 0) (.slice none 0 0):=(hg8.block (w.heap.size + 1) (by have:=HP3.out.lt;have:=h5x.size;omega) (fun e2 => by injection e2 with e2;exact GD HP3.out HPD.out e2)).trans (HP3.out.up h5x)
 have hk8:=Kept.I5 hg8 (HK3.out.below h5x) (fun k hk => .inl (by rw [← hk];rfl))
 have HX8:=As (And.intro hB8 (And.intro he8 hk8))
 have HP8:=As hp8
 have z0:=hq8.c0
 have z1:=hq8.c1
 have z2:=hq8.c2
 have z3:=hq8.c3
 have z4:=hq8.c4
 have y0:=hp8.c0
 have y1:=hp8.c1
 have y2:=hp8.c2
 have y3:=hp8.c3
 have y4:=hp8.c4
 have f0:=hp8.frz 0
 have f1:=hp8.frz 1
 have f2:=hp8.frz 2
 have f3:=hp8.frz 3
 have f4:=hp8.frz 4
 clear h5x h2 hu1 hown hO8 hB8 hg8 hm8 hty he8 hq8 hp8 hk8 x0 x1 p0 p1 p2 hpl hpli hpd5 hpdi
 go_wp2
 have hs0:=HB.out.size
 have hy:=HP8.out.Ap E (.slice (some ⟨gd,0,none⟩) e.disk.length cd) (.slice (some ⟨gm,0,none⟩) e.mem.length cm) (.slice Al e.log.length cl)
 have h1:=HX8.out.2.1.Ap (f:=E) (xd:=.slice (some ⟨gd,0,none⟩) e.disk.length cd) (xm:=.slice (some ⟨gm,0,none⟩) e.mem.length cm) (xl:=.slice Al e.log.length cl) HP8.out
 have h2:=Aj (g:=w.heap.size + 1) HX8.out.1 (by omega) E (.slice (some ⟨gd,0,none⟩) e.disk.length cd) (.slice (some ⟨gm,0,none⟩) e.mem.length cm) (.slice Al e.log.length cl)
 have h3:=CS (g:=w.heap.size + 1) HX8.out.2.2 (by omega) E (.slice (some ⟨gd,0,none⟩) e.disk.length cd) (.slice (some ⟨gm,0,none⟩) e.mem.length cm) (.slice Al e.log.length cl)
 have u0:=hy.c0
 have u1:=hy.c1
 have u2:=hy.c2
 have u3:=hy.c3
 have u4:=hy.c4
 rw [← HA2.out] at h1
 exact bodyPost_ret (v:=E.ag (.slice (some ⟨gd,0,none⟩) e.disk.length cd) (.slice (some ⟨gm,0,none⟩) e.mem.length cm) (.slice Al e.log.length cl)) (by simp [results,Tryz.results62,go_sem,u0,u1,u2,u3,u4]) rfl (by rw [HEL2.out];exact ⟨rfl,h1,h2,h3⟩)
def Ba (w w' : World) : Prop:=w.heap.size ≤ w'.heap.size ∧ ∀ (g : Nat) (cells : Array Value) (t : TypeId),t ≠ 47 → w.heap[g]? = some (.cells cells t (0,0)) → w'.heap[g]? = some (.cells cells t (0,0))
theorem Ba.refl (w : World) : Ba w w:=⟨Nat.le_refl _,fun _ _ _ _ h => h⟩
theorem Ba.of_below {w w' : World} (h : Below w.heap.size w w') : Ba w w':=⟨h.size,fun g _ _ _ hc => (h.block g (Array.getElem?_eq_some_iff.1 hc).1).trans hc⟩
theorem Ba.Ce {w w1 w2 : World} (h : Ba w w1) (k : Ba w1 w2) : Ba w w2:=⟨Nat.le_trans h.1 k.1,fun g c t ht hc => k.2 g c t ht (h.2 g c t ht hc)⟩
theorem Ba.setCell {w w1 : World} (h : Ba w w1) {p : Addr} (hp : w.heap.size ≤ p.block) (u : Value) : Ba w (w1.setCell p u):=⟨by have:=h.1;simp;omega,fun g c t ht hc => by
 have hg:=(Array.getElem?_eq_some_iff.1 hc).1
 exact (Below.heap_setCell w1 p u g (by omega)).trans (h.2 g c t ht hc)⟩
theorem Ba.Ap {w w1 : World} {g : Nat} (h : Ba w w1) (hg : w.heap.size ≤ g) (e : Eng) (a b c : Value) : Ba w (Go.Proofs.YtjeodgfkilhkhaaGreat.Ap w1 g e a b c):=((((h.setCell (p:=⟨g,0,none⟩) hg _).setCell (p:=⟨g,1,none⟩) hg _).setCell (p:=⟨g,2,none⟩) hg _).setCell (p:=⟨g,3,none⟩) hg _).setCell (p:=⟨g,4,none⟩) hg _
theorem Ba.OY {w w1 : World} {S : Nat → Prop} (hk : Kept w w1 S) (hS : ∀ k,S k → ∃ cells,w.heap[k]? = some (.cells cells 47 (0,0))) : Ba w w1:=⟨hk.1,fun g c t ht hc => by
 refine (hk.2 g (Array.getElem?_eq_some_iff.1 hc).1 (fun hs => ?_)).trans hc
 obtain ⟨cells,h2⟩:=hS g hs
 rw [hc] at h2
 injection h2 with h2
 injection h2 with _ h3
 exact ht h3⟩
theorem Ba.JK {w w1 : World} {b : Nat} {vd vm vl : Value} {e : Eng} (ho : Aw w b vd vm vl e) (hk : IC w vm w1) : Ba w w1:=.OY hk (fun k h => by
 obtain ⟨okd,okm, -, -,hm⟩:=ho.ex
 exact Kd.FY hm k h.symm)
theorem Ba.Qn {w w1 : World} {b : Nat} {vd vm vl : Value} {e : Eng} (ho : Aw w b vd vm vl e) (hk : Kept w w1 (fun k => some k = vd.ownBlock)) : Ba w w1:=.OY hk (fun k h => by
 obtain ⟨okd,okm, -,hd, -⟩:=ho.ex
 exact Kd.FY hd k h.symm)
theorem Ab.JR {w w1 : World} {g : Nat} {q : Eng} {ud um ul : Value} (h : Ab w g q ud um ul) (hk : Ba w w1) : Ab w1 g q ud um ul:=hk.2 g _ _ (by decide) h
def Tq (w0 w : World) (e : Eng) (x : Ending) (w' : World) : Prop := ∃ vd vm vl,x = .returned (e.ag vd vm vl) ∧ Aw w' w0.heap.size vd vm vl e ∧ Below w0.heap.size w0 w' ∧ Ba w w'
def IV (w0 w : World) (e : Eng) (b : Bool) (x : Ending) (w' : World) : Prop := ∃ vd vm vl,x = .returned (.tuple #[e.ag vd vm vl, .bool b]) ∧ Aw w' w0.heap.size vd vm vl e ∧ Below w0.heap.size w0 w' ∧ Ba w w'
def Y0 (w0 w : World) (X : Eng) (x : Ending) (w' : World) : Prop := ∃ vd vm vl,x = .returned (.tuple #[(upE X).ag vd vm vl, .bool (decide (Ai X = 0))]) ∧ Aw w' w0.heap.size vd vm vl (upE X) ∧ Below w0.heap.size w0 w' ∧ Ba w w'
theorem Ig.t {w0 w : World} {vd vm vl : Value} {e q : Eng} {b : Bool} {x : Ending} {w' : World} (ho : Aw w w0.heap.size vd vm vl q) (h : Ig w0 w vm e b x w') : IV w0 w e b x w':=by
 obtain ⟨ud,um,ul,h1,h2,h3,h4⟩:=h
 exact ⟨ud,um,ul,h1,h2,h3,Ba.JK ho h4⟩
set_option maxRecDepth 100000 in
set_option maxHeartbeats 8000000 in
theorem Pj {w0 w : World} {e : Eng} {vd vm vl : Value} (left : Int) (hgd : geo e.disk) (hs0 : 0 ≤ e.safe) (hs1 : e.safe ≤ e.log.length) (hl : e.log.length ≤ 150) (hb : Below w0.heap.size w0 w) (hr : Aw w w0.heap.size vd vm vl e) : Calls Tryz.prog 34 #[e.ag vd vm vl, .int .i64 left] w (Tq w0 w (BL e left)):=by
 obtain ⟨Ad,cd,Am,cm,Al,cl,rfl,rfl,rfl,hcl,hrd⟩:=hr.reads
 obtain ⟨okd,okm, -,hpd, -⟩:=hr.ex
 obtain ⟨w1,hw1⟩ : ∃ w1,w.alloc (e.obox (.slice Ad e.disk.length cd) (.slice Am e.mem.length cm) (.slice Al e.log.length cl)) = w1:=⟨_,rfl⟩
 obtain ⟨w2,hw2⟩ : ∃ w2,w1.alloc (zE.obox (.slice none 0 0) (.slice none 0 0) (.slice none 0 0)) = w2:=⟨_,rfl⟩
 have hz1 : w1.heap.size = w.heap.size + 1:=by rw [← hw1];exact BD _ _
 have hz2 : w2.heap.size = w.heap.size + 1 + 1:=by rw [← hw2,BD,hz1]
 have hb12 : Below w1.heap.size w1 w2:=by rw [← hw2];exact Aa (Below.refl _ _) _
 have hb02 : Below w.heap.size w w2:=by rw [← hw2, ← hw1];exact Aa (Aa (Below.refl _ _) _) _
 have HB2:=As hb02
 have HB:=As hb
 have HQ2 : A7 (Ab w2 w.heap.size e (.slice Ad e.disk.length cd) (.slice Am e.mem.length cm) (.slice Al e.log.length cl)):=⟨Ab.up (by rw [← hw1];exact Ab.mk1 _ _ _ _ _) hb12⟩
 have HP2 : A7 (Ab w2 (w.heap.size + 1) zE (.slice none 0 0) (.slice none 0 0) (.slice none 0 0)):=⟨by rw [← hw2, ← hz1];exact Ab.mk1 _ _ _ _ _⟩
 have HW2 : A7 ((w.alloc (e.obox (.slice Ad e.disk.length cd) (.slice Am e.mem.length cm) (.slice Al e.log.length cl))).alloc (zE.obox (.slice none 0 0) (.slice none 0 0) (.slice none 0 0)) = w2):=⟨by rw [hw1,hw2]⟩
 have HZ2:=As hz2
 have HD2:=As (Kd.Bg hpd hb02)
 have HL2:=As (BF hrd.l hb02)
 have HGD:=As hgd
 have hle:=Gw (left:=left) hs0 hs1
 obtain ⟨n,hn⟩ : ∃ n : Nat,Dj e left = n:=⟨_,rfl⟩
 rw [hn] at hle
 have hmax : max e.safe (min left (e.log.length : Int)) = (n : Int):=by rw [← hn];unfold Dj;omega
 have hncl : n ≤ cl:=by omega
 have hln : (e.log.take n).length = n:=by rw [List.length_take];omega
 have HLn:=As hln
 have HE:=As (show BL e left = ⟨e.disk,e.disk,e.log.take n,e.safe,true⟩ by rw [BL,hn])
 have HTK : A7 (Kd.C kRec w2 Al (e.log.take n).length (e.log.take n)):=⟨KD HL2.out (by omega)⟩
 have HN:=As (show n ≤ 150 by omega)
 have HWB:=As (bj hb hb02)
 have x0:=HQ2.out.c0
 have x2:=HQ2.out.c2
 have x3:=HQ2.out.c3
 clear hw1 hw2 hz1 hz2 hb12 hb02 hb hr hpd hrd hgd hle hn hln hs0 hs1 hl
 go_enter Tryz.func34,Tryz.ntmps34
 go_wp2_with (first
  | ((with_reducible refine OE (.call { callee:=.builtin .append,args:=#[.tmp 5, .tmp 16],argTypes:=#[24,24] }) rfl ?_);go_loud (rw [show (w.alloc (Obj.cells #[Value.slice Ad e.disk.length cd,Value.slice Am e.mem.length cm,Value.slice Al e.log.length cl,Value.int IntKind.i64 e.safe,Value.bool e.down] 26)).alloc (Obj.cells #[Value.slice none 0 0,Value.slice none 0 0,Value.slice none 0 0,Value.int IntKind.i64 0,Value.bool false] 26) = w2 from HW2.out]);go_loud (refine GK (w0:=w2) (xs := []) (ys:=e.log.take n) (A:=Al) (c:=cl) rfl (.tmp 5) (.tmp 16) rfl rfl (by rw [HLn.out];rfl) (rs_empty HZ2.out.symm (Nat.le_refl _)) (BF HTK.out (Aa (Below.refl _ _) _)) (Aa (Below.refl _ _) _) (by rw [HLn.out];have:=HN.out;simp;omega) ?_);intro v1 w3 hO hb3 _;have hO : OwnRs w3 w2.heap.size v1 (e.log.take n):=hO;obtain ⟨Bl,dl,hv, -, -⟩:=Kd.D6 hO;rw [HLn.out] at hv;subst hv;have HO3:=As hO;have HB3:=As hb3;have hq3:=HQ2.out.up hb3;have hp3:=HP2.out.up hb3;have HQ3:=As hq3;have HP3:=As hp3;have f2:=hq3.frz 2;have x0':=hq3.c0;have x2':=hq3.c2;clear hO hb3 hq3 hp3 x0 x2 x3)
  | (go_at_call 68;obtain ⟨w4,hw4⟩ : ∃ w4,w3.setCell ⟨w.heap.size,2,none⟩ (.slice Bl n dl) = w4:=⟨_,rfl⟩;have hz2:=HZ2.out;have hn3:=HB3.out.size;have hq4 : Ab w4 w.heap.size e (.slice Ad e.disk.length cd) (.slice Am e.mem.length cm) (.slice Bl n dl):=(by rw [← hw4];exact HQ3.out.set2 _);have hp4 : Ab w4 (w.heap.size + 1) zE (.slice none 0 0) (.slice none 0 0) (.slice none 0 0):=(by rw [← hw4];exact HP3.out.far (by omega) _ _);have hd4 : Ci w4 w0.heap.size okd (.slice Ad e.disk.length cd) e.disk:=(by rw [← hw4];exact FO (Kd.Bg HD2.out HB3.out) HQ3.out 2 _);have hl4 : OwnRs w4 w2.heap.size (.slice Bl n dl) (e.log.take n):=(by rw [← hw4];exact L9 HO3.out HQ3.out 2 _);have hb4 : Below w0.heap.size w0 w4:=(by rw [← hw4];exact (bj HWB.out HB3.out).setCell (p:=⟨w.heap.size,2,none⟩) HB.out.size _);have hbk4 : Below w.heap.size w w4:=(by rw [← hw4];exact (bj HB2.out HB3.out).setCell (p:=⟨w.heap.size,2,none⟩) (Nat.le_refl _) _);rw [hw4];refine (Cx (w0:=w4) (c:=cd) (ET HGD.out) (by have:=HGD.out.1;omega) (Below.refl _ _) (Kd.NN hd4).2.2).mono ?_;rintro x w5 ⟨v,rfl,ho,hb5⟩;obtain ⟨Bm,dm,rfl, -, -⟩:=Kd.CV ho;have HO5:=As (Aw.Qm (s:=e.safe) (d:=true) hd4 ho hb5 hl4 hb4.size (Nat.le_trans (by rw [hz2];have:=HB.out.size;omega) (Nat.le_refl _)));have HB5:=As (bj hb4 hb5);have HBK5:=As (bj hbk4 hb5);have hq5:=hq4.up hb5;have hp5:=hp4.up hb5;have HQ5:=As hq5;have HP5:=As hp5;have x0:=hq5.c0;have x1:=hq5.c1;have x2:=hq5.c2;have x3:=hq5.c3;have x4:=hq5.c4;have g1:=hq5.frz 1;have g4:=hq5.frz 4;have y0:=hp5.c0;have y1:=hp5.c1;have y2:=hp5.c2;have y3:=hp5.c3;have y4:=hp5.c4;have f0:=hp5.frz 0;have f1:=hp5.frz 1;have f2:=hp5.frz 2;have f3:=hp5.frz 3;have f4:=hp5.frz 4;clear hw4 hz2 hn3 hq4 hp4 hd4 hl4 hb4 hbk4 ho hb5 hq5 hp5 x0' x2'))
 have hgw:=HB.out.size
 have q1:=HQ5.out.set1 (.slice Bm e.disk.length dm)
 have r1:=(HO5.out.Dy HQ5.out 1 (.slice Bm e.disk.length dm)).Dy q1 4 (.bool true)
 have p1:=(HP5.out.far (b:=w.heap.size) (by omega) 1 (.slice Bm e.disk.length dm)).far (b:=w.heap.size) (by omega) 4 (.bool true)
 have b1:=(HB5.out.setCell (p:=⟨w.heap.size,1,none⟩) hgw (.slice Bm e.disk.length dm)).setCell (p:=⟨w.heap.size,4,none⟩) hgw (.bool true)
 have b2:=(HBK5.out.setCell (p:=⟨w.heap.size,1,none⟩) (Nat.le_refl _) (.slice Bm e.disk.length dm)).setCell (p:=⟨w.heap.size,4,none⟩) (Nat.le_refl _) (.bool true)
 have h3:=Aj (g:=w.heap.size + 1) b2 (by omega) ⟨e.disk,e.disk,e.log.take n,e.safe,true⟩ (.slice Ad e.disk.length cd) (.slice Bm e.disk.length dm) (.slice Bl n dl)
 have h1:=r1.Ap (f:=⟨e.disk,e.disk,e.log.take n,e.safe,true⟩) (xd:=.slice Ad e.disk.length cd) (xm:=.slice Bm e.disk.length dm) (xl:=.slice Bl n dl) p1
 have h2:=Aj (g:=w.heap.size + 1) b1 (by omega) ⟨e.disk,e.disk,e.log.take n,e.safe,true⟩ (.slice Ad e.disk.length cd) (.slice Bm e.disk.length dm) (.slice Bl n dl)
 have hy:=p1.Ap ⟨e.disk,e.disk,e.log.take n,e.safe,true⟩ (.slice Ad e.disk.length cd) (.slice Bm e.disk.length dm) (.slice Bl n dl)
 have z0:=hy.c0
 have z1:=hy.c1
 have z2:=hy.c2
 have z3:=hy.c3
 have z4:=hy.c4
 simp only at z0 z1 z2 z3 z4
 exact bodyPost_ret (v:=.agg #[.slice Ad e.disk.length cd, .slice Bm e.disk.length dm, .slice Bl n dl, .int .i64 e.safe, .bool true]) (by simp [results,Tryz.results34,go_sem,z0,z1,z2,z3,z4]) rfl ⟨_,_,_,by rw [HE.out],by rw [HE.out];exact h1,h2,Ba.of_below h3⟩
set_option maxRecDepth 100000 in
set_option maxHeartbeats 16000000 in
theorem RQ {w0 w : World} {e : Eng} {vd vm vl : Value} (n : Nat) (hgd : geo e.disk) (hlog : Au e.log = true) (hro : DY (Cc e)) (hb : Below w0.heap.size w0 w) (hr : Aw w w0.heap.size vd vm vl e) : Calls Tryz.prog 48 #[e.ag vd vm vl, .int .i64 (n : Int)] w (Y0 w0 w (BJ n (Cc e))):=by
 obtain ⟨Ad,cd,Am,cm,Al,cl,rfl,rfl,rfl,hcl,hrd⟩:=hr.reads
 obtain ⟨w1a,hw1a⟩ : ∃ w1a,w.alloc (e.obox (.slice Ad e.disk.length cd) (.slice Am e.mem.length cm) (.slice Al e.log.length cl)) = w1a:=⟨_,rfl⟩
 obtain ⟨w1,hw1⟩ : ∃ w1,w1a.alloc (zE.obox (.slice none 0 0) (.slice none 0 0) (.slice none 0 0)) = w1:=⟨_,rfl⟩
 have hza : w1a.heap.size = w.heap.size + 1:=by rw [← hw1a];exact BD _ _
 have hz1 : w1.heap.size = w.heap.size + 2:=by rw [← hw1,BD,hza]
 have hba : Below w1a.heap.size w1a w1:=by rw [← hw1];exact Aa (Below.refl _ _) _
 have hb1 : Below w.heap.size w w1:=by rw [← hw1, ← hw1a];exact Aa (Aa (Below.refl _ _) _) _
 have HQ1 : A7 (Ab w1 w.heap.size e (.slice Ad e.disk.length cd) (.slice Am e.mem.length cm) (.slice Al e.log.length cl)):=⟨Ab.up (by rw [← hw1a];exact Ab.mk1 _ _ _ _ _) hba⟩
 have HP1 : A7 (Ab w1 (w.heap.size + 1) zE (.slice none 0 0) (.slice none 0 0) (.slice none 0 0)):=⟨by rw [← hw1, ← hza];exact Ab.mk1 _ _ _ _ _⟩
 have HW1 : A7 ((w.alloc (e.obox (.slice Ad e.disk.length cd) (.slice Am e.mem.length cm) (.slice Al e.log.length cl))).alloc (zE.obox (.slice none 0 0) (.slice none 0 0) (.slice none 0 0)) = w1):=⟨by rw [hw1a,hw1]⟩
 have HZ1:=As hz1
 have HB1:=As hb1
 have HB:=As hb
 have HO1:=As (hr.below hb1)
 have HC1:=As (hrd.up hb1)
 obtain ⟨X,hX⟩ : ∃ X,BJ n (Cc e) = X:=⟨_,rfl⟩
 obtain ⟨R,hR⟩ : ∃ R,BI e.disk e.log e.log.length = R:=⟨_,rfl⟩
 have hst : Cc e = { e with mem:=R }:=by rw [Cc,hR]
 rw [hX]
 rw [hst] at hro hX
 have HRR:=As hR
 have HRO:=As hro
 have HRX:=As hX
 have HGD:=As hgd
 have HLOG:=As hlog
 have HLG:=As (BA hlog)
 have x0:=HQ1.out.c0
 have x2:=HQ1.out.c2
 clear hw1a hw1 hza hz1 hba hb1 hb hr hrd hX hR hst hro hgd hlog
 go_enter Tryz.func48,Tryz.ntmps48
 go_wp2_with (first
  | (go_at_call 54;rw [show (w.alloc (Obj.cells #[Value.slice Ad e.disk.length cd,Value.slice Am e.mem.length cm,Value.slice Al e.log.length cl,Value.int IntKind.i64 e.safe,Value.bool e.down] 26)).alloc (Obj.cells #[Value.slice none 0 0,Value.slice none 0 0,Value.slice none 0 0,Value.int IntKind.i64 0,Value.bool false] 26) = w1 from HW1.out];refine (Gp (c:=cd) (d:=cl) HGD.out (fun k hk => (Ag HLOG.out hk).ok) HLG.out (Below.refl w1.heap.size w1) HC1.out.d HC1.out.l).mono ?_;rw [HRR.out];rintro x w2 ⟨v,rfl,ho,hb2⟩;obtain ⟨Bn,dn,rfl, -, -⟩:=Kd.CV ho;have HO2:=As (Gg HO1.out hb2 ho (by have:=HB.out.size;have:=HB1.out.size;omega));have hq2:=HQ1.out.up hb2;have HQ2:=As hq2;have HP2:=As (HP1.out.up hb2);have HX2:=As (bj HB1.out hb2);have HN2:=As hb2.size;have g1:=hq2.frz 1;have x1':=hq2.c1;clear ho hb2 hq2 x0 x2))
 obtain ⟨w3,hw3⟩ : ∃ w3,w2.setCell ⟨w.heap.size,1,none⟩ (.slice Bn R.length dn) = w3:=⟨_,rfl⟩
 have hq3 : Ab w3 w.heap.size { e with mem:=R } (.slice Ad e.disk.length cd) (.slice Bn R.length dn) (.slice Al e.log.length cl):=by rw [← hw3];exact HQ2.out.set1 _
 have hp3 : Ab w3 (w.heap.size + 1) zE (.slice none 0 0) (.slice none 0 0) (.slice none 0 0):=by rw [← hw3];exact HP2.out.far (by omega) _ _
 have ho3 : Aw w3 w0.heap.size (.slice Ad e.disk.length cd) (.slice Bn R.length dn) (.slice Al e.log.length cl) { e with mem:=R }:=by rw [← hw3];exact HO2.out.Dy HQ2.out 1 _
 have hb3 : Below w0.heap.size w0 w3:=by rw [← hw3];exact (bj HB.out HX2.out).setCell (p:=⟨w.heap.size,1,none⟩) HB.out.size _
 have hn3 : w.heap.size + 2 ≤ w3.heap.size:=by
  have h1:=HZ1.out
  have h2:=HN2.out
  have h3 : w3.heap.size = w2.heap.size:=by rw [← hw3];simp
  omega
 have hk3 : Ba w w3:=Ba.of_below (by rw [← hw3];exact HX2.out.setCell (p:=⟨w.heap.size,1,none⟩) (Nat.le_refl _) _)
 rw [hw3]
 have HE3 : A7 (∃ vd vm vl,Ab w3 w.heap.size { e with mem:=R } vd vm vl ∧ Aw w3 w0.heap.size vd vm vl { e with mem:=R }):=⟨⟨_,_,_,hq3,ho3⟩⟩
 have HP3:=As hp3
 have HB3 : A7 (Below w0.heap.size w0 w3 ∧ w.heap.size + 2 ≤ w3.heap.size ∧ Ba w w3):=⟨⟨hb3,hn3,hk3⟩⟩
 have hroom:=HRO.out.room'
 clear hw3 hq3 hp3 ho3 hb3 hn3 hk3 g1 x1'
 go_loopw [6] (fun i wr => ∃ (k : Nat) (x : Eng),k ≤ n ∧ i = .int .i64 (k : Int) ∧ A7 (∃ vd vm vl,Ab wr w.heap.size x vd vm vl ∧ Aw wr w0.heap.size vd vm vl x) ∧ A7 (Ab wr (w.heap.size + 1) zE (.slice none 0 0) (.slice none 0 0) (.slice none 0 0)) ∧ A7 (Below w0.heap.size w0 wr ∧ w.heap.size + 2 ≤ wr.heap.size ∧ Ba w wr) ∧ A7 (DY x ∧ BJ (n - k) x = X) ∧ k + AR x.log x.log.length ≤ 150) (fun i _ => (n - intOf i).toNat)
 case atStart => exact ⟨0,{ e with mem:=R },Nat.zero_le _,rfl,HE3,HP3,HB3,⟨HRO.out,HRX.out⟩,by show 0 + AR e.log e.log.length ≤ 150;have : e.log.length + AR e.log e.log.length ≤ 150:=hroom;omega⟩
 case round =>
  obtain ⟨k,x,hk,rfl,HEG,HPr,HBr,HRK,hkn⟩:=hrel
  obtain ⟨vd,vm,vl,hq,ho⟩:=HEG.out
  obtain ⟨Ed,n1,Em,n2,El,n3,rfl,rfl,rfl, -,hc⟩:=ho.reads
  have HQ:=As hq
  have HO:=As ho
  have HC:=As hc
  obtain ⟨t,ht⟩ : ∃ t,Ai x = t:=⟨_,rfl⟩
  have hfirst : ∀ wx,Kd.C kRec wx El x.log.length x.log → Calls Tryz.prog 84 #[.slice El x.log.length n3] wx fun y w' => y = .returned (.int .i64 t) ∧ wx = w':=fun wx hc => ht ▸ JP (c:=n3) (Below.refl _ _) hc
  have HFI:=As hfirst
  have hx2:=hq.c2
  clear hq ho hc hfirst
  by_cases h0 : t = 0
  ·subst h0
   have hXx : X = x:=by rw [← HRK.out.2,KE ht]
   have HU:=As (show upE X = { x with down:=false } ∧ decide (Ai X = 0) = true from ⟨by rw [hXx,upE,if_pos ht],by rw [hXx];simp [ht]⟩)
   clear hXx ht hkn hroom
   have q0:=HQ.out.c0
   have q1:=HQ.out.c1
   have q3:=HQ.out.c3
   have q4:=HQ.out.c4
   have g4:=HQ.out.frz 4
   have hp:=HPr.out
   have y0:=hp.c0
   have y1:=hp.c1
   have y2:=hp.c2
   have y3:=hp.c3
   have y4:=hp.c4
   have f0:=hp.frz 0
   have f1:=hp.frz 1
   have f2:=hp.frz 2
   have f3:=hp.frz 3
   have f4:=hp.frz 4
   clear hp
   by_cases hlt : k < n
   all_goals
    go_wp2_with (go_at_call 84;refine (HFI.out _ HC.out.l).mono ?_;rintro y w' ⟨rfl,rfl⟩)
    have r1:=HO.out.Dy HQ.out 4 (.bool false)
    have p1:=HPr.out.far (b:=w.heap.size) (by omega) 4 (.bool false)
    have b1:=HBr.out.1.setCell (p:=⟨w.heap.size,4,none⟩) HB.out.size (.bool false)
    have hy:=p1.Ap { x with down:=false } (.slice Ed x.disk.length n1) (.slice Em x.mem.length n2) (.slice El x.log.length n3)
    have h1:=r1.Ap (f:={ x with down:=false }) (xd:=.slice Ed x.disk.length n1) (xm:=(.slice Em x.mem.length n2)) (xl:=.slice El x.log.length n3) p1
    have h2:=Aj (g:=w.heap.size + 1) b1 (by have:=HB.out.size;omega) { x with down:=false } (.slice Ed x.disk.length n1) (.slice Em x.mem.length n2) (.slice El x.log.length n3)
    have k3:=(HBr.out.2.2.setCell (p:=⟨w.heap.size,4,none⟩) (Nat.le_refl _) (.bool false)).Ap (g:=w.heap.size + 1) (Nat.le_succ _) { x with down:=false } (.slice Ed x.disk.length n1) (.slice Em x.mem.length n2) (.slice El x.log.length n3)
    have z0:=hy.c0
    have z1:=hy.c1
    have z2:=hy.c2
    have z3:=hy.c3
    have z4:=hy.c4
    simp only at z0 z1 z2 z3 z4
    exact bodyPost_ret (v:=.tuple #[.agg #[.slice Ed x.disk.length n1, .slice Em x.mem.length n2, .slice El x.log.length n3, .int .i64 x.safe, .bool false], .bool true]) (by simp [results,Tryz.results48,go_sem,z0,z1,z2,z3,z4]) rfl ⟨.slice Ed x.disk.length n1, .slice Em x.mem.length n2, .slice El x.log.length n3,by rw [HU.out.1,HU.out.2],by rw [HU.out.1];exact ⟨h1.ex,h1.l⟩,h2,k3⟩
  ·have hne : Ai x ≠ 0:=by rw [ht];exact h0
   have htp : decide (0 < t) = true:=by
    have:=QO hne
    rw [ht] at this
    exact decide_eq_true this
   by_cases hlt : k < n
   ·obtain ⟨hso,hro',hnd⟩:=HRK.out.1.step hne
    have hrk : BJ (n - (k + 1)) (AY x (Ai x)) = X:=by
     have h:=HRK.out.2
     rw [show n - k = (n - (k + 1)) + 1 by omega,BJ,if_neg hne] at h
     exact h
    rw [ht] at hso hro' hnd hrk
    obtain ⟨E,hEE⟩ : ∃ E,AY x t = E:=⟨_,rfl⟩
    have hstep : ∀ wx,Below w0.heap.size w0 wx → Aw wx w0.heap.size (.slice Ed x.disk.length n1) (.slice Em x.mem.length n2) (.slice El x.log.length n3) x → Calls Tryz.prog 85 #[x.val Ed Em El n1 n2 n3, .int .i64 t] wx (Vu w0 wx (.slice Em x.mem.length n2) E):=fun wx hb ho => hEE ▸ IL hso hb ho
    rw [hEE] at hro' hnd hrk
    have HST:=As hstep
    have HNX:=As (And.intro hro' hrk)
    have HND:=As (show k + 1 + AR E.log E.log.length ≤ 150 by omega)
    have hk150 : k ≤ 150:=by omega
    have hwr : IntKind.i64.wrap ((k : Int) + 1) = (k : Int) + 1:=by simp (disch:=omega) only [IntWalk.i64_in]
    clear hso hro' hnd hrk hEE hstep ht h0 hne hkn hroom
    go_wp2_with (go_at_call 84;refine (HFI.out _ HC.out.l).mono ?_;rintro y w' ⟨rfl,rfl⟩)
    refine Bo (fun lx a wx => (Below w0.heap.size w0 wx ∧ IC wr (.slice Em x.mem.length n2) wx) ∧ (Un 4 (fun wx => Below wr.heap.size wr wx) lx a wx ∧ Sl 4 28 (fun v wx => ∃ ud um ul,v = E.ag ud um ul ∧ Aw wx w0.heap.size ud um ul E) lx a wx)) 5 rfl (by kernel_rfl) (⟨⟨Ac HBr.out.1,Kept.drew (Kept.refl _ _)⟩,fun _ => Ac (Below.refl _ _),Bp⟩) (fun HT => ?_)
    refine Bw [0,1,2] ?_
    iterate 3 (refine Bq (v:=?_) HT rfl (by kernel_rfl) rfl (kA Ah (kA (Bj rfl) (Ak rfl rfl))) (by rfl) (fun _ _ _ h => h) (fun lx ax wx hS => ?_) ?_;rotate_left;(have hk':=hS.1.2;clear hS;have hq:=HQ.out.GQ HO.out hk';have x0:=hq.c0;have x1:=hq.c1;have x2:=hq.c2;have x3:=hq.c3;have x4:=hq.c4;clear hq;go_simp;with_reducible rfl);rotate_left;simp only [sc0,sc1])
    refine Bv ?_
    refine JH (i:=3) (f:=84) (v:=.int .i64 t) (args:=#[.slice El x.log.length n3]) HT rfl (by kernel_rfl) rfl Tryz.func84 (by kernel_rfl) rfl rfl (kA Ah (kA (Bj rfl) (Ak rfl rfl))) (by rfl) (fun _ _ _ h => h) (by simp only [List.map_toArray,List.map_cons,List.map_nil];rfl) (fun lx ax wx hS => (HFI.out wx (HO.out.XI hS.1.2)).mono fun _ w' h => ⟨h.1,h.2 ▸ hS⟩) ?_;simp only [sc0,sc1]
    refine Cr (i:=4) (f:=85) (args:=#[x.val Ed Em El n1 n2 n3, .int .i64 t]) (fun v => ∃ ud um ul,v = E.ag ud um ul) rfl (by kernel_rfl) rfl Tryz.func85 (by kernel_rfl) rfl rfl (by rfl) (by simp only [List.map_toArray,List.map_cons,List.map_nil];rfl) (fun wx hS => (HST.out wx hS.1.1 (HO.out.below (hS.2.1 (by kernel_rfl)))).mono (by rintro y w6 ⟨ud,um,ul,rfl,ho,hb,hk6⟩;exact ⟨_,rfl,⟨ud,um,ul,rfl⟩,⟨hb,hS.1.2.Ce hk6 (fun k hk => .inl hk)⟩,fun h => (Ao (by kernel_rfl) h).elim,fun _ => ⟨ud,um,ul,rfl,ho⟩⟩)) (fun vx hg => ?_);simp only [sc0,sc1]
    obtain ⟨ud,um,ul,rfl⟩:=hg
    refine Cb (i:=5) (by kernel_rfl) rfl (fun wx hS => ?_)
    obtain ⟨⟨h1,h2⟩, -,h3⟩:=hS
    obtain ⟨ud',um',ul',hu',hown⟩:=h3 (by kernel_rfl)
    have hu' : E.ag ud um ul = E.ag ud' um' ul':=hu'
    obtain ⟨rfl,rfl,rfl⟩ : ud = ud' ∧ um = um' ∧ ul = ul':=by simpa using hu'
    obtain ⟨Bd,dd,Bm,dm,Bl,dl,rfl,rfl,rfl, -, -⟩:=hown.reads
    have hq5:=HQ.out.GQ HO.out h2
    have hp5:=HPr.out.GQ HO.out h2
    have x0:=hq5.c0
    have x1:=hq5.c1
    have x2:=hq5.c2
    have x3:=hq5.c3
    have x4:=hq5.c4
    have f0:=hq5.frz 0
    have f1:=hq5.frz 1
    have f2:=hq5.frz 2
    have f3:=hq5.frz 3
    have f4:=hq5.frz 4
    refine BH (w1:=Go.Proofs.YtjeodgfkilhkhaaGreat.Ap wx w.heap.size E (.slice Bd E.disk.length dd) (.slice Bm E.mem.length dm) (.slice Bl E.log.length dl)) rfl (by rfl) (by go_simp) ?_
    have hq6:=hq5.Ap E (.slice Bd E.disk.length dd) (.slice Bm E.mem.length dm) (.slice Bl E.log.length dl)
    have ho6:=hown.Ap (f:=E) (xd:=.slice Bd E.disk.length dd) (xm:=.slice Bm E.mem.length dm) (xl:=.slice Bl E.log.length dl) hq5
    have hp6 : Ab (Go.Proofs.YtjeodgfkilhkhaaGreat.Ap wx w.heap.size E (.slice Bd E.disk.length dd) (.slice Bm E.mem.length dm) (.slice Bl E.log.length dl)) (w.heap.size + 1) zE (.slice none 0 0) (.slice none 0 0) (.slice none 0 0):=((((hp5.far (b:=w.heap.size) (by omega) 0 _).far (b:=w.heap.size) (by omega) 1 _).far (b:=w.heap.size) (by omega) 2 _).far (b:=w.heap.size) (by omega) 3 _).far (b:=w.heap.size) (by omega) 4 _
    have hb6:=Aj (g:=w.heap.size) h1 HB.out.size E (.slice Bd E.disk.length dd) (.slice Bm E.mem.length dm) (.slice Bl E.log.length dl)
    obtain ⟨w9,hw9⟩ : ∃ w9,Go.Proofs.YtjeodgfkilhkhaaGreat.Ap wx w.heap.size E (.slice Bd E.disk.length dd) (.slice Bm E.mem.length dm) (.slice Bl E.log.length dl) = w9:=⟨_,rfl⟩
    have hs9 : w.heap.size + 2 ≤ w9.heap.size:=by
     have h4:=h2.1
     have h5:=HBr.out.2.1
     rw [← hw9]
     simp
     omega
    have hk9 : Ba w w9:=by rw [← hw9];exact (HBr.out.2.2.Ce (Ba.JK HO.out h2)).Ap (Nat.le_refl _) E _ _ _
    rw [hw9] at hq6 ho6 hp6 hb6 ⊢
    have HE9 : A7 (∃ vd vm vl,Ab w9 w.heap.size E vd vm vl ∧ Aw w9 w0.heap.size vd vm vl E):=⟨⟨_,_,_,hq6,ho6⟩⟩
    have HP9:=As hp6
    have HB9 : A7 (Below w0.heap.size w0 w9 ∧ w.heap.size + 2 ≤ w9.heap.size ∧ Ba w w9):=⟨⟨hb6,hs9,hk9⟩⟩
    clear h1 h2 h3 hu' hown hq5 hp5 hq6 ho6 hp6 hb6 hs9 hk9 hw9 x0 x1 x2 x3 x4 f0 f1 f2 f3 f4 hx2
    refine BM (by kernel_rfl) ?_
    go_wp2
    go_roundw
    case rel => exact ⟨k + 1,E,by omega,by go_num,HE9,HP9,HB9,HNX,HND.out⟩
    case measure => simp [intOf];omega
   ·have hkn' : k = n:=by omega
    have hXx : X = x:=by
     have h:=HRK.out.2
     rw [hkn',Nat.sub_self] at h
     exact h.symm
    have HU:=As (show upE X = { x with mem:=x.disk } ∧ decide (Ai X = 0) = false from ⟨by rw [hXx,upE,if_neg hne],by rw [hXx];simp [hne]⟩)
    have HGX:=As (show geo x.disk from by
     have h1:=(Ir n { e with mem:=R }).1
     rw [HRX.out,hXx] at h1
     rw [h1]
     exact HGD.out)
    have q0:=HQ.out.c0
    clear hXx hne h0 ht hkn hroom hkn'
    go_wp2_with (first
     | (go_at_call 84;refine (HFI.out _ HC.out.l).mono ?_;rintro y w' ⟨rfl,rfl⟩)
     | (go_at_call 68;refine (Cx (w0:=wr) (c:=n1) (ET HGX.out) (by have:=HGX.out.1;omega) (Below.refl _ _) HC.out.d).mono ?_;rintro x1 w9 ⟨v1,rfl,ho9,hb9⟩;obtain ⟨Cd,k1,rfl, -, -⟩:=Kd.CV ho9;have HO9:=As (Gg HO.out hb9 ho9 HBr.out.1.size);have hq9:=HQ.out.up hb9;have HQ9:=As hq9;have HB9:=As (bj HBr.out.1 hb9);have HB9K:=As hb9;have HP9:=As (HPr.out.up hb9);have g1:=hq9.frz 1;have q0':=hq9.c0;have q1':=hq9.c1;have q2':=hq9.c2;have q3':=hq9.c3;have q4':=hq9.c4;have hp:=HP9.out;have y0:=hp.c0;have y1:=hp.c1;have y2:=hp.c2;have y3:=hp.c3;have y4:=hp.c4;have f0:=hp.frz 0;have f1:=hp.frz 1;have f2:=hp.frz 2;have f3:=hp.frz 3;have f4:=hp.frz 4;clear hp ho9 hb9 hq9 q0))
    have r1:=HO9.out.Dy HQ9.out 1 (.slice Cd x.disk.length k1)
    have p1:=HP9.out.far (b:=w.heap.size) (by omega) 1 (.slice Cd x.disk.length k1)
    have b1:=HB9.out.setCell (p:=⟨w.heap.size,1,none⟩) HB.out.size (.slice Cd x.disk.length k1)
    have hy:=p1.Ap { x with mem:=x.disk } (.slice Ed x.disk.length n1) (.slice Cd x.disk.length k1) (.slice El x.log.length n3)
    have h1:=r1.Ap (f:={ x with mem:=x.disk }) (xd:=.slice Ed x.disk.length n1) (xm:=(.slice Cd x.disk.length k1)) (xl:=.slice El x.log.length n3) p1
    have h2:=Aj (g:=w.heap.size + 1) b1 (by have:=HB.out.size;omega) { x with mem:=x.disk } (.slice Ed x.disk.length n1) (.slice Cd x.disk.length k1) (.slice El x.log.length n3)
    have k3:=(((HBr.out.2.2.Ce (Ba.of_below HB9K.out)).setCell (p:=⟨w.heap.size,1,none⟩) (Nat.le_refl _) (.slice Cd x.disk.length k1))).Ap (g:=w.heap.size + 1) (Nat.le_succ _) { x with mem:=x.disk } (.slice Ed x.disk.length n1) (.slice Cd x.disk.length k1) (.slice El x.log.length n3)
    have z0:=hy.c0
    have z1:=hy.c1
    have z2:=hy.c2
    have z3:=hy.c3
    have z4:=hy.c4
    simp only at z0 z1 z2 z3 z4
    exact bodyPost_ret (v:=.tuple #[.agg #[.slice Ed x.disk.length n1, .slice Cd x.disk.length k1, .slice El x.log.length n3, .int .i64 x.safe, .bool x.down], .bool false]) (by simp [results,Tryz.results48,go_sem,z0,z1,z2,z3,z4]) rfl ⟨.slice Ed x.disk.length n1, .slice Cd x.disk.length k1, .slice El x.log.length n3,by rw [HU.out.1,HU.out.2],by rw [HU.out.1];exact h1,h2,k3⟩
def Ol (l : List Rec) (page : Int) (n : Nat) : Bool:=(BO l n).any fun m => (rc l (m - 1)).kind == 2 && ((rc l (m - 1)).page == page && (rc l (m - 1)).new != 0)
theorem Rq {l : List Rec} {page : Int} {n : Nat} (h : Bu l (n + 1) ≤ n) : Ol l page (n + 1) = (((rc l n).kind == 2 && ((rc l n).page == page && (rc l n).new != 0)) || Ol l page (Bu l (n + 1))):=by
 simp [Ol,Dk h]
set_option maxRecDepth 100000 in
set_option maxHeartbeats 8000000 in
theorem Ku {w0 w : World} {A : Option Addr} {c : Nat} {l : List Rec} {tx page : Int} {b : Bool} (hv : Q0 l tx page = b) (hb : Below w0.heap.size w0 w) (hr : Kd.C kRec w0 A l.length l) (hl : Au l = true) : Calls Tryz.prog 154 #[.slice A l.length c, .int .i64 tx, .int .i64 page] w fun x w' => x = .returned (.bool b) ∧ Below w.heap.size w w':=by
  have HR:=As hr
  have HB:=As hb
  have HL:=As hl
  have HV : A7 (Ol l page (Ae l tx l.length) = b):=⟨hv⟩
  have hm:=(CY hr).2
  clear hr hb hl hv
  go_enter Tryz.func154,Tryz.ntmps154
  go_wp2_with (go_at_call 93;refine (FT tx HB.out HR.out).mono ?_;rintro e w' ⟨rfl,rfl⟩)
  go_loopw [7] (fun i wr => ∃ k : Nat,k ≤ l.length ∧ i = .int .i64 (k : Int) ∧ A7 (Ol l page k = b) ∧ A7 (Below w.heap.size w wr)) (fun i _ => (intOf i).toNat)
  case atStart => exact ⟨Ae l tx l.length,Bc _ _ _,rfl,HV,⟨Below.refl _ _⟩⟩
  case round =>
    obtain ⟨k,hk,rfl,HK,HW⟩:=hrel
    rcases k with _ | k
    · go_wp2
      go_ret
      exact ⟨Af (by rw [← HK.out,Ol,C9];rfl),HW.out⟩
    · have F:=Ag HL.out (k:=k) (by omega)
      obtain ⟨ad,rfl,QR⟩:=Cs HR.out k (by omega)
      have QW:=QR.up (bj HB.out HW.out)
      have HQW:=As QW
      obtain ⟨z0,z1,z2,z3,z4,z5,z6,z7⟩:=QW
      have HP:=As (Rq (page:=page) F.prev_le)
      have hle:=F.prev_le
      have hnw : (rc l k).kind = 2 → 0 ≤ (rc l k).new:=fun h2 => by
        have h3:=F.ok
        rw [D7] at h3
        omega
      have HF6:=As F.prev
      have HNW:=As hnw
      clear F QR hnw
      rcases BS (rc l k).kind 2 with ⟨e1,b1,c1⟩ | ⟨e1,b1,c1⟩
      all_goals rcases BS (rc l k).page page with ⟨e2,b2,c2⟩ | ⟨e2,b2,c2⟩
      all_goals rcases lts 0 (rc l k).new with ⟨e3,b3,c3⟩ | ⟨e3,b3,c3⟩
      all_goals
        go_wp2_with (with_reducible refine Di (rc l k) ?_;intro w2 hb2 hz2 hq2;clear hz2;have HW2:=As (bj HW.out hb2);obtain ⟨q0,q1,q2,q3,q4,q5,q6,q7⟩:=hq2;simp only [Nat.zero_add] at q1 q2 q3 q4 q5 q6 q7;have z6:=(HQW.out.up hb2).c6;rw [HF6.out] at z6;clear hb2)
        first
          | (go_ret;exact ⟨Af (by rw [← HK.out,HP.out,b1,b2,show ((rc l k).new != 0) = true by have:=e3.out;simp;omega];rfl),HW2.out⟩)
          | (go_roundw
             case rel => exact ⟨Bu l (k + 1),by omega,rfl,⟨by
               rw [← HK.out,HP.out]
               have h3:=e3.out
               first
                 | rw [b1,Bool.false_and,Bool.false_or]
                 | rw [b1,b2,Bool.false_and,Bool.and_false,Bool.false_or]
                 | rw [b1,b2,show ((rc l k).new != 0) = false by have:=HNW.out e1.out;simp;omega];rfl⟩,HW2⟩
             case measure => simp [intOf];omega)
set_option maxRecDepth 100000 in
set_option maxHeartbeats 8000000 in
theorem TK {w0 w : World} {e : Eng} {Ad Am Al : Option Addr} {cd cm cl : Nat} (steps : Int) (hcl : e.log.length ≤ cl) (hb : Below w0.heap.size w0 w) (hr : Ff w0 e Ad Am Al) : Calls Tryz.prog 22 #[e.val Ad Am Al cd cm cl, .int .i64 steps] w (OL w (upR e steps).1 (upR e steps).2):=by
 have HR:=As (hr.up hb)
 clear hr hb
 obtain ⟨w1,hw1⟩ : ∃ w1,w.alloc (e.obox (.slice Ad e.disk.length cd) (.slice Am e.mem.length cm) (.slice Al e.log.length cl)) = w1:=⟨_,rfl⟩
 obtain ⟨w2,hw2⟩ : ∃ w2,w1.alloc (zE.obox (.slice none 0 0) (.slice none 0 0) (.slice none 0 0)) = w2:=⟨_,rfl⟩
 have hz1 : w1.heap.size = w.heap.size + 1:=by rw [← hw1];exact BD _ _
 have hz2 : w2.heap.size = w.heap.size + 2:=by rw [← hw2,BD,hz1]
 have hb12 : Below w1.heap.size w1 w2:=by rw [← hw2];exact Aa (Below.refl _ _) _
 have HB2 : A7 (Below w.heap.size w w2):=⟨by rw [← hw2, ← hw1];exact Aa (Aa (Below.refl _ _) _) _⟩
 have HQ2 : A7 (Ab w2 w.heap.size e (.slice Ad e.disk.length cd) (.slice Am e.mem.length cm) (.slice Al e.log.length cl)):=⟨Ab.up (by rw [← hw1];exact Ab.mk1 _ _ _ _ _) hb12⟩
 have HP2 : A7 (Ab w2 (w.heap.size + 1) zE (.slice none 0 0) (.slice none 0 0) (.slice none 0 0)):=⟨by rw [← hw2, ← hz1];exact Ab.mk1 _ _ _ _ _⟩
 have HW2 : A7 ((w.alloc (e.obox (.slice Ad e.disk.length cd) (.slice Am e.mem.length cm) (.slice Al e.log.length cl))).alloc (zE.obox (.slice none 0 0) (.slice none 0 0) (.slice none 0 0)) = w2):=⟨by rw [hw1,hw2]⟩
 have HZ2:=As hz2
 clear hw1 hw2 hz1 hz2 hb12
 have x0:=HQ2.out.c0
 have x1:=HQ2.out.c1
 have x2:=HQ2.out.c2
 have x3:=HQ2.out.c3
 have x4:=HQ2.out.c4
 cases hv : eOk e
 ·have HV:=As hv
  have hE : upR e steps = (zE,false):=by rw [upR,if_neg (by rw [hv];simp)]
  rw [hE]
  clear hv hE
  go_enter Tryz.func22,Tryz.ntmps22
  go_wp2_with (go_at_call 24;rw [show (w.alloc (Obj.cells #[Value.slice Ad e.disk.length cd,Value.slice Am e.mem.length cm,Value.slice Al e.log.length cl,Value.int IntKind.i64 e.safe,Value.bool e.down] 26)).alloc (Obj.cells #[Value.slice none 0 0,Value.slice none 0 0,Value.slice none 0 0,Value.int IntKind.i64 0,Value.bool false] 26) = w2 from HW2.out];refine (Cw (cd:=cd) (cm:=cm) HV.out hcl HB2.out HR.out).mono ?_;rintro x w3 ⟨rfl,hb3⟩;have HB3:=As (bj HB2.out hb3);have HP3:=As (HP2.out.up hb3);have y0:=HP3.out.c0;have y1:=HP3.out.c1;have y2:=HP3.out.c2;have y3:=HP3.out.c3;have y4:=HP3.out.c4;have f0:=HP3.out.frz 0;have f1:=HP3.out.frz 1;have f2:=HP3.out.frz 2;have f3:=HP3.out.frz 3;have f4:=HP3.out.frz 4;clear hb3)
  obtain ⟨z0,z1,z2,z3,z4⟩:=HP3.out.empty
  exact bodyPost_ret (v:=.tuple #[zEv, .bool false]) (by simp [results,Tryz.results22,go_sem,z0,z1,z2,z3,z4]) rfl ⟨_,_,_,rfl,Hz _ _,Aj (g:=w.heap.size + 1) HB3.out (by omega) zE _ _ _⟩
 ·have HV:=As hv
  have HF:=As (Ct.1 hv)
  clear hv
  rcases lts steps 0 with ⟨e1,b1,c1⟩ | ⟨e1,b1,c1⟩
  ·have hE : upR e steps = (zE,false):=by rw [upR,if_neg (by have:=e1.out;omega)]
   rw [hE]
   clear hE
   have hl0:=e1.out
   go_enter Tryz.func22,Tryz.ntmps22
   go_wp2_with (go_at_call 24;rw [show (w.alloc (Obj.cells #[Value.slice Ad e.disk.length cd,Value.slice Am e.mem.length cm,Value.slice Al e.log.length cl,Value.int IntKind.i64 e.safe,Value.bool e.down] 26)).alloc (Obj.cells #[Value.slice none 0 0,Value.slice none 0 0,Value.slice none 0 0,Value.int IntKind.i64 0,Value.bool false] 26) = w2 from HW2.out];refine (Cw (cd:=cd) (cm:=cm) HV.out hcl HB2.out HR.out).mono ?_;rintro x w3 ⟨rfl,hb3⟩;have HB3:=As (bj HB2.out hb3);have HP3:=As (HP2.out.up hb3);have y0:=HP3.out.c0;have y1:=HP3.out.c1;have y2:=HP3.out.c2;have y3:=HP3.out.c3;have y4:=HP3.out.c4;have f0:=HP3.out.frz 0;have f1:=HP3.out.frz 1;have f2:=HP3.out.frz 2;have f3:=HP3.out.frz 3;have f4:=HP3.out.frz 4;clear hb3)
   obtain ⟨z0,z1,z2,z3,z4⟩:=HP3.out.empty
   exact bodyPost_ret (v:=.tuple #[zEv, .bool false]) (by simp [results,Tryz.results22,go_sem,z0,z1,z2,z3,z4]) rfl ⟨_,_,_,rfl,Hz _ _,Aj (g:=w.heap.size + 1) HB3.out (by omega) zE _ _ _⟩
  ·obtain ⟨n,hn⟩ : ∃ n : Nat,steps = (n : Int):=⟨steps.toNat,by have:=e1.out;omega⟩
   subst hn
   have HLG:=As (BA HF.out.log)
   have hn0 : (0 : Int) ≤ (n : Int):=by omega
   cases hdn : e.down
   all_goals have HDN:=As hdn
   ·have hE : upR e (n : Int) = (e,false):=by rw [upR,if_pos ⟨HV.out,e1.out⟩,if_neg (by rw [hdn];simp)]
    rw [hE]
    clear hE hdn
    go_enter Tryz.func22,Tryz.ntmps22
    go_wp2_with (first
     | (go_at_call 24;rw [show (w.alloc (Obj.cells #[Value.slice Ad e.disk.length cd,Value.slice Am e.mem.length cm,Value.slice Al e.log.length cl,Value.int IntKind.i64 e.safe,Value.bool e.down] 26)).alloc (Obj.cells #[Value.slice none 0 0,Value.slice none 0 0,Value.slice none 0 0,Value.int IntKind.i64 0,Value.bool false] 26) = w2 from HW2.out];refine (Cw (cd:=cd) (cm:=cm) HV.out hcl HB2.out HR.out).mono ?_;rintro x w3 ⟨rfl,hb3⟩;have HB3:=As (bj HB2.out hb3);have HX3:=As hb3;replace x0:=bc hb3 x0;replace x1:=bc hb3 x1;replace x2:=bc hb3 x2;replace x3:=bc hb3 x3;replace x4:=bc hb3 x4;clear hb3)
     | (go_at_call 35;refine (Gr (cd:=cd) (cm:=cm) (cl:=cl) (AZ HF.out.disk) (AZ HF.out.mem) HLG.out HB3.out HR.out).mono ?_;rintro x w4 ⟨vd,vm,vl,rfl,ho,hb4⟩;obtain ⟨Bd,dd,Bm,dm,Bl,dl,rfl,rfl,rfl, -, -⟩:=ho.reads;have HO4:=As (ho.lower (b':=w2.heap.size) HX3.out.size);have HB4:=As (bj HX3.out hb4);replace x4:=bc hb4 x4;rw [HDN.out] at x4;clear ho hb4 x0 x1 x2 x3)
     | (refine Ca (vd:=.slice Bd e.disk.length dd) (vm:=.slice Bm e.mem.length dm) (vl:=.slice Bl e.log.length dl) e ?_;intro w5 hb5 _ hq5;have HO5:=As (HO4.out.below hb5);have HX5:=As (bj HB4.out hb5);have a0:=hq5.c0;have a1:=hq5.c1;have a2:=hq5.c2;have a3:=hq5.c3;have a4:=hq5.c4;replace x4:=bc hb5 x4;have HP5:=As (HP2.out.up HX5.out);have y0:=HP5.out.c0;have y1:=HP5.out.c1;have y2:=HP5.out.c2;have y3:=HP5.out.c3;have y4:=HP5.out.c4;have f0:=HP5.out.frz 0;have f1:=HP5.out.frz 1;have f2:=HP5.out.frz 2;have f3:=HP5.out.frz 3;have f4:=HP5.out.frz 4;clear hb5 hq5))
    have hz:=HZ2.out
    have hy:=HP5.out.Ap e (.slice Bd e.disk.length dd) (.slice Bm e.mem.length dm) (.slice Bl e.log.length dl)
    have h1:=HO5.out.Ap (f:=e) (xd:=.slice Bd e.disk.length dd) (xm:=.slice Bm e.mem.length dm) (xl:=.slice Bl e.log.length dl) HP5.out
    have h2:=Aj (g:=w.heap.size + 1) (bj HB2.out HX5.out) (by omega) e (.slice Bd e.disk.length dd) (.slice Bm e.mem.length dm) (.slice Bl e.log.length dl)
    have z0:=hy.c0
    have z1:=hy.c1
    have z2:=hy.c2
    have z3:=hy.c3
    have z4:=hy.c4
    exact bodyPost_ret (v:=.tuple #[e.ag (.slice Bd e.disk.length dd) (.slice Bm e.mem.length dm) (.slice Bl e.log.length dl), .bool false]) (by simp [results,Tryz.results22,go_sem,z0,z1,z2,z3,z4]) rfl ⟨_,_,_,rfl,h1.lower (by omega),h2⟩
   ·obtain ⟨X,hX⟩ : ∃ X,BJ n (Cc e) = X:=⟨_,rfl⟩
    have hE : upR e (n : Int) = (upE X,decide (Ai X = 0)):=by rw [upR,if_pos ⟨HV.out,e1.out⟩,if_pos hdn,Int.toNat_natCast,hX]
    rw [hE]
    obtain ⟨E,hEE⟩ : ∃ E,upE X = E:=⟨_,rfl⟩
    obtain ⟨B,hBB⟩ : ∃ B,decide (Ai X = 0) = B:=⟨_,rfl⟩
    have hup : ∀ wx vd vm vl,Aw wx w2.heap.size vd vm vl e → Below w2.heap.size w2 wx → Calls Tryz.prog 48 #[e.ag vd vm vl, .int .i64 (n : Int)] wx fun x w' => ∃ ud um ul,x = .returned (.tuple #[E.ag ud um ul, .bool B]) ∧ Aw w' w2.heap.size ud um ul E ∧ Below w2.heap.size w2 w':=fun wx vd vm vl ho hb => by
     have:=QG n (AZ HF.out.disk) HF.out.log HF.out.rise hb ho
     rw [← hEE, ← hBB, ← hX]
     exact this
    have HUP:=As hup
    rw [hEE,hBB]
    clear hE hdn hup hEE hBB hX
    go_enter Tryz.func22,Tryz.ntmps22
    go_wp2_with (first
     | (go_at_call 24;rw [show (w.alloc (Obj.cells #[Value.slice Ad e.disk.length cd,Value.slice Am e.mem.length cm,Value.slice Al e.log.length cl,Value.int IntKind.i64 e.safe,Value.bool e.down] 26)).alloc (Obj.cells #[Value.slice none 0 0,Value.slice none 0 0,Value.slice none 0 0,Value.int IntKind.i64 0,Value.bool false] 26) = w2 from HW2.out];refine (Cw (cd:=cd) (cm:=cm) HV.out hcl HB2.out HR.out).mono ?_;rintro x w3 ⟨rfl,hb3⟩;have HB3:=As (bj HB2.out hb3);have HX3:=As hb3;replace x0:=bc hb3 x0;replace x1:=bc hb3 x1;replace x2:=bc hb3 x2;replace x3:=bc hb3 x3;replace x4:=bc hb3 x4;clear hb3)
     | (go_at_call 35;refine (Gr (cd:=cd) (cm:=cm) (cl:=cl) (AZ HF.out.disk) (AZ HF.out.mem) HLG.out HB3.out HR.out).mono ?_;rintro x w4 ⟨vd,vm,vl,rfl,ho,hb4⟩;obtain ⟨Bd,dd,Bm,dm,Bl,dl,rfl,rfl,rfl, -, -⟩:=ho.reads;have HO4:=As (ho.lower (b':=w2.heap.size) HX3.out.size);have HB4:=As (bj HX3.out hb4);replace x4:=bc hb4 x4;rw [HDN.out] at x4;clear ho hb4 x0 x1 x2 x3)
     | (refine Ca (vd:=.slice Bd e.disk.length dd) (vm:=.slice Bm e.mem.length dm) (vl:=.slice Bl e.log.length dl) e ?_;intro w5 hb5 _ hq5;have HO5:=As (HO4.out.below hb5);have HX5:=As (bj HB4.out hb5);have a0:=hq5.c0;have a1:=hq5.c1;have a2:=hq5.c2;have a3:=hq5.c3;have a4:=hq5.c4;replace x4:=bc hb5 x4;clear hb5 hq5)
     | (go_at_call 48;refine (HUP.out _ _ _ _ HO5.out HX5.out).mono ?_;rintro x w6 ⟨ud,um,ul,rfl,ho,hb6⟩;obtain ⟨Cd,gd,Cm,gm,Cl,gl,rfl,rfl,rfl, -, -⟩:=ho.reads;have HO6:=As ho;have HB6:=As (bj HB2.out hb6);have HP6:=As (HP2.out.up hb6);have y0:=HP6.out.c0;have y1:=HP6.out.c1;have y2:=HP6.out.c2;have y3:=HP6.out.c3;have y4:=HP6.out.c4;have f0:=HP6.out.frz 0;have f1:=HP6.out.frz 1;have f2:=HP6.out.frz 2;have f3:=HP6.out.frz 3;have f4:=HP6.out.frz 4;clear ho hb6 a0 a1 a2 a3 a4 x4))
    have hz:=HZ2.out
    have hy:=HP6.out.Ap E (.slice Cd E.disk.length gd) (.slice Cm E.mem.length gm) (.slice Cl E.log.length gl)
    have h1:=HO6.out.Ap (f:=E) (xd:=.slice Cd E.disk.length gd) (xm:=.slice Cm E.mem.length gm) (xl:=.slice Cl E.log.length gl) HP6.out
    have h2:=Aj (g:=w.heap.size + 1) HB6.out (by omega) E (.slice Cd E.disk.length gd) (.slice Cm E.mem.length gm) (.slice Cl E.log.length gl)
    have z0:=hy.c0
    have z1:=hy.c1
    have z2:=hy.c2
    have z3:=hy.c3
    have z4:=hy.c4
    exact bodyPost_ret (v:=.tuple #[E.ag (.slice Cd E.disk.length gd) (.slice Cm E.mem.length gm) (.slice Cl E.log.length gl), .bool B]) (by simp [results,Tryz.results22,go_sem,z0,z1,z2,z3,z4]) rfl ⟨_,_,_,rfl,h1.lower (by omega),h2⟩
end Go.Proofs.YtjeodgfkilhkhaaGreat
