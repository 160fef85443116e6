/- A part of the proof: what the last text of the claim says leans on this one. -/
import Derived.Test.YtjeodgfkilhkhaaGreatZP1
import Derived.Test.YtjeodgfkilhkhaaGreatZN2
import Derived.Test.YtjeodgfkilhkhaaGreatZV2
import Derived.Test.YtjeodgfkilhkhaaGreatZI1
import Derived.Test.YtjeodgfkilhkhaaGreatZN1
import Derived.Test.YtjeodgfkilhkhaaGreatZV1
set_option linter.unusedVariables false
set_option linter.unusedSimpArgs false
namespace Go.Proofs.YtjeodgfkilhkhaaGreat
theorem SG {xs ys : List Page} (hl : xs.length = ys.length) (h : ∀ j,j < xs.length → pg xs j = pg ys j) : xs = ys:=by
 apply List.ext_getElem hl
 intro j h1 h2
 have:=h j h1
 simpa [pg,List.getD_eq_getElem?_getD,h1,h2] using this
open Go.RowKit Go.Proofs.YtjeodgfkilhkhaaGreatW.PrintWords Go.Proofs.YtjeodgfkilhkhaaGreatW.PrintLast Go.Proofs.YtjeodgfkilhkhaaGreatW.PrintMore
def OkI (w2 w : World) (ok : Nat → Prop) : Prop := ∀ k,ok k → k < w2.heap.size ∨ ∃ cells,w.heap[k]? = some (.cells cells 3 (0,0))
structure PtA (w w2 wr : World) (gO cap g : Nat) (vd vm vl : Value) (e : Eng) (ps : List Page) : Prop where
 box : Ab wr g e vd vm vl
 own : Aw wr w2.heap.size vd vm vl e
 out : ∃ ok : Nat → Prop,OkI w2 wr ok ∧ Ci wr w.heap.size ok (.slice (some ⟨gO,0,none⟩) 5 cap) ps
 bel : Below w.heap.size w wr
 lo : gO < w2.heap.size
 hi : w.heap.size ≤ gO
 ge : w2.heap.size ≤ g
section
variable {w w2 wr w1 : World} {gO cap g : Nat} {vd vm vl : Value} {e : Eng} {ps qs : List Page}
theorem XQ {k : Nat} {cells : Array Value} {t : TypeId} (h : wr.heap[k]? = some (.cells cells t (0,0))) (hb : Below wr.heap.size wr w1) : w1.heap[k]? = some (.cells cells t (0,0)):=(hb.block k (Array.getElem?_eq_some_iff.1 h).1).trans h
theorem OkI.up {ok : Nat → Prop} (h : OkI w2 wr ok) (hb : Below wr.heap.size wr w1) : OkI w2 w1 ok:=fun k hk => (h k hk).imp id fun ⟨c,hc⟩ => ⟨c,XQ hc hb⟩
theorem OkI.keep {ok : Nat → Prop} (h : OkI w2 wr ok) (hk : Kept wr w1 (fun k => k = gO)) (hlo : gO < w2.heap.size) : OkI w2 w1 ok:=fun k ho => by
 rcases h k ho with h1 | ⟨c,hc⟩
 ·exact .inl h1
 ·by_cases e : k = gO
  ·exact .inl (by omega)
  ·exact .inr ⟨c,(hk.2 k (Array.getElem?_eq_some_iff.1 hc).1 e).trans hc⟩
theorem PtA.below (h : PtA w w2 wr gO cap g vd vm vl e ps) (hb : Below wr.heap.size wr w1) : PtA w w2 w1 gO cap g vd vm vl e ps:=by
 obtain ⟨ok,h1,h2⟩:=h.out
 exact ⟨h.box.up hb,h.own.below hb,⟨ok,h1.up hb,Kd.Bg h2 hb⟩,bj h.bel hb,h.lo,h.hi,h.ge⟩
theorem PtA.row (h : PtA w w2 wr gO cap g vd vm vl e ps) (hO : ∃ ok : Nat → Prop,OkI w2 w1 ok ∧ Ci w1 w.heap.size ok (.slice (some ⟨gO,0,none⟩) 5 cap) qs) (hb : Below w.heap.size w w1) (hk : Kept wr w1 (fun k => k = gO)) : PtA w w2 w1 gO cap g vd vm vl e qs:=by
 have h1:=h.lo
 have h2:=h.ge
 exact ⟨(hk.2 g h.box.lt (by omega)).trans h.box,(h.own.toK.kept hk (fun k hk e => by omega)).E,hO,hb,h.lo,h.hi,h.ge⟩
theorem PtA.size (h : PtA w w2 wr gO cap g vd vm vl e ps) : gO < wr.heap.size:=Nat.lt_trans (Nat.lt_of_lt_of_le h.lo h.ge) h.box.lt
theorem NA (w : World) (g j : Nat) (u : Value) : Kept w (w.setCell ⟨g,j,none⟩ u) (fun k => k = g):=⟨by rw [World.size_setCell];exact Nat.le_refl _,fun k _ hk => Below.heap_setCell w ⟨g,j,none⟩ u k hk⟩
theorem M8 (h : wr.grownBy w1 (some gO)) : Kept wr w1 (fun k => k = gO):=Kept.I5 h (Kept.refl _ _) (fun k e => .inl (by injection e with e;exact e.symm))
theorem PtA.zero (h : PtA w w2 wr gO cap g vd vm vl e ps) {i : Nat} (hi : i < 5) : PtA w w2 (wr.setCell ⟨gO,i * 3,none⟩ (.int .i64 0)) gO cap g vd vm vl e (ps.set i { pg ps i with lsn:=0 }):=by
 obtain ⟨ok,h1,h2⟩:=h.out
 exact h.row ⟨ok,h1.keep (NA _ _ _ _) h.lo,Xx h2 hi 0⟩ (h.bel.setCell (p:=⟨gO,i * 3,none⟩) h.hi _) (NA _ _ _ _)
theorem PtA.stored (h : PtA w w2 wr gO cap g vd vm vl e ps) {N : Nat} {v : Value} {xs : List Int} (hu : AA wr N v xs) (hN : gO < N) {ok : Nat → Prop} (hok : OkI w2 wr ok) (hO : Ci w1 w.heap.size (fun k => ok k ∨ some k = v.ownBlock) (.slice (some ⟨gO,0,none⟩) 5 cap) qs) (hb : Below w.heap.size w w1) (hg : wr.grownBy w1 (some gO)) : PtA w w2 w1 gO cap g vd vm vl e qs:=
 h.row ⟨_,fun k hk => by
  rcases hk with hk | hk
  ·exact hok.keep (M8 hg) h.lo k hk
  ·obtain ⟨c,hc⟩:=Co hu k hk.symm
   have:=BN hu k hk.symm
   exact .inr ⟨c,((M8 hg).2 k (Array.getElem?_eq_some_iff.1 hc).1 (by omega)).trans hc⟩,hO⟩ hb (M8 hg)
theorem VX {b : Nat} {ok : Nat → Prop} {v ud um ul : Value} {q : Eng} (h : Ci wr b ok v ps) (hq : Ab wr g q ud um ul) (f : Eng) (xd xm xl : Value) : Ci (Go.Proofs.YtjeodgfkilhkhaaGreat.Ap wr g f xd xm xl) b ok v ps:=
 FO (FO (FO (FO (FO h hq 0 xd) (hq.set0 xd) 1 xm) ((hq.set0 xd).set1 xm) 2 xl) (((hq.set0 xd).set1 xm).set2 xl) 3 (.int .i64 f.safe)) ((((hq.set0 xd).set1 xm).set2 xl).CK f.safe) 4 (.bool f.down)
theorem Vi {q f : Eng} {ud um ul xd xm xl : Value} {k : Nat} {c : Array Value} (hq : Ab wr g q ud um ul) (h : wr.heap[k]? = some (.cells c 3 (0,0))) : (Go.Proofs.YtjeodgfkilhkhaaGreat.Ap wr g f xd xm xl).heap[k]? = some (.cells c 3 (0,0)):=by
 have hne : k ≠ g:=fun e => by
  subst e
  rw [hq.blk] at h
  injection h with h
  injection h with _ h
  exact absurd h (by decide)
 unfold Go.Proofs.YtjeodgfkilhkhaaGreat.Ap
 rw [Below.heap_setCell _ _ _ k hne,Below.heap_setCell _ _ _ k hne,Below.heap_setCell _ _ _ k hne,Below.heap_setCell _ _ _ k hne,Below.heap_setCell _ _ _ k hne]
 exact h
theorem PtA.put (h : PtA w w2 wr gO cap g vd vm vl e ps) {xd xm xl : Value} {f : Eng} (ho : Aw wr w2.heap.size xd xm xl f) : PtA w w2 (Go.Proofs.YtjeodgfkilhkhaaGreat.Ap wr g f xd xm xl) gO cap g xd xm xl f ps:=by
 obtain ⟨ok,h1,h2⟩:=h.out
 exact ⟨h.box.Ap f xd xm xl,ho.Ap (f:=f) h.box,⟨ok,fun k hk => (h1 k hk).imp id fun ⟨c,hc⟩ => ⟨c,Vi h.box hc⟩,VX h2 h.box f xd xm xl⟩,Aj h.bel (by have:=h.lo;have:=h.hi;have:=h.ge;omega) f xd xm xl,h.lo,h.hi,h.ge⟩
theorem EvBox.kept {b c : Nat} {v : Evt} {A : Option Addr} (h : EvBox wr b v A c) (hk : Kept wr w1 (fun k => k = gO)) (hne : b ≠ gO) : EvBox w1 b v A c:=(hk.2 b h.lt hne).trans h
end
end Go.Proofs.YtjeodgfkilhkhaaGreat
namespace Go.Proofs.YtjeodgfkilhkhaaGreat
open Go.RowKit Go.Proofs.YtjeodgfkilhkhaaGreatW.PrintWords Go.Proofs.YtjeodgfkilhkhaaGreatW.PrintLast Go.Proofs.YtjeodgfkilhkhaaGreatW.PrintMore
theorem Ab.JM {w : World} {g n c : Nat} {e : Eng} {vd vm : Value} {A : Option Addr} (h : Ab w g e vd vm (.slice A n c)) : Go.Proofs.YtjeodgfkilhkhaaGreat.JM w g = n:=by
 unfold Go.Proofs.YtjeodgfkilhkhaaGreat.JM
 rw [h.c2]
set_option maxRecDepth 100000 in
set_option maxHeartbeats 16000000 in
theorem O3 {w0 w : World} {e : Eng} {C : Nat → Page} {B : Nat} {vd vm vl : Value} (tx : Int) (hi : Inv e C B) (hb : Below w0.heap.size w0 w) (hr : Aw w w0.heap.size vd vm vl e) : Calls Tryz.prog 140 #[e.ag vd vm vl, .int .i64 tx] w (IV w0 w (GA e tx (GN e tx)).1 (GA e tx (GN e tx)).2):=by
 obtain ⟨Ad,cd,Am,cm,Al,cl,rfl,rfl,rfl,hcl,hrd⟩:=hr.reads
 obtain ⟨w1a,hw1a⟩ : ∃ w1a,w.alloc (e.obox (.slice Ad e.disk.length cd) (.slice Am e.mem.length cm) (.slice Al e.log.length cl)) = w1a:=⟨_,rfl⟩
 obtain ⟨w1,hw1⟩ : ∃ w1,w1a.alloc (zE.obox (.slice none 0 0) (.slice none 0 0) (.slice none 0 0)) = w1:=⟨_,rfl⟩
 have hza : w1a.heap.size = w.heap.size + 1:=by rw [← hw1a];exact BD _ _
 have hz1 : w1.heap.size = w.heap.size + 2:=by rw [← hw1,BD,hza]
 have hba : Below w1a.heap.size w1a w1:=by rw [← hw1];exact Aa (Below.refl _ _) _
 have hb1 : Below w.heap.size w w1:=by rw [← hw1, ← hw1a];exact Aa (Aa (Below.refl _ _) _) _
 have HQ1 : A7 (Ab w1 w.heap.size e (.slice Ad e.disk.length cd) (.slice Am e.mem.length cm) (.slice Al e.log.length cl)):=⟨Ab.up (by rw [← hw1a];exact Ab.mk1 _ _ _ _ _) hba⟩
 have HP1 : A7 (Ab w1 (w.heap.size + 1) zE (.slice none 0 0) (.slice none 0 0) (.slice none 0 0)):=⟨by rw [← hw1, ← hza];exact Ab.mk1 _ _ _ _ _⟩
 have HW1 : A7 ((w.alloc (Obj.cells #[Value.slice Ad e.disk.length cd,Value.slice Am e.mem.length cm,Value.slice Al e.log.length cl,Value.int IntKind.i64 e.safe,Value.bool e.down] 26)).alloc (Obj.cells #[Value.slice none 0 0,Value.slice none 0 0,Value.slice none 0 0,Value.int IntKind.i64 0,Value.bool false] 26) = w1):=⟨by rw [← hw1, ← hw1a];rfl⟩
 have HZ1:=As hz1
 have HB1:=As hb1
 have HB:=As hb
 have HO1:=As (hr.below hb1)
 have HC1:=As (hrd.up hb1)
 have HI:=As hi
 have x0:=HQ1.out.c0
 have x1:=HQ1.out.c1
 have x2:=HQ1.out.c2
 have x3:=HQ1.out.c3
 have x4:=HQ1.out.c4
 have y0:=HP1.out.c0
 have y1:=HP1.out.c1
 have y2:=HP1.out.c2
 have y3:=HP1.out.c3
 have y4:=HP1.out.c4
 have f0:=HP1.out.frz 0
 have f1:=HP1.out.frz 1
 have f2:=HP1.out.frz 2
 have f3:=HP1.out.frz 3
 have f4:=HP1.out.frz 4
 clear hw1a hw1 hza hz1 hba hb1 hb hr hrd hi
 cases hd : e.down
 rotate_left
 ·rw [show GA e tx (GN e tx) = (e,false) by rw [GA,if_neg (by rw [hd];simp)]]
  have HDN:=As hd
  rw [hd] at x4
  clear hd
  go_enter Tryz.func140,Tryz.ntmps140
  go_wp2_with (first
   | (rw [show (w.alloc (Obj.cells #[Value.slice Ad e.disk.length cd,Value.slice Am e.mem.length cm,Value.slice Al e.log.length cl,Value.int IntKind.i64 e.safe,Value.bool e.down] 26)).alloc (Obj.cells #[Value.slice none 0 0,Value.slice none 0 0,Value.slice none 0 0,Value.int IntKind.i64 0,Value.bool false] 26) = w1 from HW1.out]))
  have hz:=HZ1.out
  have hs0:=HB.out.size
  have hy:=HP1.out.Ap ⟨e.disk,e.mem,e.log,e.safe,true⟩ (.slice Ad e.disk.length cd) (.slice Am e.mem.length cm) (.slice Al e.log.length cl)
  have h1:=HO1.out.Ap (f:=⟨e.disk,e.mem,e.log,e.safe,true⟩) (xd:=.slice Ad e.disk.length cd) (xm:=.slice Am e.mem.length cm) (xl:=.slice Al e.log.length cl) HP1.out
  have h2:=Aj (g:=w.heap.size + 1) (bj HB.out HB1.out) (by omega) ⟨e.disk,e.mem,e.log,e.safe,true⟩ (.slice Ad e.disk.length cd) (.slice Am e.mem.length cm) (.slice Al e.log.length cl)
  have h3:=Aj (g:=w.heap.size + 1) HB1.out (by omega) ⟨e.disk,e.mem,e.log,e.safe,true⟩ (.slice Ad e.disk.length cd) (.slice Am e.mem.length cm) (.slice Al e.log.length cl)
  have z0:=hy.c0
  have z1:=hy.c1
  have z2:=hy.c2
  have z3:=hy.c3
  have z4:=hy.c4
  simp only at z0 z1 z2 z3 z4
  exact bodyPost_ret (v:=.tuple #[.agg #[.slice Ad e.disk.length cd, .slice Am e.mem.length cm, .slice Al e.log.length cl, .int .i64 e.safe, .bool true], .bool false]) (by simp [results,Tryz.results140,go_sem,z0,z1,z2,z3,z4]) rfl ⟨.slice Ad e.disk.length cd, .slice Am e.mem.length cm, .slice Al e.log.length cl,by unfold Eng.ag;rw [HDN.out],h1,h2,Ba.of_below h3⟩
 have HDN:=As hd
 rw [hd] at x4
 clear hd
 obtain ⟨n,hn⟩ : ∃ n : Nat,Ae e.log tx e.log.length = n:=⟨_,rfl⟩
 have HLN:=As hn
 cases h1 : inB tx 1 3
 ·have hn0 : n = 0:=by
   rcases Nat.eq_zero_or_pos n with h | h
   ·exact h
   ·have:=J9 HI.out.core.log (tx:=tx) (by rw [hn];omega)
    rw [show inB tx 1 3 = true from CU.2 (by omega)] at h1
    cases h1
  rw [show GA e tx (GN e tx) = (e,false) by rw [GA,if_neg (by rw [hn,hn0];simp)]]
  have H1:=As h1
  clear h1 hn hn0
  go_enter Tryz.func140,Tryz.ntmps140
  go_wp2_with (first
   | (rw [show (w.alloc (Obj.cells #[Value.slice Ad e.disk.length cd,Value.slice Am e.mem.length cm,Value.slice Al e.log.length cl,Value.int IntKind.i64 e.safe,Value.bool e.down] 26)).alloc (Obj.cells #[Value.slice none 0 0,Value.slice none 0 0,Value.slice none 0 0,Value.int IntKind.i64 0,Value.bool false] 26) = w1 from HW1.out])
   | (go_at_call 53;refine (AX _ _ _ _).mono ?_;rw [H1.out];rintro x w' ⟨rfl,rfl⟩))
  have hz:=HZ1.out
  have hs0:=HB.out.size
  have hy:=HP1.out.Ap ⟨e.disk,e.mem,e.log,e.safe,false⟩ (.slice Ad e.disk.length cd) (.slice Am e.mem.length cm) (.slice Al e.log.length cl)
  have h1:=HO1.out.Ap (f:=⟨e.disk,e.mem,e.log,e.safe,false⟩) (xd:=.slice Ad e.disk.length cd) (xm:=.slice Am e.mem.length cm) (xl:=.slice Al e.log.length cl) HP1.out
  have h2:=Aj (g:=w.heap.size + 1) (bj HB.out HB1.out) (by omega) ⟨e.disk,e.mem,e.log,e.safe,false⟩ (.slice Ad e.disk.length cd) (.slice Am e.mem.length cm) (.slice Al e.log.length cl)
  have h3:=Aj (g:=w.heap.size + 1) HB1.out (by omega) ⟨e.disk,e.mem,e.log,e.safe,false⟩ (.slice Ad e.disk.length cd) (.slice Am e.mem.length cm) (.slice Al e.log.length cl)
  have z0:=hy.c0
  have z1:=hy.c1
  have z2:=hy.c2
  have z3:=hy.c3
  have z4:=hy.c4
  simp only at z0 z1 z2 z3 z4
  exact bodyPost_ret (v:=.tuple #[.agg #[.slice Ad e.disk.length cd, .slice Am e.mem.length cm, .slice Al e.log.length cl, .int .i64 e.safe, .bool false], .bool false]) (by simp [results,Tryz.results140,go_sem,z0,z1,z2,z3,z4]) rfl ⟨.slice Ad e.disk.length cd, .slice Am e.mem.length cm, .slice Al e.log.length cl,by unfold Eng.ag;rw [HDN.out],h1,h2,Ba.of_below h3⟩
 have H1:=As h1
 clear h1
 by_cases hnz : n = 0
 ·subst hnz
  rw [show GA e tx (GN e tx) = (e,false) by rw [GA,if_neg (by rw [hn];simp)]]
  clear hn
  go_enter Tryz.func140,Tryz.ntmps140
  go_wp2_with (first
   | (rw [show (w.alloc (Obj.cells #[Value.slice Ad e.disk.length cd,Value.slice Am e.mem.length cm,Value.slice Al e.log.length cl,Value.int IntKind.i64 e.safe,Value.bool e.down] 26)).alloc (Obj.cells #[Value.slice none 0 0,Value.slice none 0 0,Value.slice none 0 0,Value.int IntKind.i64 0,Value.bool false] 26) = w1 from HW1.out])
   | (go_at_call 53;refine (AX _ _ _ _).mono ?_;rw [H1.out];rintro x w' ⟨rfl,rfl⟩)
   | (go_at_call 93;refine (Dn (c:=cl) HLN.out (Below.refl w1.heap.size w1) HC1.out.l).mono ?_;rintro x w' ⟨rfl,rfl⟩))
  have hz:=HZ1.out
  have hs0:=HB.out.size
  have hy:=HP1.out.Ap ⟨e.disk,e.mem,e.log,e.safe,false⟩ (.slice Ad e.disk.length cd) (.slice Am e.mem.length cm) (.slice Al e.log.length cl)
  have h1:=HO1.out.Ap (f:=⟨e.disk,e.mem,e.log,e.safe,false⟩) (xd:=.slice Ad e.disk.length cd) (xm:=.slice Am e.mem.length cm) (xl:=.slice Al e.log.length cl) HP1.out
  have h2:=Aj (g:=w.heap.size + 1) (bj HB.out HB1.out) (by omega) ⟨e.disk,e.mem,e.log,e.safe,false⟩ (.slice Ad e.disk.length cd) (.slice Am e.mem.length cm) (.slice Al e.log.length cl)
  have h3:=Aj (g:=w.heap.size + 1) HB1.out (by omega) ⟨e.disk,e.mem,e.log,e.safe,false⟩ (.slice Ad e.disk.length cd) (.slice Am e.mem.length cm) (.slice Al e.log.length cl)
  have z0:=hy.c0
  have z1:=hy.c1
  have z2:=hy.c2
  have z3:=hy.c3
  have z4:=hy.c4
  simp only at z0 z1 z2 z3 z4
  exact bodyPost_ret (v:=.tuple #[.agg #[.slice Ad e.disk.length cd, .slice Am e.mem.length cm, .slice Al e.log.length cl, .int .i64 e.safe, .bool false], .bool false]) (by simp [results,Tryz.results140,go_sem,z0,z1,z2,z3,z4]) rfl ⟨.slice Ad e.disk.length cd, .slice Am e.mem.length cm, .slice Al e.log.length cl,by unfold Eng.ag;rw [HDN.out],h1,h2,Ba.of_below h3⟩
 have hlast : Ae e.log tx e.log.length ≠ 0:=by rw [hn];omega
 have hX : GA e tx (GN e tx) = (GN e tx,true):=by rw [GA,if_pos ⟨HDN.out,hlast⟩]
 obtain ⟨k,hk⟩ : ∃ k,(U e.log tx e.log.length).length + 1 = k:=⟨_,rfl⟩
 have hu:=EL.WK (J9 HI.out.core.log hlast) _ e (HI.out.und HDN.out tx) hlast rfl
 rw [hk] at hu
 obtain ⟨X,hXX⟩ : ∃ X,GN e tx = X:=⟨_,rfl⟩
 have hUK : Mh tx k e = X:=by rw [← hXX,GN,if_neg hlast,hk]
 rw [hX,hXX]
 have HUO : A7 (R6 tx k e ∧ Mh tx k e = X):=⟨⟨hu,hUK⟩⟩
 have hn1 : ¬ (n : Int) = 0:=by omega
 have hn2 : ((n : Int) == 0) = false:=by rw [beq_eq_false_iff_ne];exact hn1
 clear hlast hX hk hu hXX hUK hn hnz
 go_enter Tryz.func140,Tryz.ntmps140
 go_wp2_with (first
  | (rw [show (w.alloc (Obj.cells #[Value.slice Ad e.disk.length cd,Value.slice Am e.mem.length cm,Value.slice Al e.log.length cl,Value.int IntKind.i64 e.safe,Value.bool e.down] 26)).alloc (Obj.cells #[Value.slice none 0 0,Value.slice none 0 0,Value.slice none 0 0,Value.int IntKind.i64 0,Value.bool false] 26) = w1 from HW1.out])
  | (go_at_call 53;refine (AX _ _ _ _).mono ?_;rw [H1.out];rintro x w' ⟨rfl,rfl⟩)
  | (go_at_call 93;refine (Dn (c:=cl) HLN.out (Below.refl w1.heap.size w1) HC1.out.l).mono ?_;rintro x w' ⟨rfl,rfl⟩))
 go_loopw [] (fun wr => ∃ (j : Nat) (x : Eng),A7 (∃ vd vm vl,Ab wr w.heap.size x vd vm vl ∧ Aw wr w0.heap.size vd vm vl x) ∧ A7 (Ab wr (w.heap.size + 1) zE (.slice none 0 0) (.slice none 0 0) (.slice none 0 0)) ∧ A7 (Below w0.heap.size w0 wr ∧ Ba w wr) ∧ A7 (R6 tx j x ∧ Mh tx j x = X)) (fun wr => 151 - JM wr w.heap.size)
 case atStart => exact ⟨k,e,⟨⟨_,_,_,HQ1.out,HO1.out⟩⟩,HP1,⟨⟨bj HB.out HB1.out,Ba.of_below HB1.out⟩⟩,HUO⟩
 case round =>
  clear x0 x1 x2 x3 x4 y0 y1 y2 y3 y4 f0 f1 f2 f3 f4 hn1 hn2
  obtain ⟨j,x,HE,HP,HBr,HJ⟩:=hrel
  obtain ⟨vd,vm,vl,hq,ho⟩:=HE.out
  obtain ⟨Ed,n1,Em,n2,El,n3,rfl,rfl,rfl, -,hc⟩:=ho.reads
  have HQ:=As hq
  have HO:=As ho
  have HC:=As hc
  have x0:=hq.c0
  have x1:=hq.c1
  have x2:=hq.c2
  have x3:=hq.c3
  have x4:=hq.c4
  obtain ⟨n,hn⟩ : ∃ n : Nat,Ae x.log tx x.log.length = n:=⟨_,rfl⟩
  have HN:=As hn
  clear hq ho hc hn
  rcases j with _ | j
  ·have hn0 : n = 0:=by rw [← HN.out];exact HJ.out.1.1
   have HXE : A7 (x = X):=⟨HJ.out.2⟩
   subst hn0
   have y0:=HP.out.c0
   have y1:=HP.out.c1
   have y2:=HP.out.c2
   have y3:=HP.out.c3
   have y4:=HP.out.c4
   have f0:=HP.out.frz 0
   have f1:=HP.out.frz 1
   have f2:=HP.out.frz 2
   have f3:=HP.out.frz 3
   have f4:=HP.out.frz 4
   go_wp2_with (first
    | (go_at_call 93;refine (Dn (c:=n3) HN.out (Below.refl wr.heap.size wr) HC.out.l).mono ?_;rintro y w' ⟨rfl,rfl⟩))
   have hs0:=HB.out.size
   have hy:=HP.out.Ap x (.slice Ed x.disk.length n1) (.slice Em x.mem.length n2) (.slice El x.log.length n3)
   have h1:=HO.out.Ap (f:=x) (xd:=.slice Ed x.disk.length n1) (xm:=.slice Em x.mem.length n2) (xl:=.slice El x.log.length n3) HP.out
   have h2:=Aj (g:=w.heap.size + 1) HBr.out.1 (by omega) x (.slice Ed x.disk.length n1) (.slice Em x.mem.length n2) (.slice El x.log.length n3)
   have h3:=HBr.out.2.Ap (g:=w.heap.size + 1) (Nat.le_succ _) x (.slice Ed x.disk.length n1) (.slice Em x.mem.length n2) (.slice El x.log.length n3)
   have z0:=hy.c0
   have z1:=hy.c1
   have z2:=hy.c2
   have z3:=hy.c3
   have z4:=hy.c4
   exact bodyPost_ret (v:=.tuple #[x.ag (.slice Ed x.disk.length n1) (.slice Em x.mem.length n2) (.slice El x.log.length n3), .bool true]) (by simp [results,Tryz.results140,go_sem,z0,z1,z2,z3,z4]) rfl (by rw [← HXE.out];exact ⟨_,_,_,rfl,h1,h2,h3⟩)
  ·have hn0 : 0 < (n : Int):=by have h:=HJ.out.1.1;have h2:=HN.out;have h3 : n ≠ 0:=fun h4 => h (h2.trans h4);omega
   have HST:=As HJ.out.1.2.1
   have HNX : A7 (R6 tx j (AY x tx) ∧ Mh tx j (AY x tx) = X):=⟨HJ.out.1.2.2,HJ.out.2⟩
   obtain ⟨E,hE⟩ : ∃ E,AY x tx = E:=⟨_,rfl⟩
   have HEE:=As hE
   have HLE:=As (IX x tx)
   rw [hE] at HNX HLE
   clear hE
   go_wp2_with (first
    | (go_at_call 93;refine (Dn (c:=n3) HN.out (Below.refl wr.heap.size wr) HC.out.l).mono ?_;rintro y w' ⟨rfl,rfl⟩)
    | (go_at_call 85;refine (IL HST.out HBr.out.1 HO.out).mono ?_;rw [HEE.out];rintro y w6 ⟨ud,um,ul,rfl,ho,hb6,hk6⟩;obtain ⟨Bd,dd,Bm,dm,Bl,dl,rfl,rfl,rfl, -, -⟩:=ho.reads;have HO6:=As ho;have HQ6:=As (HQ.out.GQ HO.out hk6);have HP6:=As (HP.out.GQ HO.out hk6);have HB6:=As (And.intro hb6 (HBr.out.2.Ce (Ba.JK HO.out hk6)));clear x0 x1 x2 x3 x4;have y0:=HQ6.out.c0;have y1:=HQ6.out.c1;have y2:=HQ6.out.c2;have y3:=HQ6.out.c3;have y4:=HQ6.out.c4;have f0:=HQ6.out.frz 0;have f1:=HQ6.out.frz 1;have f2:=HQ6.out.frz 2;have f3:=HQ6.out.frz 3;have f4:=HQ6.out.frz 4;clear ho hb6 hk6))
   have hq9:=HQ6.out.Ap E (.slice Bd E.disk.length dd) (.slice Bm E.mem.length dm) (.slice Bl E.log.length dl)
   have hl9:=hq9.JM
   have HQ9:=As hq9
   clear hq9
   go_roundw
   case rel => exact ⟨j,E,⟨⟨_,_,_,HQ9.out,HO6.out.Ap (f:=E) HQ6.out⟩⟩,⟨((((HP6.out.far (b:=w.heap.size) (by omega) 0 _).far (b:=w.heap.size) (by omega) 1 _).far (b:=w.heap.size) (by omega) 2 _).far (b:=w.heap.size) (by omega) 3 _).far (b:=w.heap.size) (by omega) 4 _⟩,⟨⟨Aj HB6.out.1 HB.out.size E _ _ _,HB6.out.2.Ap (Nat.le_refl _) E _ _ _⟩⟩,HNX⟩
   case measure =>
    have h2:=HQ.out.JM
    have h3:=HST.out.XJ
    have h4:=HLE.out
    show 151 - JM (Go.Proofs.YtjeodgfkilhkhaaGreat.Ap w6 w.heap.size E (.slice Bd E.disk.length dd) (.slice Bm E.mem.length dm) (.slice Bl E.log.length dl)) w.heap.size < 151 - JM wr w.heap.size
    rw [h2,hl9,h4]
    omega
theorem UM {w : World} {b n c : Nat} {A : Option Addr} {vd vm : Value} {e : Eng} (h : Aw w b vd vm (.slice A n c) e) : Kd.C kRec w A e.log.length e.log:=by
 obtain ⟨Ad,cd,Am,cm,Al,cl, -, -,hv, -,hrd⟩:=h.reads
 injection hv with h1
 rw [h1]
 exact hrd.l
theorem Qf {l : List Rec} {k : Nat} (h : Bu l (k + 1) ≤ k) : BR l isLoad (BO l (k + 1)) = if (rc l k).kind = 3 then (rc l k).page :: BR l isLoad (BO l (Bu l (k + 1))) else BR l isLoad (BO l (Bu l (k + 1))):=by
 rw [Dk h,BR,List.filter_cons,Nat.add_sub_cancel]
 by_cases h3 : (rc l k).kind = 3
 ·rw [if_pos h3,if_pos (by simp [isLoad,h3])];simp [BR]
 ·rw [if_neg h3,if_neg (by simp [isLoad,h3])];simp [BR]
theorem Mr {l : List Rec} {n : Nat} {p : Int} : p ∈ BR l isLoad (BO l n) ↔ EZ l n p = true:=by
 rw [EZ,List.any_eq_true,BR,List.mem_map]
 simp [isLoad,and_assoc]
set_option maxRecDepth 100000 in
set_option maxHeartbeats 16000000 in
theorem O4 {w0 w : World} {e : Eng} {C : Nat → Page} {B : Nat} {vd vm vl : Value} (tx : Int) (hi : Inv e C B) (hb : Below w0.heap.size w0 w) (hr : Aw w w0.heap.size vd vm vl e) : Calls Tryz.prog 139 #[e.ag vd vm vl, .int .i64 tx] w (IV w0 w (GA e tx (Ib e tx)).1 (GA e tx (Ib e tx)).2):=by
 obtain ⟨Ad,cd,Am,cm,Al,cl,rfl,rfl,rfl,hcl,hrd⟩:=hr.reads
 obtain ⟨w1a,hw1a⟩ : ∃ w1a,w.alloc (e.obox (.slice Ad e.disk.length cd) (.slice Am e.mem.length cm) (.slice Al e.log.length cl)) = w1a:=⟨_,rfl⟩
 obtain ⟨w1,hw1⟩ : ∃ w1,w1a.alloc (zE.obox (.slice none 0 0) (.slice none 0 0) (.slice none 0 0)) = w1:=⟨_,rfl⟩
 have hza : w1a.heap.size = w.heap.size + 1:=by rw [← hw1a];exact BD _ _
 have hz1 : w1.heap.size = w.heap.size + 2:=by rw [← hw1,BD,hza]
 have hba : Below w1a.heap.size w1a w1:=by rw [← hw1];exact Aa (Below.refl _ _) _
 have hb1 : Below w.heap.size w w1:=by rw [← hw1, ← hw1a];exact Aa (Aa (Below.refl _ _) _) _
 have HQ1 : A7 (Ab w1 w.heap.size e (.slice Ad e.disk.length cd) (.slice Am e.mem.length cm) (.slice Al e.log.length cl)):=⟨Ab.up (by rw [← hw1a];exact Ab.mk1 _ _ _ _ _) hba⟩
 have HP1 : A7 (Ab w1 (w.heap.size + 1) zE (.slice none 0 0) (.slice none 0 0) (.slice none 0 0)):=⟨by rw [← hw1, ← hza];exact Ab.mk1 _ _ _ _ _⟩
 have HW1 : A7 ((w.alloc (Obj.cells #[Value.slice Ad e.disk.length cd,Value.slice Am e.mem.length cm,Value.slice Al e.log.length cl,Value.int IntKind.i64 e.safe,Value.bool e.down] 26)).alloc (Obj.cells #[Value.slice none 0 0,Value.slice none 0 0,Value.slice none 0 0,Value.int IntKind.i64 0,Value.bool false] 26) = w1):=⟨by rw [← hw1, ← hw1a];rfl⟩
 have HZ1:=As hz1
 have HB1:=As hb1
 have HB:=As hb
 have HO1:=As (hr.below hb1)
 have HC1:=As (hrd.up hb1)
 have HI:=As hi
 have x0:=HQ1.out.c0
 have x1:=HQ1.out.c1
 have x2:=HQ1.out.c2
 have x3:=HQ1.out.c3
 have x4:=HQ1.out.c4
 have y0:=HP1.out.c0
 have y1:=HP1.out.c1
 have y2:=HP1.out.c2
 have y3:=HP1.out.c3
 have y4:=HP1.out.c4
 have f0:=HP1.out.frz 0
 have f1:=HP1.out.frz 1
 have f2:=HP1.out.frz 2
 have f3:=HP1.out.frz 3
 have f4:=HP1.out.frz 4
 clear hw1a hw1 hza hz1 hba hb1 hb hr hrd hi
 cases hd : e.down
 rotate_left
 ·rw [show GA e tx (Ib e tx) = (e,false) by rw [GA,if_neg (by rw [hd];simp)]]
  have HDN:=As hd
  rw [hd] at x4
  clear hd
  go_enter Tryz.func139,Tryz.ntmps139
  go_wp2_with (first
   | (rw [show (w.alloc (Obj.cells #[Value.slice Ad e.disk.length cd,Value.slice Am e.mem.length cm,Value.slice Al e.log.length cl,Value.int IntKind.i64 e.safe,Value.bool e.down] 26)).alloc (Obj.cells #[Value.slice none 0 0,Value.slice none 0 0,Value.slice none 0 0,Value.int IntKind.i64 0,Value.bool false] 26) = w1 from HW1.out]))
  have hz:=HZ1.out
  have hs0:=HB.out.size
  have hy:=HP1.out.Ap ⟨e.disk,e.mem,e.log,e.safe,true⟩ (.slice Ad e.disk.length cd) (.slice Am e.mem.length cm) (.slice Al e.log.length cl)
  have h1:=HO1.out.Ap (f:=⟨e.disk,e.mem,e.log,e.safe,true⟩) (xd:=.slice Ad e.disk.length cd) (xm:=.slice Am e.mem.length cm) (xl:=.slice Al e.log.length cl) HP1.out
  have h2:=Aj (g:=w.heap.size + 1) (bj HB.out HB1.out) (by omega) ⟨e.disk,e.mem,e.log,e.safe,true⟩ (.slice Ad e.disk.length cd) (.slice Am e.mem.length cm) (.slice Al e.log.length cl)
  have h3:=Aj (g:=w.heap.size + 1) HB1.out (by omega) ⟨e.disk,e.mem,e.log,e.safe,true⟩ (.slice Ad e.disk.length cd) (.slice Am e.mem.length cm) (.slice Al e.log.length cl)
  have z0:=hy.c0
  have z1:=hy.c1
  have z2:=hy.c2
  have z3:=hy.c3
  have z4:=hy.c4
  simp only at z0 z1 z2 z3 z4
  exact bodyPost_ret (v:=.tuple #[.agg #[.slice Ad e.disk.length cd, .slice Am e.mem.length cm, .slice Al e.log.length cl, .int .i64 e.safe, .bool true], .bool false]) (by simp [results,Tryz.results139,go_sem,z0,z1,z2,z3,z4]) rfl ⟨.slice Ad e.disk.length cd, .slice Am e.mem.length cm, .slice Al e.log.length cl,by unfold Eng.ag;rw [HDN.out],h1,h2,Ba.of_below h3⟩
 have HDN:=As hd
 rw [hd] at x4
 clear hd
 obtain ⟨n,hn⟩ : ∃ n : Nat,Ae e.log tx e.log.length = n:=⟨_,rfl⟩
 have HLN:=As hn
 cases h1 : inB tx 1 3
 ·have hn0 : n = 0:=by
   rcases Nat.eq_zero_or_pos n with h | h
   ·exact h
   ·have:=J9 HI.out.core.log (tx:=tx) (by rw [hn];omega)
    rw [show inB tx 1 3 = true from CU.2 (by omega)] at h1
    cases h1
  rw [show GA e tx (Ib e tx) = (e,false) by rw [GA,if_neg (by rw [hn,hn0];simp)]]
  have H1:=As h1
  clear h1 hn hn0
  go_enter Tryz.func139,Tryz.ntmps139
  go_wp2_with (first
   | (rw [show (w.alloc (Obj.cells #[Value.slice Ad e.disk.length cd,Value.slice Am e.mem.length cm,Value.slice Al e.log.length cl,Value.int IntKind.i64 e.safe,Value.bool e.down] 26)).alloc (Obj.cells #[Value.slice none 0 0,Value.slice none 0 0,Value.slice none 0 0,Value.int IntKind.i64 0,Value.bool false] 26) = w1 from HW1.out])
   | (go_at_call 53;refine (AX _ _ _ _).mono ?_;rw [H1.out];rintro x w' ⟨rfl,rfl⟩))
  have hz:=HZ1.out
  have hs0:=HB.out.size
  have hy:=HP1.out.Ap ⟨e.disk,e.mem,e.log,e.safe,false⟩ (.slice Ad e.disk.length cd) (.slice Am e.mem.length cm) (.slice Al e.log.length cl)
  have h1:=HO1.out.Ap (f:=⟨e.disk,e.mem,e.log,e.safe,false⟩) (xd:=.slice Ad e.disk.length cd) (xm:=.slice Am e.mem.length cm) (xl:=.slice Al e.log.length cl) HP1.out
  have h2:=Aj (g:=w.heap.size + 1) (bj HB.out HB1.out) (by omega) ⟨e.disk,e.mem,e.log,e.safe,false⟩ (.slice Ad e.disk.length cd) (.slice Am e.mem.length cm) (.slice Al e.log.length cl)
  have h3:=Aj (g:=w.heap.size + 1) HB1.out (by omega) ⟨e.disk,e.mem,e.log,e.safe,false⟩ (.slice Ad e.disk.length cd) (.slice Am e.mem.length cm) (.slice Al e.log.length cl)
  have z0:=hy.c0
  have z1:=hy.c1
  have z2:=hy.c2
  have z3:=hy.c3
  have z4:=hy.c4
  simp only at z0 z1 z2 z3 z4
  exact bodyPost_ret (v:=.tuple #[.agg #[.slice Ad e.disk.length cd, .slice Am e.mem.length cm, .slice Al e.log.length cl, .int .i64 e.safe, .bool false], .bool false]) (by simp [results,Tryz.results139,go_sem,z0,z1,z2,z3,z4]) rfl ⟨.slice Ad e.disk.length cd, .slice Am e.mem.length cm, .slice Al e.log.length cl,by unfold Eng.ag;rw [HDN.out],h1,h2,Ba.of_below h3⟩
 have H1:=As h1
 clear h1
 by_cases hnz : n = 0
 ·subst hnz
  rw [show GA e tx (Ib e tx) = (e,false) by rw [GA,if_neg (by rw [hn];simp)]]
  clear hn
  go_enter Tryz.func139,Tryz.ntmps139
  go_wp2_with (first
   | (rw [show (w.alloc (Obj.cells #[Value.slice Ad e.disk.length cd,Value.slice Am e.mem.length cm,Value.slice Al e.log.length cl,Value.int IntKind.i64 e.safe,Value.bool e.down] 26)).alloc (Obj.cells #[Value.slice none 0 0,Value.slice none 0 0,Value.slice none 0 0,Value.int IntKind.i64 0,Value.bool false] 26) = w1 from HW1.out])
   | (go_at_call 53;refine (AX _ _ _ _).mono ?_;rw [H1.out];rintro x w' ⟨rfl,rfl⟩)
   | (go_at_call 93;refine (Dn (c:=cl) HLN.out (Below.refl w1.heap.size w1) HC1.out.l).mono ?_;rintro x w' ⟨rfl,rfl⟩))
  have hz:=HZ1.out
  have hs0:=HB.out.size
  have hy:=HP1.out.Ap ⟨e.disk,e.mem,e.log,e.safe,false⟩ (.slice Ad e.disk.length cd) (.slice Am e.mem.length cm) (.slice Al e.log.length cl)
  have h1:=HO1.out.Ap (f:=⟨e.disk,e.mem,e.log,e.safe,false⟩) (xd:=.slice Ad e.disk.length cd) (xm:=.slice Am e.mem.length cm) (xl:=.slice Al e.log.length cl) HP1.out
  have h2:=Aj (g:=w.heap.size + 1) (bj HB.out HB1.out) (by omega) ⟨e.disk,e.mem,e.log,e.safe,false⟩ (.slice Ad e.disk.length cd) (.slice Am e.mem.length cm) (.slice Al e.log.length cl)
  have h3:=Aj (g:=w.heap.size + 1) HB1.out (by omega) ⟨e.disk,e.mem,e.log,e.safe,false⟩ (.slice Ad e.disk.length cd) (.slice Am e.mem.length cm) (.slice Al e.log.length cl)
  have z0:=hy.c0
  have z1:=hy.c1
  have z2:=hy.c2
  have z3:=hy.c3
  have z4:=hy.c4
  simp only at z0 z1 z2 z3 z4
  exact bodyPost_ret (v:=.tuple #[.agg #[.slice Ad e.disk.length cd, .slice Am e.mem.length cm, .slice Al e.log.length cl, .int .i64 e.safe, .bool false], .bool false]) (by simp [results,Tryz.results139,go_sem,z0,z1,z2,z3,z4]) rfl ⟨.slice Ad e.disk.length cd, .slice Am e.mem.length cm, .slice Al e.log.length cl,by unfold Eng.ag;rw [HDN.out],h1,h2,Ba.of_below h3⟩
 have hlast : Ae e.log tx e.log.length ≠ 0:=by rw [hn];exact hnz
 rw [show GA e tx (Ib e tx) = (Ib e tx,true) by rw [GA,if_pos ⟨HDN.out,hlast⟩]]
 have htx:=J9 HI.out.core.log hlast
 have hx:=HI.out.WU HDN.out htx hlast
 have hlog:=HI.out.core.log
 have hgd : geo e.disk:=AZ (Bb.2 ⟨HI.out.core.dlen,HI.out.core.dok⟩)
 have hgm:=AZ HI.out.Mk
 have hnl : n ≤ e.log.length:=by rw [← hn];exact Bc _ _ _
 obtain ⟨zs,hzs⟩ : ∃ zs,BR e.log isLoad (BO e.log n) = zs:=⟨_,rfl⟩
 have hrg : ∀ p ∈ zs,0 ≤ p ∧ p < 5:=fun p hp => Qu hlog hnl (Mr.1 (by rw [hzs];exact hp))
 have hdw:=QX (e:=e) (tx:=tx) (ps:=zs) hgd.1 (fun p _ => by rw [← hzs,Mr, ← hn];rfl) hrg
 obtain ⟨X,hX⟩ : ∃ X,Ew e zs = X:=⟨_,rfl⟩
 have hkp:=IE zs e
 rw [hX] at hdw hkp
 obtain ⟨Y,hY⟩ : ∃ Y,X.app ⟨4,tx,0,0,0,0,0,0⟩ = Y:=⟨_,rfl⟩
 have hYl : Y.log.length = e.log.length + 1:=by rw [← hY,MQ,hkp.2.1]
 rw [hY] at hdw
 have HDW : A7 ({ Y with safe:=(Y.log.length : Int) } = Ib e tx):=⟨by rw [hYl];exact hdw⟩
 have hlogX : Au (X.log ++ [Ey ⟨4,tx,0,0,0,0,0,0⟩ (Ae X.log tx X.log.length)]) = true:=by rw [hkp.2.1];exact hx.core.log
 have HADD : A7 (∀ wx vd' vm' vl',Aw wx w0.heap.size vd' vm' vl' X → Below w0.heap.size w0 wx → Calls Tryz.prog 119 #[X.ag vd' vm' vl', .agg #[.int .i64 4, .int .i64 tx, .int .i64 0, .int .i64 0, .int .i64 0, .int .i64 0, .int .i64 0, .int .i64 0]] wx (Ig w0 wx vm' Y true)):=⟨fun wx vd' vm' vl' ho hb => by
  have h:=ES ⟨4,tx,0,0,0,0,0,0⟩ (by rw [hkp.1];exact hgm) hlogX (by rw [hkp.2.1];exact hx.SC rfl (by simp)) (fun h => by simp [Cu] at h) hb ho
  rw [hY] at h
  exact h⟩
 have HLOOP : A7 (Ew e (BR e.log isLoad (BO e.log n)) = X):=⟨by rw [hzs];exact hX⟩
 have HLG:=As hlog
 have HGM:=As hgm
 have HGD:=As hgd
 have HNL:=As hnl
 have HL150:=As (BA hlog)
 have hn1 : ¬ (n : Int) = 0:=by omega
 have hn2 : ((n : Int) == 0) = false:=by rw [beq_eq_false_iff_ne];exact hn1
 clear hlast htx hx hlog hgd hgm hnl hzs hrg hdw hX hkp hY hYl hlogX hn hnz
 go_enter Tryz.func139,Tryz.ntmps139
 go_wp2_with (first
  | (rw [show (w.alloc (Obj.cells #[Value.slice Ad e.disk.length cd,Value.slice Am e.mem.length cm,Value.slice Al e.log.length cl,Value.int IntKind.i64 e.safe,Value.bool e.down] 26)).alloc (Obj.cells #[Value.slice none 0 0,Value.slice none 0 0,Value.slice none 0 0,Value.int IntKind.i64 0,Value.bool false] 26) = w1 from HW1.out])
  | (go_at_call 53;refine (AX _ _ _ _).mono ?_;rw [H1.out];rintro x w' ⟨rfl,rfl⟩)
  | (go_at_call 93;refine (Dn (c:=cl) HLN.out (Below.refl w1.heap.size w1) HC1.out.l).mono ?_;rintro x w' ⟨rfl,rfl⟩))
 go_loopw [6] (fun i wr => ∃ (k : Nat) (x : Eng),k ≤ e.log.length ∧ i = .int .i64 (k : Int) ∧ A7 (∃ vd vm vl,Ab wr w.heap.size x vd vm vl ∧ Aw wr w0.heap.size vd vm vl x) ∧ A7 (Ab wr (w.heap.size + 1) zE (.slice none 0 0) (.slice none 0 0) (.slice none 0 0)) ∧ A7 (Below w0.heap.size w0 wr ∧ Ba w wr ∧ w.heap.size + 2 ≤ wr.heap.size) ∧ A7 (x.log = e.log ∧ x.mem = e.mem ∧ geo x.disk ∧ Ew x (BR e.log isLoad (BO e.log k)) = X)) (fun i _ => (intOf i).toNat)
 case atStart => exact ⟨n,e,HNL.out,rfl,⟨⟨_,_,_,HQ1.out,HO1.out⟩⟩,HP1,⟨⟨bj HB.out HB1.out,Ba.of_below HB1.out,by have:=HZ1.out;omega⟩⟩,⟨⟨rfl,rfl,HGD.out,HLOOP.out⟩⟩⟩
 case round =>
  clear x0 x1 x2 x3 x4 y0 y1 y2 y3 y4 f0 f1 f2 f3 f4 hn1 hn2
  obtain ⟨k,x,hk,rfl,HE,HP,HBr,HJ⟩:=hrel
  obtain ⟨vd,vm,vl,hq,ho⟩:=HE.out
  obtain ⟨Ed,n1,Em,n2,El,n3,rfl,rfl,rfl, -,hc⟩:=ho.reads
  have HQ:=As hq
  have HO:=As ho
  have HC:=As hc
  have x0:=hq.c0
  have x1:=hq.c1
  have x2:=hq.c2
  have x3:=hq.c3
  have x4:=hq.c4
  clear hq ho hc
  rcases k with _ | k
  ·have hxX : x = X:=by
    have h:=HJ.out.2.2.2
    rw [C9] at h
    exact h
   subst hxX
   go_wp2_with (first
    | (go_at_call 119;refine (HADD.out wr _ _ _ HO.out HBr.out.1).mono ?_;rintro y w6 ⟨ud,um,ul,rfl,ho,hb6,hk6⟩;obtain ⟨Bd,dd,Bm,dm,Bl,dl,rfl,rfl,rfl, -, -⟩:=ho.reads;have HO6:=As ho;have HP6:=As (HP.out.GQ HO.out hk6);have HB6:=As (And.intro hb6 (And.intro (HBr.out.2.1.Ce (Ba.JK HO.out hk6)) hk6.1));clear x0 x1 x2 x3 x4;clear ho hb6 hk6)
    | (refine Ca (vd:=.slice Bd Y.disk.length dd) (vm:=.slice Bm Y.mem.length dm) (vl:=.slice Bl Y.log.length dl) Y ?_;intro w7 hb7 hz7 hq7;clear hz7;have HQ7:=As hq7;have HO7:=As (HO6.out.below hb7);have hp7:=HP6.out.up hb7;have HP7:=As hp7;have HB7:=As (And.intro (bj HB6.out.1 hb7) (HB6.out.2.1.Ce (Ba.of_below hb7)));have hne1 : ¬ w6.heap.size = w.heap.size + 1:=(by have:=HB6.out.2.2;have:=HBr.out.2.2;omega);have hne2 : ¬ w.heap.size + 1 = w6.heap.size:=fun e => hne1 e.symm;have g3:=hq7.frz 3;have x0:=hq7.c0;have x1:=hq7.c1;have x2:=hq7.c2;have x3:=hq7.c3;have x4:=hq7.c4;have y0:=hp7.c0;have y1:=hp7.c1;have y2:=hp7.c2;have y3:=hp7.c3;have y4:=hp7.c4;have f0:=hp7.frz 0;have f1:=hp7.frz 1;have f2:=hp7.frz 2;have f3:=hp7.frz 3;have f4:=hp7.frz 4;clear hb7 hq7 hp7))
   have hge : w.heap.size ≤ w6.heap.size:=HB6.out.2.1.1
   have hs0:=HB.out.size
   have r1:=HO7.out.Dy HQ7.out 3 (.int .i64 (Y.log.length : Int))
   have p1:=HP7.out.far (b:=w6.heap.size) (by omega) 3 (.int .i64 (Y.log.length : Int))
   have b1:=HB7.out.1.setCell (p:=⟨w6.heap.size,3,none⟩) (by show w0.heap.size ≤ w6.heap.size;omega) (.int .i64 (Y.log.length : Int))
   have k1:=HB7.out.2.setCell (p:=⟨w6.heap.size,3,none⟩) hge (.int .i64 (Y.log.length : Int))
   have hy:=p1.Ap { Y with safe:=(Y.log.length : Int) } (.slice Bd Y.disk.length dd) (.slice Bm Y.mem.length dm) (.slice Bl Y.log.length dl)
   have h1:=r1.Ap (f:={ Y with safe:=(Y.log.length : Int) }) (xd:=.slice Bd Y.disk.length dd) (xm:=.slice Bm Y.mem.length dm) (xl:=.slice Bl Y.log.length dl) p1
   have h2:=Aj (g:=w.heap.size + 1) b1 (by omega) { Y with safe:=(Y.log.length : Int) } (.slice Bd Y.disk.length dd) (.slice Bm Y.mem.length dm) (.slice Bl Y.log.length dl)
   have h3:=k1.Ap (g:=w.heap.size + 1) (Nat.le_succ _) { Y with safe:=(Y.log.length : Int) } (.slice Bd Y.disk.length dd) (.slice Bm Y.mem.length dm) (.slice Bl Y.log.length dl)
   have z0:=hy.c0
   have z1:=hy.c1
   have z2:=hy.c2
   have z3:=hy.c3
   have z4:=hy.c4
   simp only at z0 z1 z2 z3 z4
   exact bodyPost_ret (v:=.tuple #[.agg #[.slice Bd Y.disk.length dd, .slice Bm Y.mem.length dm, .slice Bl Y.log.length dl, .int .i64 (Y.log.length : Int), .bool Y.down], .bool true]) (by simp [results,Tryz.results139,go_sem,z0,z1,z2,z3,z4]) rfl (by rw [← HDW.out];exact ⟨.slice Bd Y.disk.length dd, .slice Bm Y.mem.length dm, .slice Bl Y.log.length dl,rfl,⟨h1.ex,h1.l⟩,h2,h3⟩)
  ·have hkl : k < x.log.length:=by rw [HJ.out.1];omega
   have F:=Ag HLG.out (k:=k) (by omega)
   obtain ⟨ad,rfl,QR⟩:=Cs HC.out.l k hkl
   rw [HJ.out.1] at QR
   obtain ⟨z0,z1,z2,z3,z4,z5,z6,z7⟩:=QR
   rw [F.prev] at z6
   have hpl:=Qf F.prev_le
   have hple:=F.prev_le
   have HOKR:=As F.ok
   have hk150 : k < 150:=by have:=HL150.out;omega
   have hwr0 : IntKind.i64.wrap (k : Int) = (k : Int):=by simp (disch:=omega) only [IntWalk.i64_in]
   have hwr1 : IntKind.i64.wrap (((k + 1 : Nat) : Int) - 1) = (k : Int):=by rw [show (((k + 1 : Nat) : Int) - 1) = (k : Int) by omega];exact hwr0
   have hwr2 : IntKind.i64.wrap ((k : Int) + 1 - 1) = (k : Int):=by rw [show ((k : Int) + 1 - 1) = (k : Int) by omega];exact hwr0
   rcases BS (rc e.log k).kind 3 with ⟨e1,b1,c1⟩ | ⟨e1,b1,c1⟩
   rotate_left
   ·rw [if_neg e1.out] at hpl
    have HNX : A7 (Ew x (BR e.log isLoad (BO e.log (Bu e.log (k + 1)))) = X):=⟨by rw [← hpl];exact HJ.out.2.2.2⟩
    clear hpl F
    go_wp2
    go_roundw
    case rel => exact ⟨Bu e.log (k + 1),x,by omega,rfl,HE,HP,HBr,⟨⟨HJ.out.1,HJ.out.2.1,HJ.out.2.2.1,HNX.out⟩⟩⟩
    case measure => simp [intOf];omega
   rw [if_pos e1.out] at hpl
   have hpr : 0 ≤ (rc e.log k).page ∧ (rc e.log k).page < 5:=by have h3:=HOKR.out;rw [D7] at h3;have:=e1.out;omega
   obtain ⟨p,hp⟩ : ∃ p : Nat,(rc e.log k).page = (p : Int):=⟨(rc e.log k).page.toNat,by omega⟩
   rw [hp] at hpl z2
   obtain ⟨E,hE⟩ : ∃ E,Cj x p = E:=⟨_,rfl⟩
   have hEk : E.log = e.log ∧ E.mem = e.mem ∧ geo E.disk ∧ E.disk.length = x.disk.length ∧ E.mem.length = x.mem.length ∧ E.log.length = x.log.length:=by
    rw [← hE]
    exact ⟨HJ.out.1,HJ.out.2.1,Lr HJ.out.2.2.1 (Ia (by rw [HJ.out.2.1];exact HGM.out) (by omega)),by simp [Cj],rfl,rfl⟩
   have HEK:=As hEk
   have HNX : A7 (Ew E (BR e.log isLoad (BO e.log (Bu e.log (k + 1)))) = X):=⟨by have h:=HJ.out.2.2.2;rw [hpl] at h;rw [← hE];exact h⟩
   have HWR : A7 (∀ wx,Aw wx w0.heap.size (.slice Ed x.disk.length n1) (.slice Em x.mem.length n2) (.slice (some ad) x.log.length n3) x → Below w0.heap.size w0 wx → Calls Tryz.prog 62 #[x.val Ed Em (some ad) n1 n2 n3, .int .i64 (p : Int)] wx (X4 w0 wx (.slice Ed x.disk.length n1) (.slice Em x.mem.length n2) (.slice (some ad) x.log.length n3) E)):=⟨fun wx ho hb => hE ▸ JQ (by omega) HJ.out.2.2.1 (by rw [HJ.out.2.1];exact HGM.out) hb ho⟩
   clear hpl F hpr hp hE hEk
   go_wp2
   refine Bo (fun lx a wx => (Below w0.heap.size w0 wx ∧ Kept wr wx (fun k => some k = (Value.slice Ed x.disk.length n1).ownBlock)) ∧ (Un 8 (fun wx => Below wr.heap.size wr wx) lx a wx ∧ Sl 8 53 (fun v wx => Aw wx w0.heap.size (.slice Ed x.disk.length n1) (.slice Em x.mem.length n2) (.slice (some ad) x.log.length n3) E) lx a wx)) 9 rfl (by kernel_rfl) (⟨⟨Ac HBr.out.1,Kept.drew (Kept.refl _ _)⟩,fun _ => Ac (Below.refl _ _),Bp⟩) (fun HT => ?_)
   refine Bw [0,1,2,3,4,5,6,7] ?_
   iterate 8 (refine IY (v:=?_) 8 HT rfl (by kernel_rfl) (by kernel_rfl) rfl (kA Ah (kA (Bj rfl) (Ak rfl rfl))) (by rfl) (fun _ _ _ h => h) (fun lx ax wx hK hS => ?_) ?_;rotate_left;(have hbx:=hS.2.1 hK;clear hS;replace x0:=bc hbx x0;replace x1:=bc hbx x1;replace x2:=bc hbx x2;replace x3:=bc hbx x3;replace x4:=bc hbx x4;replace z2:=bc hbx z2;go_simp;with_reducible rfl);rotate_left;simp only [sc0,sc1])
   refine Bv ?_
   refine Cr (i:=8) (f:=62) (args:=#[x.val Ed Em (some ad) n1 n2 n3, .int .i64 (p : Int)]) (fun v => v = E.ag (.slice Ed x.disk.length n1) (.slice Em x.mem.length n2) (.slice (some ad) x.log.length n3)) rfl (by kernel_rfl) rfl Tryz.func62 (by kernel_rfl) rfl rfl (by rfl) (by simp only [List.map_toArray,List.map_cons,List.map_nil];rfl) (fun wx hS => (HWR.out wx (HO.out.below (hS.2.1 (by kernel_rfl))) hS.1.1).mono (by rintro y w6 ⟨rfl,ho,hb,hk⟩;exact ⟨_,rfl,rfl,⟨hb,hS.1.2.Ce hk (fun k hk => .inl hk)⟩,fun h => (Ao (by kernel_rfl) h).elim,fun _ => ho⟩)) (fun vx hg => ?_);simp only [sc0,sc1]
   subst hg
   refine Cb (i:=9) (by kernel_rfl) rfl (fun wx hS => ?_)
   obtain ⟨⟨h1,h2⟩, -,h3⟩:=hS
   have hown:=h3 (by kernel_rfl)
   have hkt:=Ba.Qn HO.out h2
   have hq5:=HQ.out.JR hkt
   have hp5:=HP.out.JR hkt
   clear x0 x1 x2 x3 x4
   have x0:=hq5.c0
   have x1:=hq5.c1
   have x2:=hq5.c2
   have x3:=hq5.c3
   have x4:=hq5.c4
   have f0:=hq5.frz 0
   have f1:=hq5.frz 1
   have f2:=hq5.frz 2
   have f3:=hq5.frz 3
   have f4:=hq5.frz 4
   refine BH (w1:=Go.Proofs.YtjeodgfkilhkhaaGreat.Ap wx w.heap.size E (.slice Ed x.disk.length n1) (.slice Em x.mem.length n2) (.slice (some ad) x.log.length n3)) rfl (by rfl) (by go_simp) ?_
   have hq6:=hq5.Ap E (.slice Ed x.disk.length n1) (.slice Em x.mem.length n2) (.slice (some ad) x.log.length n3)
   have ho6:=hown.Ap (f:=E) (xd:=.slice Ed x.disk.length n1) (xm:=.slice Em x.mem.length n2) (xl:=.slice (some ad) x.log.length n3) hq5
   have hp6 : Ab (Go.Proofs.YtjeodgfkilhkhaaGreat.Ap wx w.heap.size E (.slice Ed x.disk.length n1) (.slice Em x.mem.length n2) (.slice (some ad) x.log.length n3)) (w.heap.size + 1) zE (.slice none 0 0) (.slice none 0 0) (.slice none 0 0):=((((hp5.far (b:=w.heap.size) (by omega) 0 _).far (b:=w.heap.size) (by omega) 1 _).far (b:=w.heap.size) (by omega) 2 _).far (b:=w.heap.size) (by omega) 3 _).far (b:=w.heap.size) (by omega) 4 _
   have hb6:=Aj (g:=w.heap.size) h1 HB.out.size E (.slice Ed x.disk.length n1) (.slice Em x.mem.length n2) (.slice (some ad) x.log.length n3)
   have hk6:=(HBr.out.2.1.Ce hkt).Ap (Nat.le_refl _) E (.slice Ed x.disk.length n1) (.slice Em x.mem.length n2) (.slice (some ad) x.log.length n3)
   obtain ⟨w9,hw9⟩ : ∃ w9,Go.Proofs.YtjeodgfkilhkhaaGreat.Ap wx w.heap.size E (.slice Ed x.disk.length n1) (.slice Em x.mem.length n2) (.slice (some ad) x.log.length n3) = w9:=⟨_,rfl⟩
   have hs9 : w.heap.size + 2 ≤ w9.heap.size:=by
    have h4:=h2.1
    have h5:=HBr.out.2.2
    rw [← hw9]
    simp
    omega
   rw [hw9] at hq6 ho6 hp6 hb6 hk6 ⊢
   have hlE : x.log.length = E.log.length:=HEK.out.2.2.2.2.2.symm
   have hC9 : Kd.C kRec w9 (some ad) E.log.length E.log:=UM ho6
   obtain ⟨ad',had,QR9⟩:=Cs hC9 k (by rw [← hlE];exact hkl)
   injection had with had
   subst had
   rw [HEK.out.1] at QR9
   have z6':=QR9.c6
   rw [(Ag HLG.out (k:=k) (by omega)).prev] at z6'
   have x2':=hq6.c2
   have HE9 : A7 (∃ vd vm vl,Ab w9 w.heap.size E vd vm vl ∧ Aw w9 w0.heap.size vd vm vl E):=⟨⟨_,_,_,hq6,ho6⟩⟩
   have HP9:=As hp6
   have HB9 : A7 (Below w0.heap.size w0 w9 ∧ Ba w w9 ∧ w.heap.size + 2 ≤ w9.heap.size):=⟨⟨hb6,hk6,hs9⟩⟩
   clear h1 h2 h3 hown hkt hq5 hp5 hq6 ho6 hp6 hb6 hk6 hs9 hw9 x0 x1 x2 x3 x4 f0 f1 f2 f3 f4 hC9 QR9 z0 z1 z2 z3 z4 z5 z6 z7 hlE
   refine BM (by kernel_rfl) ?_
   go_wp2
   go_roundw
   case rel => exact ⟨Bu e.log (k + 1),E,by omega,rfl,HE9,HP9,HB9,⟨⟨HEK.out.1,HEK.out.2.1,HEK.out.2.2.1,HNX.out⟩⟩⟩
   case measure => simp [intOf];omega
set_option maxRecDepth 100000 in
set_option maxHeartbeats 16000000 in
theorem O5 {w0 w : World} {e : Eng} {C : Nat → Page} {B : Nat} {vd vm vl : Value} {Av : Option Addr} {cv : Nat} (tx page : Int) (vals : List Int) (hi : Inv e C B) (hB : B + 3 ≤ 150) (hb : Below w0.heap.size w0 w) (hr : Aw w w0.heap.size vd vm vl e) (hv : ∀ wx,Below w0.heap.size w0 wx → Ba w wx → Kd.C (Kd.int .i64) wx Av vals.length vals) : Calls Tryz.prog 138 #[e.ag vd vm vl, .int .i64 tx, .int .i64 page, .slice Av vals.length cv] w (IV w0 w (Nr e tx page vals).1 (Nr e tx page vals).2):=by
 have hFE : Nr e tx page vals = if Ns e tx page vals = true then (Qv e tx page vals,true) else (e,false):=Inv.Pw (fun hp => hi.UW hB hp)
 have HFE:=As hFE
 have HBB:=As hB
 clear hFE hB
 obtain ⟨Ad,cd,Am,cm,Al,cl,rfl,rfl,rfl,hcl,hrd⟩:=hr.reads
 obtain ⟨w1a,hw1a⟩ : ∃ w1a,w.alloc (e.obox (.slice Ad e.disk.length cd) (.slice Am e.mem.length cm) (.slice Al e.log.length cl)) = w1a:=⟨_,rfl⟩
 obtain ⟨w1,hw1⟩ : ∃ w1,w1a.alloc (zE.obox (.slice none 0 0) (.slice none 0 0) (.slice none 0 0)) = w1:=⟨_,rfl⟩
 have hza : w1a.heap.size = w.heap.size + 1:=by rw [← hw1a];exact BD _ _
 have hz1 : w1.heap.size = w.heap.size + 2:=by rw [← hw1,BD,hza]
 have hba : Below w1a.heap.size w1a w1:=by rw [← hw1];exact Aa (Below.refl _ _) _
 have hb1 : Below w.heap.size w w1:=by rw [← hw1, ← hw1a];exact Aa (Aa (Below.refl _ _) _) _
 have HQ1 : A7 (Ab w1 w.heap.size e (.slice Ad e.disk.length cd) (.slice Am e.mem.length cm) (.slice Al e.log.length cl)):=⟨Ab.up (by rw [← hw1a];exact Ab.mk1 _ _ _ _ _) hba⟩
 have HP1 : A7 (Ab w1 (w.heap.size + 1) zE (.slice none 0 0) (.slice none 0 0) (.slice none 0 0)):=⟨by rw [← hw1, ← hza];exact Ab.mk1 _ _ _ _ _⟩
 have HW1 : A7 ((w.alloc (Obj.cells #[Value.slice Ad e.disk.length cd,Value.slice Am e.mem.length cm,Value.slice Al e.log.length cl,Value.int IntKind.i64 e.safe,Value.bool e.down] 26)).alloc (Obj.cells #[Value.slice none 0 0,Value.slice none 0 0,Value.slice none 0 0,Value.int IntKind.i64 0,Value.bool false] 26) = w1):=⟨by rw [← hw1, ← hw1a];rfl⟩
 have HZ1:=As hz1
 have HB1:=As hb1
 have HB:=As hb
 have HO1:=As (hr.below hb1)
 have HC1:=As (hrd.up hb1)
 have HI:=As hi
 have x0:=HQ1.out.c0
 have x1:=HQ1.out.c1
 have x2:=HQ1.out.c2
 have x3:=HQ1.out.c3
 have x4:=HQ1.out.c4
 have y0:=HP1.out.c0
 have y1:=HP1.out.c1
 have y2:=HP1.out.c2
 have y3:=HP1.out.c3
 have y4:=HP1.out.c4
 have f0:=HP1.out.frz 0
 have f1:=HP1.out.frz 1
 have f2:=HP1.out.frz 2
 have f3:=HP1.out.frz 3
 have f4:=HP1.out.frz 4
 clear hw1a hw1 hza hz1 hba hb1 hb hr hrd hi
 have HV0:=As hv
 have HV:=As (hv _ (bj HB.out HB1.out) (Ba.of_below HB1.out))
 have hmx:=(CY (hv w HB.out (Ba.refl w))).2
 clear hv
 obtain ⟨m,hm⟩ : ∃ m,M4 e tx page = m:=⟨_,rfl⟩
 have HM:=As hm
 clear hm
 cases m
 ·rw [HFE.out,if_neg (by rw [Ns,HM.out];simp)]
  go_enter Tryz.func138,Tryz.ntmps138
  go_wp2_with (first
   | (rw [show (w.alloc (Obj.cells #[Value.slice Ad e.disk.length cd,Value.slice Am e.mem.length cm,Value.slice Al e.log.length cl,Value.int IntKind.i64 e.safe,Value.bool e.down] 26)).alloc (Obj.cells #[Value.slice none 0 0,Value.slice none 0 0,Value.slice none 0 0,Value.int IntKind.i64 0,Value.bool false] 26) = w1 from HW1.out])
   | (go_at_call 152;refine (BP (cd:=cd) (cm:=cm) (cl:=cl) tx page HM.out HI.out.core (Below.refl w1.heap.size w1) HC1.out).mono ?_;rintro x w2 ⟨rfl,hb2⟩;have HO2:=HO1;have HB2:=HB1;have HBM : A7 (Below w1.heap.size w1 w1):=⟨Below.refl _ _⟩;have HP2:=HP1;replace x0:=bc hb2 x0;replace x1:=bc hb2 x1;replace x2:=bc hb2 x2;replace x3:=bc hb2 x3;replace x4:=bc hb2 x4;clear y0 y1 y2 y3 y4 f0 f1 f2 f3 f4;replace HO2:=As (HO2.out.below hb2);replace HB2:=As (bj HB2.out hb2);replace HBM:=As (bj HBM.out hb2);have hp:=HP2.out.up hb2;replace HP2:=As hp;have y0:=hp.c0;have y1:=hp.c1;have y2:=hp.c2;have y3:=hp.c3;have y4:=hp.c4;have f0:=hp.frz 0;have f1:=hp.frz 1;have f2:=hp.frz 2;have f3:=hp.frz 3;have f4:=hp.frz 4;clear hp hb2))
  have hz:=HZ1.out
  have hs0:=HB.out.size
  have hy:=HP2.out.Ap e (.slice Ad e.disk.length cd) (.slice Am e.mem.length cm) (.slice Al e.log.length cl)
  have h1:=HO2.out.Ap (f:=e) (xd:=.slice Ad e.disk.length cd) (xm:=.slice Am e.mem.length cm) (xl:=.slice Al e.log.length cl) HP2.out
  have h2:=Aj (g:=w.heap.size + 1) (bj HB.out HB2.out) (by omega) e (.slice Ad e.disk.length cd) (.slice Am e.mem.length cm) (.slice Al e.log.length cl)
  have h3:=Aj (g:=w.heap.size + 1) HB2.out (by omega) e (.slice Ad e.disk.length cd) (.slice Am e.mem.length cm) (.slice Al e.log.length cl)
  have z0:=hy.c0
  have z1:=hy.c1
  have z2:=hy.c2
  have z3:=hy.c3
  have z4:=hy.c4
  exact bodyPost_ret (v:=.tuple #[e.ag (.slice Ad e.disk.length cd) (.slice Am e.mem.length cm) (.slice Al e.log.length cl), .bool false]) (by simp [results,Tryz.results138,go_sem,z0,z1,z2,z3,z4]) rfl ⟨_,_,_,rfl,h1,h2,Ba.of_below h3⟩
 have hmp:=(Gu.1 HM.out).2.2.1
 obtain ⟨p,rfl⟩ : ∃ p : Nat,page = (p : Int):=⟨page.toNat,by omega⟩
 have hp5 : p < 5:=by omega
 have hp5i : (p : Int) < 5:=by omega
 have hgm:=AZ HI.out.Mk
 have hmem5:=hgm.1
 obtain ⟨okd,okm, -, -,hpm⟩:=HO1.out.ex
 obtain ⟨gm,capm,hAm, -, -⟩:=D9 hpm (by omega)
 injection hAm with hA1 hA2 hA3
 clear hA2
 subst hA1 hA3
 have hpl : p < e.mem.length:=by omega
 have hpli : (p : Int) < (e.mem.length : Int):=by omega
 obtain ⟨A2,c2,p0,p1,p2,pC, -⟩:=F4 hpm p hpl
 have HGM:=As hgm
 have HPC:=As pC
 have HP5:=As hp5
 obtain ⟨P,hP⟩ : ∃ P,pg e.mem p = P:=⟨_,rfl⟩
 have HPP:=As hP
 rw [hP] at p0 p1 p2 HPC
 have HFB : A7 (Ns e tx (p : Int) vals = true ↔ P.owner ≠ 0 ∧ Ik P.vals = true ∧ Hq vals = true ∧ Q0 e.log tx (p : Int) = true):=⟨by rw [Ns,HM.out,Int.toNat_natCast,hP];simp⟩
 clear hmp hgm hpm pC hP hmem5
 rcases BS (vals.length : Int) 3 with ⟨e1,b1,c1⟩ | ⟨e1,b1,c1⟩
 rotate_left
 ·rw [HFE.out,if_neg (fun h => by have:=(HFB.out.1 h).2.2.1;simp only [Hq,Bool.and_eq_true,beq_iff_eq] at this;exact e1.out (by omega))]
  go_enter Tryz.func138,Tryz.ntmps138
  go_wp2_with (first
   | (rw [show (w.alloc (Obj.cells #[Value.slice Ad e.disk.length cd,Value.slice (some ⟨gm,0,none⟩) e.mem.length cm,Value.slice Al e.log.length cl,Value.int IntKind.i64 e.safe,Value.bool e.down] 26)).alloc (Obj.cells #[Value.slice none 0 0,Value.slice none 0 0,Value.slice none 0 0,Value.int IntKind.i64 0,Value.bool false] 26) = w1 from HW1.out])
   | (go_at_call 152;refine (BP (cd:=cd) (cm:=cm) (cl:=cl) tx (p : Int) HM.out HI.out.core (Below.refl w1.heap.size w1) HC1.out).mono ?_;rintro x w2 ⟨rfl,hb2⟩;have HO2:=HO1;have HB2:=HB1;have HBM : A7 (Below w1.heap.size w1 w1):=⟨Below.refl _ _⟩;have HP2:=HP1;replace x0:=bc hb2 x0;replace x1:=bc hb2 x1;replace x2:=bc hb2 x2;replace x3:=bc hb2 x3;replace x4:=bc hb2 x4;replace p0:=bc hb2 p0;replace p1:=bc hb2 p1;replace p2:=bc hb2 p2;clear y0 y1 y2 y3 y4 f0 f1 f2 f3 f4;replace HO2:=As (HO2.out.below hb2);replace HB2:=As (bj HB2.out hb2);replace HBM:=As (bj HBM.out hb2);have hp:=HP2.out.up hb2;replace HP2:=As hp;have y0:=hp.c0;have y1:=hp.c1;have y2:=hp.c2;have y3:=hp.c3;have y4:=hp.c4;have f0:=hp.frz 0;have f1:=hp.frz 1;have f2:=hp.frz 2;have f3:=hp.frz 3;have f4:=hp.frz 4;clear hp hb2))
  have hz:=HZ1.out
  have hs0:=HB.out.size
  have hy:=HP2.out.Ap e (.slice Ad e.disk.length cd) (.slice (some ⟨gm,0,none⟩) e.mem.length cm) (.slice Al e.log.length cl)
  have h1:=HO2.out.Ap (f:=e) (xd:=.slice Ad e.disk.length cd) (xm:=.slice (some ⟨gm,0,none⟩) e.mem.length cm) (xl:=.slice Al e.log.length cl) HP2.out
  have h2:=Aj (g:=w.heap.size + 1) (bj HB.out HB2.out) (by omega) e (.slice Ad e.disk.length cd) (.slice (some ⟨gm,0,none⟩) e.mem.length cm) (.slice Al e.log.length cl)
  have h3:=Aj (g:=w.heap.size + 1) HB2.out (by omega) e (.slice Ad e.disk.length cd) (.slice (some ⟨gm,0,none⟩) e.mem.length cm) (.slice Al e.log.length cl)
  have z0:=hy.c0
  have z1:=hy.c1
  have z2:=hy.c2
  have z3:=hy.c3
  have z4:=hy.c4
  exact bodyPost_ret (v:=.tuple #[e.ag (.slice Ad e.disk.length cd) (.slice (some ⟨gm,0,none⟩) e.mem.length cm) (.slice Al e.log.length cl), .bool false]) (by simp [results,Tryz.results138,go_sem,z0,z1,z2,z3,z4]) rfl ⟨_,_,_,rfl,h1,h2,Ba.of_below h3⟩
 rcases BS P.owner 0 with ⟨e2,b2,c2_⟩ | ⟨e2,b2,c2_⟩
 ·rw [HFE.out,if_neg (fun h => (HFB.out.1 h).1 e2.out)]
  go_enter Tryz.func138,Tryz.ntmps138
  go_wp2_with (first
   | (rw [show (w.alloc (Obj.cells #[Value.slice Ad e.disk.length cd,Value.slice (some ⟨gm,0,none⟩) e.mem.length cm,Value.slice Al e.log.length cl,Value.int IntKind.i64 e.safe,Value.bool e.down] 26)).alloc (Obj.cells #[Value.slice none 0 0,Value.slice none 0 0,Value.slice none 0 0,Value.int IntKind.i64 0,Value.bool false] 26) = w1 from HW1.out])
   | (go_at_call 152;refine (BP (cd:=cd) (cm:=cm) (cl:=cl) tx (p : Int) HM.out HI.out.core (Below.refl w1.heap.size w1) HC1.out).mono ?_;rintro x w2 ⟨rfl,hb2⟩;have HO2:=HO1;have HB2:=HB1;have HBM : A7 (Below w1.heap.size w1 w1):=⟨Below.refl _ _⟩;have HP2:=HP1;replace x0:=bc hb2 x0;replace x1:=bc hb2 x1;replace x2:=bc hb2 x2;replace x3:=bc hb2 x3;replace x4:=bc hb2 x4;replace p0:=bc hb2 p0;replace p1:=bc hb2 p1;replace p2:=bc hb2 p2;clear y0 y1 y2 y3 y4 f0 f1 f2 f3 f4;replace HO2:=As (HO2.out.below hb2);replace HB2:=As (bj HB2.out hb2);replace HBM:=As (bj HBM.out hb2);have hp:=HP2.out.up hb2;replace HP2:=As hp;have y0:=hp.c0;have y1:=hp.c1;have y2:=hp.c2;have y3:=hp.c3;have y4:=hp.c4;have f0:=hp.frz 0;have f1:=hp.frz 1;have f2:=hp.frz 2;have f3:=hp.frz 3;have f4:=hp.frz 4;clear hp hb2))
  have hz:=HZ1.out
  have hs0:=HB.out.size
  have hy:=HP2.out.Ap e (.slice Ad e.disk.length cd) (.slice (some ⟨gm,0,none⟩) e.mem.length cm) (.slice Al e.log.length cl)
  have h1:=HO2.out.Ap (f:=e) (xd:=.slice Ad e.disk.length cd) (xm:=.slice (some ⟨gm,0,none⟩) e.mem.length cm) (xl:=.slice Al e.log.length cl) HP2.out
  have h2:=Aj (g:=w.heap.size + 1) (bj HB.out HB2.out) (by omega) e (.slice Ad e.disk.length cd) (.slice (some ⟨gm,0,none⟩) e.mem.length cm) (.slice Al e.log.length cl)
  have h3:=Aj (g:=w.heap.size + 1) HB2.out (by omega) e (.slice Ad e.disk.length cd) (.slice (some ⟨gm,0,none⟩) e.mem.length cm) (.slice Al e.log.length cl)
  have z0:=hy.c0
  have z1:=hy.c1
  have z2:=hy.c2
  have z3:=hy.c3
  have z4:=hy.c4
  exact bodyPost_ret (v:=.tuple #[e.ag (.slice Ad e.disk.length cd) (.slice (some ⟨gm,0,none⟩) e.mem.length cm) (.slice Al e.log.length cl), .bool false]) (by simp [results,Tryz.results138,go_sem,z0,z1,z2,z3,z4]) rfl ⟨_,_,_,rfl,h1,h2,Ba.of_below h3⟩
 cases hz : Ik P.vals
 ·have HZE:=As hz
  rw [HFE.out,if_neg (fun h => by have:=(HFB.out.1 h).2.1;rw [hz] at this;cases this)]
  clear hz
  go_enter Tryz.func138,Tryz.ntmps138
  go_wp2_with (first
   | (rw [show (w.alloc (Obj.cells #[Value.slice Ad e.disk.length cd,Value.slice (some ⟨gm,0,none⟩) e.mem.length cm,Value.slice Al e.log.length cl,Value.int IntKind.i64 e.safe,Value.bool e.down] 26)).alloc (Obj.cells #[Value.slice none 0 0,Value.slice none 0 0,Value.slice none 0 0,Value.int IntKind.i64 0,Value.bool false] 26) = w1 from HW1.out])
   | (go_at_call 152;refine (BP (cd:=cd) (cm:=cm) (cl:=cl) tx (p : Int) HM.out HI.out.core (Below.refl w1.heap.size w1) HC1.out).mono ?_;rintro x w2 ⟨rfl,hb2⟩;have HO2:=HO1;have HB2:=HB1;have HBM : A7 (Below w1.heap.size w1 w1):=⟨Below.refl _ _⟩;have HP2:=HP1;replace x0:=bc hb2 x0;replace x1:=bc hb2 x1;replace x2:=bc hb2 x2;replace x3:=bc hb2 x3;replace x4:=bc hb2 x4;replace p0:=bc hb2 p0;replace p1:=bc hb2 p1;replace p2:=bc hb2 p2;clear y0 y1 y2 y3 y4 f0 f1 f2 f3 f4;replace HO2:=As (HO2.out.below hb2);replace HB2:=As (bj HB2.out hb2);replace HBM:=As (bj HBM.out hb2);have hp:=HP2.out.up hb2;replace HP2:=As hp;have y0:=hp.c0;have y1:=hp.c1;have y2:=hp.c2;have y3:=hp.c3;have y4:=hp.c4;have f0:=hp.frz 0;have f1:=hp.frz 1;have f2:=hp.frz 2;have f3:=hp.frz 3;have f4:=hp.frz 4;clear hp hb2)
   | (go_at_call 153;refine (F8 HZE.out HBM.out HPC.out).mono ?_;rintro x w3 ⟨rfl,hb3⟩;replace x0:=bc hb3 x0;replace x1:=bc hb3 x1;replace x2:=bc hb3 x2;replace x3:=bc hb3 x3;replace x4:=bc hb3 x4;clear y0 y1 y2 y3 y4 f0 f1 f2 f3 f4;replace HO2:=As (HO2.out.below hb3);replace HB2:=As (bj HB2.out hb3);replace HBM:=As (bj HBM.out hb3);have hp:=HP2.out.up hb3;replace HP2:=As hp;have y0:=hp.c0;have y1:=hp.c1;have y2:=hp.c2;have y3:=hp.c3;have y4:=hp.c4;have f0:=hp.frz 0;have f1:=hp.frz 1;have f2:=hp.frz 2;have f3:=hp.frz 3;have f4:=hp.frz 4;clear hp hb3))
  have hz:=HZ1.out
  have hs0:=HB.out.size
  have hy:=HP2.out.Ap e (.slice Ad e.disk.length cd) (.slice (some ⟨gm,0,none⟩) e.mem.length cm) (.slice Al e.log.length cl)
  have h1:=HO2.out.Ap (f:=e) (xd:=.slice Ad e.disk.length cd) (xm:=.slice (some ⟨gm,0,none⟩) e.mem.length cm) (xl:=.slice Al e.log.length cl) HP2.out
  have h2:=Aj (g:=w.heap.size + 1) (bj HB.out HB2.out) (by omega) e (.slice Ad e.disk.length cd) (.slice (some ⟨gm,0,none⟩) e.mem.length cm) (.slice Al e.log.length cl)
  have h3:=Aj (g:=w.heap.size + 1) HB2.out (by omega) e (.slice Ad e.disk.length cd) (.slice (some ⟨gm,0,none⟩) e.mem.length cm) (.slice Al e.log.length cl)
  have z0:=hy.c0
  have z1:=hy.c1
  have z2:=hy.c2
  have z3:=hy.c3
  have z4:=hy.c4
  exact bodyPost_ret (v:=.tuple #[e.ag (.slice Ad e.disk.length cd) (.slice (some ⟨gm,0,none⟩) e.mem.length cm) (.slice Al e.log.length cl), .bool false]) (by simp [results,Tryz.results138,go_sem,z0,z1,z2,z3,z4]) rfl ⟨_,_,_,rfl,h1,h2,Ba.of_below h3⟩
 have HZE:=As hz
 clear hz
 cases ht : Q0 e.log tx (p : Int)
 ·have HTK:=As ht
  rw [HFE.out,if_neg (fun h => by have:=(HFB.out.1 h).2.2.2;rw [ht] at this;cases this)]
  clear ht
  go_enter Tryz.func138,Tryz.ntmps138
  go_wp2_with (first
   | (rw [show (w.alloc (Obj.cells #[Value.slice Ad e.disk.length cd,Value.slice (some ⟨gm,0,none⟩) e.mem.length cm,Value.slice Al e.log.length cl,Value.int IntKind.i64 e.safe,Value.bool e.down] 26)).alloc (Obj.cells #[Value.slice none 0 0,Value.slice none 0 0,Value.slice none 0 0,Value.int IntKind.i64 0,Value.bool false] 26) = w1 from HW1.out])
   | (go_at_call 152;refine (BP (cd:=cd) (cm:=cm) (cl:=cl) tx (p : Int) HM.out HI.out.core (Below.refl w1.heap.size w1) HC1.out).mono ?_;rintro x w2 ⟨rfl,hb2⟩;have HO2:=HO1;have HB2:=HB1;have HBM : A7 (Below w1.heap.size w1 w1):=⟨Below.refl _ _⟩;have HP2:=HP1;replace x0:=bc hb2 x0;replace x1:=bc hb2 x1;replace x2:=bc hb2 x2;replace x3:=bc hb2 x3;replace x4:=bc hb2 x4;replace p0:=bc hb2 p0;replace p1:=bc hb2 p1;replace p2:=bc hb2 p2;clear y0 y1 y2 y3 y4 f0 f1 f2 f3 f4;replace HO2:=As (HO2.out.below hb2);replace HB2:=As (bj HB2.out hb2);replace HBM:=As (bj HBM.out hb2);have hp:=HP2.out.up hb2;replace HP2:=As hp;have y0:=hp.c0;have y1:=hp.c1;have y2:=hp.c2;have y3:=hp.c3;have y4:=hp.c4;have f0:=hp.frz 0;have f1:=hp.frz 1;have f2:=hp.frz 2;have f3:=hp.frz 3;have f4:=hp.frz 4;clear hp hb2)
   | (go_at_call 153;refine (F8 HZE.out HBM.out HPC.out).mono ?_;rintro x w3 ⟨rfl,hb3⟩;replace x0:=bc hb3 x0;replace x1:=bc hb3 x1;replace x2:=bc hb3 x2;replace x3:=bc hb3 x3;replace x4:=bc hb3 x4;clear y0 y1 y2 y3 y4 f0 f1 f2 f3 f4;replace HO2:=As (HO2.out.below hb3);replace HB2:=As (bj HB2.out hb3);replace HBM:=As (bj HBM.out hb3);have hp:=HP2.out.up hb3;replace HP2:=As hp;have y0:=hp.c0;have y1:=hp.c1;have y2:=hp.c2;have y3:=hp.c3;have y4:=hp.c4;have f0:=hp.frz 0;have f1:=hp.frz 1;have f2:=hp.frz 2;have f3:=hp.frz 3;have f4:=hp.frz 4;clear hp hb3)
   | (go_at_call 154;refine (Ku (c:=cl) HTK.out HBM.out HC1.out.l HI.out.core.log).mono ?_;rintro x w4 ⟨rfl,hb4⟩;replace x0:=bc hb4 x0;replace x1:=bc hb4 x1;replace x2:=bc hb4 x2;replace x3:=bc hb4 x3;replace x4:=bc hb4 x4;clear y0 y1 y2 y3 y4 f0 f1 f2 f3 f4;replace HO2:=As (HO2.out.below hb4);replace HB2:=As (bj HB2.out hb4);replace HBM:=As (bj HBM.out hb4);have hp:=HP2.out.up hb4;replace HP2:=As hp;have y0:=hp.c0;have y1:=hp.c1;have y2:=hp.c2;have y3:=hp.c3;have y4:=hp.c4;have f0:=hp.frz 0;have f1:=hp.frz 1;have f2:=hp.frz 2;have f3:=hp.frz 3;have f4:=hp.frz 4;clear hp hb4))
  have hz:=HZ1.out
  have hs0:=HB.out.size
  have hy:=HP2.out.Ap e (.slice Ad e.disk.length cd) (.slice (some ⟨gm,0,none⟩) e.mem.length cm) (.slice Al e.log.length cl)
  have h1:=HO2.out.Ap (f:=e) (xd:=.slice Ad e.disk.length cd) (xm:=.slice (some ⟨gm,0,none⟩) e.mem.length cm) (xl:=.slice Al e.log.length cl) HP2.out
  have h2:=Aj (g:=w.heap.size + 1) (bj HB.out HB2.out) (by omega) e (.slice Ad e.disk.length cd) (.slice (some ⟨gm,0,none⟩) e.mem.length cm) (.slice Al e.log.length cl)
  have h3:=Aj (g:=w.heap.size + 1) HB2.out (by omega) e (.slice Ad e.disk.length cd) (.slice (some ⟨gm,0,none⟩) e.mem.length cm) (.slice Al e.log.length cl)
  have z0:=hy.c0
  have z1:=hy.c1
  have z2:=hy.c2
  have z3:=hy.c3
  have z4:=hy.c4
  exact bodyPost_ret (v:=.tuple #[e.ag (.slice Ad e.disk.length cd) (.slice (some ⟨gm,0,none⟩) e.mem.length cm) (.slice Al e.log.length cl), .bool false]) (by simp [results,Tryz.results138,go_sem,z0,z1,z2,z3,z4]) rfl ⟨_,_,_,rfl,h1,h2,Ba.of_below h3⟩
 have HTK:=As ht
 clear ht
 obtain ⟨E,hE⟩ : ∃ E,e.app ⟨3,tx,(p : Int),0,0,0,0,0⟩ = E:=⟨_,rfl⟩
 have hEk : E.log.length = e.log.length + 1 ∧ E.mem = e.mem:=by
  rw [← hE]
  exact ⟨MQ _ _,rfl⟩
 have HEK:=As hEk
 obtain ⟨q,hq⟩ : ∃ q : Page,(⟨(E.log.length : Int),P.owner,vals⟩ : Page) = q:=⟨_,rfl⟩
 have HQV : A7 (q.lsn = (E.log.length : Int) ∧ q.owner = P.owner ∧ q.vals = vals):=⟨by rw [← hq];exact ⟨rfl,rfl,rfl⟩⟩
 obtain ⟨Y,hYd⟩ : ∃ Y : Eng,({ E with mem:=E.mem.set p q } : Eng) = Y:=⟨_,rfl⟩
 have HYD:=As hYd
 have HLX : A7 (Qv e tx (p : Int) vals = Y):=⟨by
  rw [← hYd, ← hq,hEk.1,hEk.2, ← hE, ← HPP.out]
  unfold Qv Eng.app
  rw [if_neg (by simp [Cu]),Int.toNat_natCast]⟩
 have HADD : A7 (Hq vals = true → ∀ wx vd' vm' vl',Aw wx w0.heap.size vd' vm' vl' e → Below w0.heap.size w0 wx → Calls Tryz.prog 119 #[e.ag vd' vm' vl', .agg #[.int .i64 3, .int .i64 tx, .int .i64 (p : Int), .int .i64 0, .int .i64 0, .int .i64 0, .int .i64 0, .int .i64 0]] wx (Ig w0 wx vm' E true)):=⟨fun hvb wx vd' vm' vl' ho hb => by
  have hI:=HI.out.UW HBB.out (HFB.out.2 ⟨e2.out,HZE.out,hvb,HTK.out⟩)
  have h:=ES ⟨3,tx,(p : Int),0,0,0,0,0⟩ HGM.out hI.core.log (hI.SC rfl (by simp)) (fun h => by simp [Cu] at h) hb ho
  rw [hE] at h
  exact h⟩
 clear hE hEk hq hYd
 go_enter Tryz.func138,Tryz.ntmps138
 go_wp2_with (first
  | (rw [show (w.alloc (Obj.cells #[Value.slice Ad e.disk.length cd,Value.slice (some ⟨gm,0,none⟩) e.mem.length cm,Value.slice Al e.log.length cl,Value.int IntKind.i64 e.safe,Value.bool e.down] 26)).alloc (Obj.cells #[Value.slice none 0 0,Value.slice none 0 0,Value.slice none 0 0,Value.int IntKind.i64 0,Value.bool false] 26) = w1 from HW1.out])
  | (go_at_call 152;refine (BP (cd:=cd) (cm:=cm) (cl:=cl) tx (p : Int) HM.out HI.out.core (Below.refl w1.heap.size w1) HC1.out).mono ?_;rintro x w2 ⟨rfl,hb2⟩;have HO2:=HO1;have HB2:=HB1;have HBM : A7 (Below w1.heap.size w1 w1):=⟨Below.refl _ _⟩;have HP2:=HP1;replace x0:=bc hb2 x0;replace x1:=bc hb2 x1;replace x2:=bc hb2 x2;replace x3:=bc hb2 x3;replace x4:=bc hb2 x4;replace p0:=bc hb2 p0;replace p1:=bc hb2 p1;replace p2:=bc hb2 p2;clear y0 y1 y2 y3 y4 f0 f1 f2 f3 f4;replace HO2:=As (HO2.out.below hb2);replace HB2:=As (bj HB2.out hb2);replace HBM:=As (bj HBM.out hb2);have hp:=HP2.out.up hb2;replace HP2:=As hp;have y0:=hp.c0;have y1:=hp.c1;have y2:=hp.c2;have y3:=hp.c3;have y4:=hp.c4;have f0:=hp.frz 0;have f1:=hp.frz 1;have f2:=hp.frz 2;have f3:=hp.frz 3;have f4:=hp.frz 4;clear hp hb2)
  | (go_at_call 153;refine (F8 HZE.out HBM.out HPC.out).mono ?_;rintro x w3 ⟨rfl,hb3⟩;replace x0:=bc hb3 x0;replace x1:=bc hb3 x1;replace x2:=bc hb3 x2;replace x3:=bc hb3 x3;replace x4:=bc hb3 x4;clear y0 y1 y2 y3 y4 f0 f1 f2 f3 f4;replace HO2:=As (HO2.out.below hb3);replace HB2:=As (bj HB2.out hb3);replace HBM:=As (bj HBM.out hb3);have hp:=HP2.out.up hb3;replace HP2:=As hp;have y0:=hp.c0;have y1:=hp.c1;have y2:=hp.c2;have y3:=hp.c3;have y4:=hp.c4;have f0:=hp.frz 0;have f1:=hp.frz 1;have f2:=hp.frz 2;have f3:=hp.frz 3;have f4:=hp.frz 4;clear hp hb3)
  | (go_at_call 154;refine (Ku (c:=cl) HTK.out HBM.out HC1.out.l HI.out.core.log).mono ?_;rintro x w4 ⟨rfl,hb4⟩;replace x0:=bc hb4 x0;replace x1:=bc hb4 x1;replace x2:=bc hb4 x2;replace x3:=bc hb4 x3;replace x4:=bc hb4 x4;clear y0 y1 y2 y3 y4 f0 f1 f2 f3 f4;replace HO2:=As (HO2.out.below hb4);replace HB2:=As (bj HB2.out hb4);replace HBM:=As (bj HBM.out hb4);have hp:=HP2.out.up hb4;replace HP2:=As hp;have y0:=hp.c0;have y1:=hp.c1;have y2:=hp.c2;have y3:=hp.c3;have y4:=hp.c4;have f0:=hp.frz 0;have f1:=hp.frz 1;have f2:=hp.frz 2;have f3:=hp.frz 3;have f4:=hp.frz 4;clear hp hb4))
 go_loop [10] (fun i => ∃ k : Nat,k ≤ vals.length ∧ i = .int .i64 (k : Int) ∧ A7 (∀ j,j < k → inB (iv vals j) 0 9 = true)) (fun i => (vals.length - intOf i).toNat)
 case atStart => exact ⟨0,Nat.zero_le _,rfl,⟨fun j hj => by omega⟩⟩
 case round =>
  obtain ⟨k,hk,rfl,HK⟩:=hrel
  by_cases hlt : k < vals.length
  ·obtain ⟨ad,rfl,g0⟩:=DW (BF HV.out HBM.out) k hlt
   cases hin : inB (iv vals k) 0 9
   all_goals
    have HIN:=As hin
    clear hin
    go_wp2_with (first
     | (go_at_call 53;refine (AX _ _ _ _).mono ?_;rw [HIN.out];rintro x w' ⟨rfl,rfl⟩))
   ·rw [HFE.out,if_neg (fun h => by
     have h3:=(HFB.out.1 h).2.2.1
     simp only [Hq,Bool.and_eq_true,Bool.not_eq_true',List.any_eq_false] at h3
     have:=h3.2 (iv vals k) (by rw [iv,List.getD_eq_getElem?_getD,List.getElem?_eq_getElem hlt];exact List.getElem_mem hlt)
     rw [HIN.out] at this
     exact this rfl)]
    have hz:=HZ1.out
    have hs0:=HB.out.size
    have hy:=HP2.out.Ap e (.slice Ad e.disk.length cd) (.slice (some ⟨gm,0,none⟩) e.mem.length cm) (.slice Al e.log.length cl)
    have h1:=HO2.out.Ap (f:=e) (xd:=.slice Ad e.disk.length cd) (xm:=.slice (some ⟨gm,0,none⟩) e.mem.length cm) (xl:=.slice Al e.log.length cl) HP2.out
    have h2:=Aj (g:=w.heap.size + 1) (bj HB.out HB2.out) (by omega) e (.slice Ad e.disk.length cd) (.slice (some ⟨gm,0,none⟩) e.mem.length cm) (.slice Al e.log.length cl)
    have h3:=Aj (g:=w.heap.size + 1) HB2.out (by omega) e (.slice Ad e.disk.length cd) (.slice (some ⟨gm,0,none⟩) e.mem.length cm) (.slice Al e.log.length cl)
    have z0:=hy.c0
    have z1:=hy.c1
    have z2:=hy.c2
    have z3:=hy.c3
    have z4:=hy.c4
    exact bodyPost_ret (v:=.tuple #[e.ag (.slice Ad e.disk.length cd) (.slice (some ⟨gm,0,none⟩) e.mem.length cm) (.slice Al e.log.length cl), .bool false]) (by simp [results,Tryz.results138,go_sem,z0,z1,z2,z3,z4]) rfl ⟨_,_,_,rfl,h1,h2,Ba.of_below h3⟩
   ·go_round
    case rel => exact ⟨k + 1,by omega,by go_num,⟨fun j hj => by
     rcases Nat.lt_succ_iff_lt_or_eq.1 hj with h | h
     ·exact HK.out j h
     ·rw [h];exact HIN.out⟩⟩
    case measure => simp [intOf];omega
  ·have hke : k = vals.length:=by omega
   have hvb : Hq vals = true:=by
    simp only [Hq,Bool.and_eq_true,beq_iff_eq,Bool.not_eq_true',List.any_eq_false]
    refine ⟨by have:=e1.out;omega,fun x hx => ?_⟩
    obtain ⟨j,hj,rfl⟩:=List.getElem_of_mem hx
    have:=HK.out j (by omega)
    rw [iv,List.getD_eq_getElem?_getD,List.getElem?_eq_getElem hj] at this
    simp only [Option.getD_some] at this
    rw [this];simp
   have HAD:=As (HADD.out hvb)
   have HOKF : A7 (Nr e tx (p : Int) vals = (Y,true)):=⟨by rw [HFE.out,if_pos (HFB.out.2 ⟨e2.out,HZE.out,hvb,HTK.out⟩),HLX.out]⟩
   clear hvb HADD
   go_wp2_with (first
    | (go_at_call 119;refine (HAD.out w4 _ _ _ HO2.out (bj HB.out HB2.out)).mono ?_;rintro y w6 ⟨ud,um,ul,rfl,ho,hb6,hk6⟩;obtain ⟨Bd,dd,Bm,dm,Bl,dl,rfl,rfl,rfl, -, -⟩:=ho.reads;have HO6:=As ho;have HP6:=As (HP2.out.GQ HO2.out hk6);have HB6:=As (And.intro hb6 (And.intro ((Ba.of_below HB2.out).Ce (Ba.JK HO2.out hk6)) hk6.1));clear x0 x1 x2 x3 x4 y0 y1 y2 y3 y4 f0 f1 f2 f3 f4 p0 p1 p2;clear ho hb6 hk6))
   obtain ⟨w7,hw7⟩ : ∃ w7,w6.alloc (Obj.cells #[.slice Bd E.disk.length dd, .slice Bm E.mem.length dm, .slice Bl E.log.length dl, .int .i64 E.safe, .bool E.down] 26) = w7:=⟨_,rfl⟩
   rw [hw7]
   have hb7 : Below w6.heap.size w6 w7:=by rw [← hw7];exact Aa (Below.refl _ _) _
   have hq7 : Ab w7 w6.heap.size E (.slice Bd E.disk.length dd) (.slice Bm E.mem.length dm) (.slice Bl E.log.length dl):=by rw [← hw7];exact Ab.mk1 _ _ _ _ _
   have HO7:=As (HO6.out.below hb7)
   have HP7:=As (HP6.out.up hb7)
   have HB7 : A7 (Below w0.heap.size w0 w7):=⟨bj HB6.out.1 hb7⟩
   have HK7 : A7 (Ba w w7):=⟨HB6.out.2.1.Ce (Ba.of_below hb7)⟩
   have HQ7:=As hq7
   have x1:=hq7.c1
   have x2:=hq7.c2
   obtain ⟨okd,okm,hap,hpd,hpm⟩:=HO7.out.ex
   obtain ⟨gm2,capm2,hAm2, -,hgml⟩:=D9 hpm (by rw [HEK.out.2];omega)
   injection hAm2 with hA1 hA2 hA3
   clear hA2
   subst hA1 hA3
   have hpl2 : p < E.mem.length:=by rw [HEK.out.2];exact hpl
   have hpli2 : (p : Int) < (E.mem.length : Int):=by omega
   obtain ⟨A3,c3,q0,q1,q2, -, -⟩:=F4 hpm p hpl2
   have HPR : A7 (pg E.mem p = P):=⟨by rw [HEK.out.2];exact HPP.out⟩
   rw [HPR.out, ← HQV.out.2.1] at q1
   have HPM:=As hpm
   have HPD:=As hpd
   have HAP:=As hap
   have HV7 : A7 (Kd.C (Kd.int .i64) w7 Av vals.length vals):=⟨HV0.out _ HB7.out HK7.out⟩
   have hv3 : vals.length = 3:=by have:=e1.out;omega
   have HV3:=As hv3
   clear hw7 hb7 hq7 hpm hpd hap hgml q0 q2 hke hv3
   refine Bo (fun lx a wx => Below w7.heap.size w7 wx ∧ (Pre 14 12 84 (fun _ => True) (fun v wx => ∃ B,v = .slice (some ⟨B,0,none⟩) 0 0 ∧ AA wx w7.heap.size v []) lx a wx ∧ Sl 14 86 (fun v wx => AA wx w7.heap.size v vals) lx a wx)) 17 rfl (by kernel_rfl) (⟨Ac (Below.refl _ _),FE trivial,Bp⟩) (fun HT => ?_)
   refine Bw [0,1,2,3,4,5,6,7,8,9,10,11,13] ?_
   iterate 13 (refine Bq (v:=?_) HT rfl (by kernel_rfl) rfl (kA Ah (kA (Cf rfl rfl rfl) (Ak rfl rfl))) (by rfl) (fun _ _ _ h => h) (fun lx ax wx hS => ?_) ?_;rotate_left;(have hbx:=hS.1;clear hS;replace x1:=bc hbx x1;replace x2:=bc hbx x2;replace q1:=bc hbx q1;go_simp;with_reducible rfl);rotate_left;simp only [sc0,sc1])
   refine Bv ?_
   refine AJ [12] (by kernel_rfl) (fun i hi wx hS => ?_)
   obtain rfl:=List.mem_singleton.1 hi
   clear hi
   have hb : Below wx.heap.size wx (wx.alloc (.cells #[] 3)):=Aa (Below.refl _ _) _
   refine BG (w1:=wx.alloc (.cells #[] 3)) (.slice (some ⟨wx.heap.size,0,none⟩) 0 0) rfl rfl (by rfl) (by go_simp) ?_
   refine ⟨⟨bj hS.1 hb,fun _ => ⟨trivial,fun _ => ⟨wx.heap.size,rfl,own_none' _ 1 rfl hS.1.size⟩⟩,fun h => (Ao h (by kernel_rfl)).elim⟩,?_⟩
   obtain ⟨B9,hB9⟩ : ∃ B9,wx.heap.size = B9:=⟨_,rfl⟩
   rw [hB9]
   clear hB9 hS hb
   simp only [sc0,sc1]
   refine AJ [14] (by kernel_rfl) (fun i hi wx hS => ?_)
   obtain rfl:=List.mem_singleton.1 hi
   clear hi
   obtain ⟨h1,h2, -⟩:=hS
   obtain ⟨B',hB',hO9⟩:=(h2 (by kernel_rfl)).2 (by kernel_rfl)
   have hB' : Value.slice (some ⟨B9,0,none⟩) 0 0 = Value.slice (some ⟨B',0,none⟩) 0 0:=hB'
   obtain rfl : B9 = B':=by simpa using hB'
   have hO9 : AA wx w7.heap.size (.slice (some ⟨B9,0,none⟩) 0 0) []:=hO9
   refine wpOp_step rfl (Kd.Cy (Kd.int .i64) (Rr:=(Kd.int .i64).K wx) (w0:=w7) w7.heap.size (by rfl) (.tmp 84) (.tmp 85) 39 3 _ 8 rfl EB Gz rfl (by decide) (by decide) (.slice (some ⟨B9,0,none⟩) 0 0) [] vals Av vals.length cv (fun _ => True) (fun _ => False) rfl rfl (Kd.EN hO9 (fun _ _ => trivial)) (BF HV7.out h1) (fun _ _ hk => hk) (fun _ hk => hk.elim) (fun _ _ => trivial) h1 h1.size (by have:=HV3.out;simp;omega) (fun v1 w8 hown hb8 hg8 _ => ?_))
   replace hown : AA w8 w7.heap.size v1 vals:=Kd.I4 hown
   obtain ⟨A9,c9,rfl, -, -⟩:=hown.reads
   simp only [Ck,sc0,sc1]
   refine ⟨⟨hb8,fun h => (Ao (by kernel_rfl) h).elim,fun _ => hown⟩,?_⟩
   clear h1 h2 hB' hO9 hb8 hg8 hown
   refine Bw [15,16] ?_
   iterate 2 (refine Bq (v:=?_) HT rfl (by kernel_rfl) rfl (kA Ah (kA (Cf rfl rfl rfl) (Ak rfl rfl))) (by rfl) (fun _ _ _ h => h) (fun lx ax wx hS => ?_) ?_;rotate_left;(go_simp;with_reducible rfl);rotate_left;simp only [sc0,sc1])
   refine Bv ?_
   refine Cb (i:=17) (by kernel_rfl) rfl (fun wx hS => ?_)
   obtain ⟨h5x, -,h3⟩:=hS
   have hown : AA wx w7.heap.size (.slice A9 vals.length c9) q.vals:=by rw [HQV.out.2.2];exact h3 (by kernel_rfl)
   refine FC (ok:=okm) (w0:=w0) (N:=w7.heap.size) (q:=q) (v:=.slice A9 vals.length c9) p rfl (.tmp 88) (.tmp 87) rfl (by rfl) rfl rfl (by rw [Page.own,HQV.out.1];rfl) hown HB7.out.size (Kd.Fe HPM.out h5x) hpl2 (bj HB7.out h5x) (fun w8 hO8 hB8 hg8 => ?_)
   refine BM (by kernel_rfl) ?_
   have hd8:=Kd.Fe HPD.out h5x
   have hty:=Kd.FY (Kd.Bg HPM.out h5x) gm2 (by simp [Value.ownBlock])
   have he8:=Aw.RG (e:=E) HAP.out hd8 (Kd.C8 HO7.out.l h5x) hown hO8 (Kr HPM.out gm2 (by simp [Value.ownBlock])) hg8 hty
   rw [HYD.out] at he8
   have hq8 : Ab w8 w6.heap.size Y (.slice Bd E.disk.length dd) (.slice (some ⟨gm2,0,none⟩) E.mem.length dm) (.slice Bl E.log.length dl):=by rw [← HYD.out];exact (hg8.block w6.heap.size (by have:=HQ7.out.lt;have:=h5x.size;omega) (fun e2 => by injection e2 with e2;exact GD HQ7.out HPM.out e2)).trans (HQ7.out.up h5x)
   have hp8 : Ab w8 (w.heap.size + 1) zE (.slice none 0 0) (.slice none 0 0) (.slice none 0 0):=(hg8.block (w.heap.size + 1) (by have:=HP7.out.lt;have:=h5x.size;omega) (fun e2 => by injection e2 with e2;exact GD HP7.out HPM.out e2)).trans (HP7.out.up h5x)
   have hk8 : Ba w w8:=(HK7.out.Ce (Ba.of_below h5x)).Ce (Ba.OY (S:=fun k => some gm2 = some k) ⟨hg8.size,fun k hk hn => hg8.block k hk (fun h => hn h.symm)⟩ (fun k hk => by injection hk with hk;subst hk;exact hty))
   have HX8:=As (And.intro hB8 (And.intro he8 hk8))
   have HP8:=As hp8
   have z0:=hq8.c0
   have z1:=hq8.c1
   have z2:=hq8.c2
   have z3:=hq8.c3
   have z4:=hq8.c4
   have y0:=hp8.c0
   have y1:=hp8.c1
   have y2:=hp8.c2
   have y3:=hp8.c3
   have y4:=hp8.c4
   have f0:=hp8.frz 0
   have f1:=hp8.frz 1
   have f2:=hp8.frz 2
   have f3:=hp8.frz 3
   have f4:=hp8.frz 4
   clear h5x h3 hown hO8 hB8 hg8 hd8 hty he8 hq8 hp8 hk8 x1 x2 q1
   go_wp2
   have hs0:=HB.out.size
   have hy:=HP8.out.Ap Y (.slice Bd E.disk.length dd) (.slice (some ⟨gm2,0,none⟩) E.mem.length dm) (.slice Bl E.log.length dl)
   have h1:=HX8.out.2.1.Ap (f:=Y) (xd:=.slice Bd E.disk.length dd) (xm:=.slice (some ⟨gm2,0,none⟩) E.mem.length dm) (xl:=.slice Bl E.log.length dl) HP8.out
   have h2:=Aj (g:=w.heap.size + 1) HX8.out.1 (by omega) Y (.slice Bd E.disk.length dd) (.slice (some ⟨gm2,0,none⟩) E.mem.length dm) (.slice Bl E.log.length dl)
   have h3:=HX8.out.2.2.Ap (g:=w.heap.size + 1) (Nat.le_succ _) Y (.slice Bd E.disk.length dd) (.slice (some ⟨gm2,0,none⟩) E.mem.length dm) (.slice Bl E.log.length dl)
   have u0:=hy.c0
   have u1:=hy.c1
   have u2:=hy.c2
   have u3:=hy.c3
   have u4:=hy.c4
   exact bodyPost_ret (v:=.tuple #[Y.ag (.slice Bd E.disk.length dd) (.slice (some ⟨gm2,0,none⟩) E.mem.length dm) (.slice Bl E.log.length dl), .bool true]) (by simp [results,Tryz.results138,go_sem,u0,u1,u2,u3,u4]) rfl (by rw [HOKF.out];exact ⟨_,_,_,rfl,h1,h2,h3⟩)
theorem Og {P : Program} {ops : Array Oper} {l : List Oper} {Q : Exit → Act → World → Prop} {a : Act} (W : World) (h : ∀ w1,W = w1 → wpList P ops Q l a w1) : wpList P ops Q l a W:=h W rfl
theorem Qd {e : Eng} (hlog : Au e.log = true) (tx : Int) (X : Eng) : (if Ms e tx = true then X else e) = (GA e tx X).1:=by
 unfold GA
 by_cases h : e.down = false ∧ Ae e.log tx e.log.length ≠ 0
 ·rw [if_pos (J4.2 ⟨h.1,J9 hlog h.2,h.2⟩),if_pos h]
 ·rw [if_neg (fun h2 => h ⟨(J4.1 h2).1,(J4.1 h2).2.2⟩),if_neg h]
set_option maxRecDepth 100000 in
set_option maxHeartbeats 64000000 in
theorem QF {w0 w : World} {e : Eng} {C : Nat → Page} {B : Nat} {vd vm vl : Value} {A : Option Addr} {c : Nat} (v : Evt) (hi : Inv e C B) (hB : B + 3 ≤ 150) (hb : Below w0.heap.size w0 w) (hr : Aw w w0.heap.size vd vm vl e) (hv : ∀ wx,Below w0.heap.size w0 wx → Ba w wx → Kd.C (Kd.int .i64) wx A v.vals.length v.vals) : Calls Tryz.prog 125 #[e.ag vd vm vl,v.val A c] w (Tq w0 w (Bf e v)):=by
  obtain ⟨Ad,cd,Am,cm,Al,cl,rfl,rfl,rfl,hcl,hrd⟩:=hr.reads
  have HI:=As hi
  have HBB:=As hB
  have HB0:=As hb
  have HO:=As hr
  have HVV:=As hv
  have HONE : True:=trivial
  have HTWO : True:=trivial
  clear hi hB hb hr hv hrd hcl
  rcases BS v.kind 1 with ⟨e1,b1,c1⟩ | ⟨e1,b1,c1⟩
  have hPE : Bf e v = (TQ e v.tx v.page v.slot v.n).1:=by unfold Bf;rw [if_pos e1.out]
  obtain ⟨E,bb,hE⟩ : ∃ E bb,TQ e v.tx v.page v.slot v.n = (E,bb):=⟨_,_,rfl⟩
  have HPE : A7 (Bf e v = E):=⟨by rw [hPE,hE]⟩
  have HIN : A7 (∀ wx,Below w.heap.size w wx → Calls Tryz.prog 136 #[e.val Ad Am Al cd cm cl, .int .i64 v.tx, .int .i64 v.page, .int .i64 v.slot, .int .i64 v.n] wx (IV w0 wx E bb)):=⟨fun wx hbx => by
    have ho':=HO.out.below hbx
    have hb':=bj HB0.out hbx
    have h:=(Pk v.tx v.page v.slot v.n HI.out HBB.out hb' ho').mono fun _ _ h => h.t ho'
    rw [hE] at h
    exact h⟩
  clear hPE hE
  rotate_left
  rcases BS v.kind 2 with ⟨e2,b2,c2⟩ | ⟨e2,b2,c2⟩
  have hPE : Bf e v = (U2 e v.tx v.page v.n).1:=by unfold Bf;rw [if_neg e1.out,if_pos e2.out]
  obtain ⟨E,bb,hE⟩ : ∃ E bb,U2 e v.tx v.page v.n = (E,bb):=⟨_,_,rfl⟩
  have HPE : A7 (Bf e v = E):=⟨by rw [hPE,hE]⟩
  have HIN : A7 (∀ wx,Below w.heap.size w wx → Calls Tryz.prog 137 #[e.val Ad Am Al cd cm cl, .int .i64 v.tx, .int .i64 v.page, .int .i64 v.n] wx (IV w0 wx E bb)):=⟨fun wx hbx => by
    have ho':=HO.out.below hbx
    have hb':=bj HB0.out hbx
    have h:=(Pm v.tx v.page v.n HI.out HBB.out hb' ho').mono fun _ _ h => h.t ho'
    rw [hE] at h
    exact h⟩
  clear hPE hE
  rotate_left
  rcases BS v.kind 3 with ⟨e3,b3,c3⟩ | ⟨e3,b3,c3⟩
  have hPE : Bf e v = (Nr e v.tx v.page v.vals).1:=by unfold Bf;rw [if_neg e1.out,if_neg e2.out,if_pos e3.out]
  obtain ⟨E,bb,hE⟩ : ∃ E bb,Nr e v.tx v.page v.vals = (E,bb):=⟨_,_,rfl⟩
  have HPE : A7 (Bf e v = E):=⟨by rw [hPE,hE]⟩
  have HIN : A7 (∀ wx,Below w.heap.size w wx → Calls Tryz.prog 138 #[e.val Ad Am Al cd cm cl, .int .i64 v.tx, .int .i64 v.page, .slice A v.vals.length c] wx (IV w0 wx E bb)):=⟨fun wx hbx => by
    have ho':=HO.out.below hbx
    have hb':=bj HB0.out hbx
    have h:=O5 (cv:=c) v.tx v.page v.vals HI.out HBB.out hb' ho' (fun wy h1 h2 => HVV.out wy h1 ((Ba.of_below hbx).Ce h2))
    rw [hE] at h
    exact h⟩
  clear hPE hE
  rotate_left
  rcases BS v.kind 4 with ⟨e4,b4,c4⟩ | ⟨e4,b4,c4⟩
  have hPE : Bf e v = (GA e v.tx (Ib e v.tx)).1:=by unfold Bf;rw [if_neg e1.out,if_neg e2.out,if_neg e3.out,if_pos e4.out];exact Qd HI.out.core.log _ _
  obtain ⟨E,bb,hE⟩ : ∃ E bb,GA e v.tx (Ib e v.tx) = (E,bb):=⟨_,_,rfl⟩
  have HPE : A7 (Bf e v = E):=⟨by rw [hPE,hE]⟩
  have HIN : A7 (∀ wx,Below w.heap.size w wx → Calls Tryz.prog 139 #[e.val Ad Am Al cd cm cl, .int .i64 v.tx] wx (IV w0 wx E bb)):=⟨fun wx hbx => by
    have ho':=HO.out.below hbx
    have hb':=bj HB0.out hbx
    have h:=O4 v.tx HI.out hb' ho'
    rw [hE] at h
    exact h⟩
  clear hPE hE
  rotate_left
  rcases BS v.kind 5 with ⟨e5,b5,c5⟩ | ⟨e5,b5,c5⟩
  have hPE : Bf e v = (GA e v.tx (GN e v.tx)).1:=by unfold Bf;rw [if_neg e1.out,if_neg e2.out,if_neg e3.out,if_neg e4.out,if_pos e5.out];exact Qd HI.out.core.log _ _
  obtain ⟨E,bb,hE⟩ : ∃ E bb,GA e v.tx (GN e v.tx) = (E,bb):=⟨_,_,rfl⟩
  have HPE : A7 (Bf e v = E):=⟨by rw [hPE,hE]⟩
  have HIN : A7 (∀ wx,Below w.heap.size w wx → Calls Tryz.prog 140 #[e.val Ad Am Al cd cm cl, .int .i64 v.tx] wx (IV w0 wx E bb)):=⟨fun wx hbx => by
    have ho':=HO.out.below hbx
    have hb':=bj HB0.out hbx
    have h:=O3 v.tx HI.out hb' ho'
    rw [hE] at h
    exact h⟩
  clear hPE hE
  rotate_left
  rcases BS v.kind 6 with ⟨e6,b6,c6⟩ | ⟨e6,b6,c6⟩
  rcases Bool.eq_false_or_eq_true e.down with hd | hd
  have HPE : A7 (Bf e v = e):=⟨by unfold Bf;rw [if_neg e1.out,if_neg e2.out,if_neg e3.out,if_neg e4.out,if_neg e5.out,if_pos e6.out];rw [if_neg (by rw [hd];simp)]⟩
  have HDN:=As hd
  clear hd
  rotate_left
  have HDN:=As hd
  rcases (Bool.eq_false_or_eq_true (inB v.page 0 4)).symm with hp | hp
  have HPE : A7 (Bf e v = e):=⟨by unfold Bf;rw [if_neg e1.out,if_neg e2.out,if_neg e3.out,if_neg e4.out,if_neg e5.out,if_pos e6.out];rw [if_neg (by rw [hp];simp)]⟩
  have HPG:=As hp
  clear hd hp
  rotate_left
  have HPG:=As hp
  have hpg:=CU.1 hp
  obtain ⟨p,hpp⟩ : ∃ p : Nat,v.page = (p : Int):=⟨v.page.toNat,by omega⟩
  obtain ⟨E,hE⟩ : ∃ E,Cj e p = E:=⟨_,rfl⟩
  have HPE : A7 (Bf e v = E):=⟨by unfold Bf;rw [if_neg e1.out,if_neg e2.out,if_neg e3.out,if_neg e4.out,if_neg e5.out,if_pos e6.out];rw [if_pos ⟨hd,hp⟩,hpp,Int.toNat_natCast,hE]⟩
  have HIN : A7 (∀ wx,Below w.heap.size w wx → Calls Tryz.prog 62 #[.agg #[.slice Ad e.disk.length cd, .slice Am e.mem.length cm, .slice Al e.log.length cl, .int .i64 e.safe, .bool false], .int .i64 v.page] wx (Tq w0 wx E)):=⟨fun wx hbx => by
    have ho':=HO.out.below hbx
    have h:=JQ (p:=p) (by omega) (AZ (Bb.2 ⟨HI.out.core.dlen,HI.out.core.dok⟩)) (AZ HI.out.Mk) (bj HB0.out hbx) ho'
    rw [hE, ← hpp] at h
    rw [Eng.ag,hd] at h
    exact h.mono fun x w' h => ⟨_,_,_,h.1,h.2.1,h.2.2.1,Ba.Qn ho' h.2.2.2⟩⟩
  clear hd hp hpg hpp hE
  rotate_left
  rcases BS v.kind 7 with ⟨e7,b7,c7⟩ | ⟨e7,b7,c7⟩
  rcases Bool.eq_false_or_eq_true e.down with hd | hd
  have HPE : A7 (Bf e v = e):=⟨by unfold Bf;rw [if_neg e1.out,if_neg e2.out,if_neg e3.out,if_neg e4.out,if_neg e5.out,if_neg e6.out,if_pos e7.out];rw [if_neg (by rw [hd];simp)]⟩
  have HDN:=As hd
  clear hd
  rotate_left
  have HDN:=As hd
  have HPE : A7 (Bf e v = DV e):=⟨by unfold Bf;rw [if_neg e1.out,if_neg e2.out,if_neg e3.out,if_neg e4.out,if_neg e5.out,if_neg e6.out,if_pos e7.out];rw [if_pos hd]⟩
  obtain ⟨E,hE⟩ : ∃ E,DV e = E:=⟨_,rfl⟩
  have HEE : A7 ({ e with safe:=(e.log.length : Int) } = E ∧ E.safe = (e.log.length : Int) ∧ E.down = e.down):=⟨by rw [← hE];exact ⟨rfl,rfl,rfl⟩⟩
  rw [hE] at HPE
  clear hd hE
  rotate_left
  rcases BS v.kind 8 with ⟨e8,b8,c8⟩ | ⟨e8,b8,c8⟩
  rcases lts v.n 0 with ⟨e10,b10,c10⟩ | ⟨e10,b10,c10⟩
  have HPE : A7 (Bf e v = e):=⟨by unfold Bf;rw [if_neg e1.out,if_neg e2.out,if_neg e3.out,if_neg e4.out,if_neg e5.out,if_neg e6.out,if_neg e7.out,if_pos e8.out];rw [if_neg (by have:=e10.out;omega)]⟩
  rotate_left
  obtain ⟨E,hE⟩ : ∃ E,BL e v.n = E:=⟨_,rfl⟩
  have HPE : A7 (Bf e v = E):=⟨by unfold Bf;rw [if_neg e1.out,if_neg e2.out,if_neg e3.out,if_neg e4.out,if_neg e5.out,if_neg e6.out,if_neg e7.out,if_pos e8.out];rw [if_pos (by have:=e10.out;omega),hE]⟩
  have HIN : A7 (∀ wx,Below w.heap.size w wx → Calls Tryz.prog 34 #[e.val Ad Am Al cd cm cl, .int .i64 v.n] wx (Tq w0 wx E)):=⟨fun wx hbx => by
    have h:=Pj v.n (AZ (Bb.2 ⟨HI.out.core.dlen,HI.out.core.dok⟩)) HI.out.core.s0 HI.out.core.s1 (BA HI.out.core.log) (bj HB0.out hbx) (HO.out.below hbx)
    rw [hE] at h
    exact h⟩
  clear hE
  rotate_left
  rcases BS v.kind 9 with ⟨e9,b9,c9⟩ | ⟨e9,b9,c9⟩
  rcases lts v.n 0 with ⟨e10,b10,c10⟩ | ⟨e10,b10,c10⟩
  rcases Bool.eq_false_or_eq_true e.down with hd | hd
  have HPE : A7 (Bf e v = e):=⟨by unfold Bf;rw [if_neg e1.out,if_neg e2.out,if_neg e3.out,if_neg e4.out,if_neg e5.out,if_neg e6.out,if_neg e7.out,if_neg e8.out,if_pos e9.out];rw [if_neg (fun h => by have h1:=h.1;have h2:=h.2;have h3:=e10.out;omega)]⟩
  have HDN:=As hd
  clear hd
  rotate_left
  have HPE : A7 (Bf e v = e):=⟨by unfold Bf;rw [if_neg e1.out,if_neg e2.out,if_neg e3.out,if_neg e4.out,if_neg e5.out,if_neg e6.out,if_neg e7.out,if_neg e8.out,if_pos e9.out];rw [if_neg (fun h => by have h1:=h.1;have h2:=h.2;have h3:=e10.out;omega)]⟩
  have HDN:=As hd
  clear hd
  rotate_left
  rcases (Bool.eq_false_or_eq_true e.down).symm with hd | hd
  have HPE : A7 (Bf e v = e):=⟨by unfold Bf;rw [if_neg e1.out,if_neg e2.out,if_neg e3.out,if_neg e4.out,if_neg e5.out,if_neg e6.out,if_neg e7.out,if_neg e8.out,if_pos e9.out];rw [if_neg (fun h => by have h1:=h.1;rw [hd] at h1;cases h1)]⟩
  have HDN:=As hd
  clear hd
  rotate_left
  have HDN:=As hd
  obtain ⟨n,hn⟩ : ∃ n : Nat,v.n = (n : Int):=⟨v.n.toNat,by have:=e10.out;omega⟩
  obtain ⟨E,hE⟩ : ∃ E,upE (BJ n (Cc e)) = E:=⟨_,rfl⟩
  have HPE : A7 (Bf e v = E):=⟨by unfold Bf;rw [if_neg e1.out,if_neg e2.out,if_neg e3.out,if_neg e4.out,if_neg e5.out,if_neg e6.out,if_neg e7.out,if_neg e8.out,if_pos e9.out];rw [if_pos ⟨hd,by omega⟩,hn,Int.toNat_natCast,UF,hE]⟩
  obtain ⟨r,hr⟩ : ∃ r,decide (Ai (BJ n (Cc e)) = 0) = r:=⟨_,rfl⟩
  have HIN : A7 (∀ wx,Below w.heap.size w wx → Calls Tryz.prog 48 #[.agg #[.slice Ad e.disk.length cd, .slice Am e.mem.length cm, .slice Al e.log.length cl, .int .i64 e.safe, .bool true], .int .i64 v.n] wx (IV w0 wx E r)):=⟨fun wx hbx => by
    have h:=RQ n (AZ (Bb.2 ⟨HI.out.core.dlen,HI.out.core.dok⟩)) HI.out.core.log (Ct.1 HI.out.ok).rise (bj HB0.out hbx) (HO.out.below hbx)
    rw [← hn,Eng.ag,hd] at h
    exact h.mono fun x w' h => by
      obtain ⟨a1,a2,a3,h1,h2,h3,h4⟩:=h
      rw [hE,hr] at h1
      rw [hE] at h2
      exact ⟨a1,a2,a3,h1,h2,h3,h4⟩⟩
  clear hd hn hE hr
  rotate_left
  have HPE : A7 (Bf e v = e):=⟨by unfold Bf;rw [if_neg e1.out,if_neg e2.out,if_neg e3.out,if_neg e4.out,if_neg e5.out,if_neg e6.out,if_neg e7.out,if_neg e8.out,if_neg e9.out]⟩
  all_goals
    go_enter Tryz.func125,Tryz.ntmps125
    go_wp2_with (first
      | (with_reducible refine Ca (vd:=.slice Ad e.disk.length cd) (vm:=.slice Am e.mem.length cm) (vl:=.slice Al e.log.length cl) e ?_;clear HONE;intro w1 hb1 hz1 hq1;clear hz1;have HB:=As hb1;have HQ:=As hq1;have HL1:=As hq1.lt;clear hb1 hq1;have x0:=HQ.out.c0;have x1:=HQ.out.c1;have x2:=HQ.out.c2;have x3:=HQ.out.c3;have x4:=HQ.out.c4)
      | (with_reducible refine MU (A:=A) (c:=c) v ?_;intro w2 hb1 hz1 hq1;clear hz1;have HN1:=As HB.out.size;replace HB:=As (bj HB.out hb1);replace HQ:=As (HQ.out.up hb1);have HV:=As hq1;have HL2:=As hq1.lt;replace x0:=bc hb1 x0;replace x1:=bc hb1 x1;replace x2:=bc hb1 x2;replace x3:=bc hb1 x3;replace x4:=bc hb1 x4;clear hb1 hq1)
      | (refine Ca (vd:=.slice none 0 0) (vm:=.slice none 0 0) (vl:=.slice none 0 0) zE ?_;clear HTWO;intro w3 hb1 hz1 hq1;have HN2:=As HB.out.size;replace HB:=As (bj HB.out hb1);replace HQ:=As (HQ.out.up hb1);replace HV:=As (HV.out.up hb1);have HP:=As hq1;have HZ3:=As hz1;replace x0:=bc hb1 x0;replace x1:=bc hb1 x1;replace x2:=bc hb1 x2;replace x3:=bc hb1 x3;replace x4:=bc hb1 x4;clear hb1 hz1 hq1)
      | (with_reducible refine Ca (vd:=.slice Ad e.disk.length cd) (vm:=.slice Am e.mem.length cm) (vl:=.slice Al e.log.length cl) e ?_;intro w4 hb1 hz1 hq1;clear hz1;have HN3:=As HB.out.size;replace HB:=As (bj HB.out hb1);replace HQ:=As (HQ.out.up hb1);replace HV:=As (HV.out.up hb1);replace HP:=As (HP.out.up hb1);have HXB:=As hq1;have hne1 : ¬ w3.heap.size = w2.heap.size:=(by have:=HZ3.out;omega);have hne2 : ¬ w2.heap.size = w3.heap.size:=(by have:=HZ3.out;omega);replace x0:=bc hb1 x0;replace x1:=bc hb1 x1;replace x2:=bc hb1 x2;replace x3:=bc hb1 x3;replace x4:=bc hb1 x4;have v0:=HV.out.c0;have v1:=HV.out.c1;have v2:=HV.out.c2;have v3:=HV.out.c3;have v4:=HV.out.c4;have v5:=HV.out.c5;have n0:=HXB.out.c0;have n1:=HXB.out.c1;have n2:=HXB.out.c2;have n3:=HXB.out.c3;have n4:=HXB.out.c4;have m0:=HXB.out.frz 0;have m1:=HXB.out.frz 1;have m2:=HXB.out.frz 2;have m3:=HXB.out.frz 3;have m4:=HXB.out.frz 4;have y0:=HP.out.c0;have y1:=HP.out.c1;have y2:=HP.out.c2;have y3:=HP.out.c3;have y4:=HP.out.c4;have f0:=HP.out.frz 0;have f1:=HP.out.frz 1;have f2:=HP.out.frz 2;have f3:=HP.out.frz 3;have f4:=HP.out.frz 4;(try rw [HDN.out] at x4);clear hb1 hq1)
      | ((first | go_at_call 136 | go_at_call 137 | go_at_call 138 | go_at_call 139 | go_at_call 140 | go_at_call 62 | go_at_call 34 | go_at_call 48);refine (HIN.out w4 HB.out).mono ?_;rintro x w5 ⟨ud,um,ul,rfl,ho,hb5,hk5⟩;obtain ⟨Bd,dd,Bm,dm,Bl,dl,rfl,rfl,rfl, -, -⟩:=ho.reads;have HO5:=As ho;have HB5:=As hb5;have HK5:=As ((Ba.of_below HB.out).Ce hk5);have hx:=HXB.out.JR hk5;have hp:=HP.out.JR hk5;have HX5:=As hx;have HP5:=As hp;clear x0 x1 x2 x3 x4 v0 v1 v2 v3 v4 v5 n0 n1 n2 n3 n4 m0 m1 m2 m3 m4 y0 y1 y2 y3 y4 f0 f1 f2 f3 f4;have n0:=hx.c0;have n1:=hx.c1;have n2:=hx.c2;have n3:=hx.c3;have n4:=hx.c4;have m0:=hx.frz 0;have m1:=hx.frz 1;have m2:=hx.frz 2;have m3:=hx.frz 3;have m4:=hx.frz 4;have y0:=hp.c0;have y1:=hp.c1;have y2:=hp.c2;have y3:=hp.c3;have y4:=hp.c4;have f0:=hp.frz 0;have f1:=hp.frz 1;have f2:=hp.frz 2;have f3:=hp.frz 3;have f4:=hp.frz 4;clear ho hb5 hk5 hx hp)
      | (refine Og (Go.Proofs.YtjeodgfkilhkhaaGreat.Ap w5 w3.heap.size E (.slice Bd E.disk.length dd) (.slice Bm E.mem.length dm) (.slice Bl E.log.length dl)) ?_;intro w6 hw6;have hx : Ab w6 w3.heap.size E (.slice Bd E.disk.length dd) (.slice Bm E.mem.length dm) (.slice Bl E.log.length dl):=(by rw [← hw6];exact HX5.out.Ap E _ _ _);have hp : Ab w6 w2.heap.size zE (.slice none 0 0) (.slice none 0 0) (.slice none 0 0):=(by rw [← hw6];exact ((((HP5.out.far hne1 0 _).far hne1 1 _).far hne1 2 _).far hne1 3 _).far hne1 4 _);have HO6 : A7 (Aw w6 w0.heap.size (.slice Bd E.disk.length dd) (.slice Bm E.mem.length dm) (.slice Bl E.log.length dl) E):=⟨by rw [← hw6];exact HO5.out.Ap (f:=E) HX5.out⟩;have HB6 : A7 (Below w0.heap.size w0 w6):=⟨by rw [← hw6];exact Aj HB5.out (Nat.le_trans HB0.out.size HN3.out) E _ _ _⟩;have HK6 : A7 (Ba w w6):=⟨by rw [← hw6];exact HK5.out.Ap HN3.out E _ _ _⟩;have HP6:=As hp;clear n0 n1 n2 n3 n4 m0 m1 m2 m3 m4 y0 y1 y2 y3 y4 f0 f1 f2 f3 f4;have n0:=hx.c0;have n1:=hx.c1;have n2:=hx.c2;have n3:=hx.c3;have n4:=hx.c4;have y0:=hp.c0;have y1:=hp.c1;have y2:=hp.c2;have y3:=hp.c3;have y4:=hp.c4;have f0:=hp.frz 0;have f1:=hp.frz 1;have f2:=hp.frz 2;have f3:=hp.frz 3;have f4:=hp.frz 4;clear hw6 hx hp)
      | (go_at_call 53;refine (AX _ _ _ _).mono ?_;rw [HPG.out];rintro x w' ⟨rfl,rfl⟩)
      | (have hee:=HEE;refine Og (w4.setCell ⟨w3.heap.size,3,none⟩ (.int .i64 (e.log.length : Int))) ?_;clear HEE;intro w6 hw6;have hx : Ab w6 w3.heap.size E (.slice Ad e.disk.length cd) (.slice Am e.mem.length cm) (.slice Al e.log.length cl):=(by rw [← hw6, ← hee.out.1];exact HXB.out.CK _);have hp : Ab w6 w2.heap.size zE (.slice none 0 0) (.slice none 0 0) (.slice none 0 0):=(by rw [← hw6];exact HP.out.far hne1 3 _);have HO6 : A7 (Aw w6 w0.heap.size (.slice Ad e.disk.length cd) (.slice Am e.mem.length cm) (.slice Al e.log.length cl) E):=⟨by rw [← hw6, ← hee.out.1];have h:=(HO.out.below HB.out).Dy HXB.out 3 (.int .i64 (e.log.length : Int));exact ⟨h.ex,h.l⟩⟩;have HB6 : A7 (Below w0.heap.size w0 w6):=⟨by rw [← hw6];exact (bj HB0.out HB.out).setCell (p:=⟨w3.heap.size,3,none⟩) (Nat.le_trans HB0.out.size HN3.out) _⟩;have HK6 : A7 (Ba w w6):=⟨by rw [← hw6];exact (Ba.of_below HB.out).setCell (p:=⟨w3.heap.size,3,none⟩) HN3.out _⟩;have HP6:=As hp;clear x0 x1 x2 x3 x4 v0 v1 v2 v3 v4 v5 n0 n1 n2 n3 n4 m0 m1 m2 m3 m4 y0 y1 y2 y3 y4 f0 f1 f2 f3 f4;have n0:=hx.c0;have n1:=hx.c1;have n2:=hx.c2;have n3:=hx.c3;have n4:=hx.c4;have y0:=hp.c0;have y1:=hp.c1;have y2:=hp.c2;have y3:=hp.c3;have y4:=hp.c4;have f0:=hp.frz 0;have f1:=hp.frz 1;have f2:=hp.frz 2;have f3:=hp.frz 3;have f4:=hp.frz 4;clear hw6 hx hp))
    first
      | (have hy:=HP6.out.Ap E (.slice Bd E.disk.length dd) (.slice Bm E.mem.length dm) (.slice Bl E.log.length dl)
         have h1:=Aw.Ap (f:=E) (xd:=.slice Bd E.disk.length dd) (xm:=.slice Bm E.mem.length dm) (xl:=.slice Bl E.log.length dl) HO6.out HP6.out
         have h2:=Aj (g:=w2.heap.size) HB6.out (Nat.le_trans HB0.out.size HN2.out) E (.slice Bd E.disk.length dd) (.slice Bm E.mem.length dm) (.slice Bl E.log.length dl)
         have h3:=Ba.Ap (g:=w2.heap.size) HK6.out HN2.out E (.slice Bd E.disk.length dd) (.slice Bm E.mem.length dm) (.slice Bl E.log.length dl)
         have z0:=hy.c0
         have z1:=hy.c1
         have z2:=hy.c2
         have z3:=hy.c3
         have z4:=hy.c4
         exact bodyPost_ret (v:=E.ag (.slice Bd E.disk.length dd) (.slice Bm E.mem.length dm) (.slice Bl E.log.length dl)) (by simp [results,Tryz.results125,go_sem,z0,z1,z2,z3,z4]) rfl (by rw [HPE.out];exact ⟨_,_,_,rfl,h1,h2,h3⟩))
      | (have hy:=HP6.out.Ap E (.slice Ad e.disk.length cd) (.slice Am e.mem.length cm) (.slice Al e.log.length cl)
         have h1:=Aw.Ap (f:=E) (xd:=.slice Ad e.disk.length cd) (xm:=.slice Am e.mem.length cm) (xl:=.slice Al e.log.length cl) HO6.out HP6.out
         have h2:=Aj (g:=w2.heap.size) HB6.out (Nat.le_trans HB0.out.size HN2.out) E (.slice Ad e.disk.length cd) (.slice Am e.mem.length cm) (.slice Al e.log.length cl)
         have h3:=Ba.Ap (g:=w2.heap.size) HK6.out HN2.out E (.slice Ad e.disk.length cd) (.slice Am e.mem.length cm) (.slice Al e.log.length cl)
         have z0:=hy.c0
         have z1:=hy.c1
         have z2:=hy.c2
         have z3:=hy.c3
         have z4:=hy.c4
         exact bodyPost_ret (v:=E.ag (.slice Ad e.disk.length cd) (.slice Am e.mem.length cm) (.slice Al e.log.length cl)) (by simp [results,Tryz.results125,go_sem,z0,z1,z2,z3,z4]) rfl (by rw [HPE.out];exact ⟨_,_,_,rfl,h1,h2,h3⟩))
      | (have hy:=HP.out.Ap e (.slice Ad e.disk.length cd) (.slice Am e.mem.length cm) (.slice Al e.log.length cl)
         have h1:=Aw.Ap (f:=e) (xd:=.slice Ad e.disk.length cd) (xm:=.slice Am e.mem.length cm) (xl:=.slice Al e.log.length cl) (HO.out.below HB.out) HP.out
         have h2:=Aj (g:=w2.heap.size) (bj HB0.out HB.out) (Nat.le_trans HB0.out.size HN2.out) e (.slice Ad e.disk.length cd) (.slice Am e.mem.length cm) (.slice Al e.log.length cl)
         have h3:=Ba.Ap (g:=w2.heap.size) (Ba.of_below HB.out) HN2.out e (.slice Ad e.disk.length cd) (.slice Am e.mem.length cm) (.slice Al e.log.length cl)
         have z0:=hy.c0
         have z1:=hy.c1
         have z2:=hy.c2
         have z3:=hy.c3
         have z4:=hy.c4
         exact bodyPost_ret (v:=e.ag (.slice Ad e.disk.length cd) (.slice Am e.mem.length cm) (.slice Al e.log.length cl)) (by simp [results,Tryz.results125,go_sem,z0,z1,z2,z3,z4]) rfl (by rw [HPE.out];exact ⟨_,_,_,rfl,h1,h2,h3⟩))
set_option maxRecDepth 100000 in
set_option maxHeartbeats 8000000 in
theorem L6 (w : World) : Calls Tryz.prog 126 #[] w (Oc w newP):=by
 have hmk:=UQ
 go_enter Tryz.func126,Tryz.ntmps126
 go_wp2
 obtain ⟨w1,hw1⟩ : ∃ w1,w.alloc (Obj.cells #[.int .i64 0, .int .i64 0, .slice (some ⟨w.heap.size + 1,0,none⟩) 3 3] 47) = w1:=⟨_,rfl⟩
 have hz1 : w1.heap.size = w.heap.size + 1:=by rw [← hw1,BD]
 obtain ⟨w2,hw2⟩ : ∃ w2,w1.alloc (.cells (madeCells #[.int .i64 0] 3) 3) = w2:=⟨_,rfl⟩
 have ho : AA w2 w1.heap.size (.slice (some ⟨w1.heap.size,0,none⟩) 3 3) [0,0,0]:=by rw [← hw2];exact LZ w1 w1.heap.size 3 .i64 3 (Nat.le_refl _) (by decide)
 have hq : AU w2 w.heap.size newP (.slice (some ⟨w.heap.size + 1,0,none⟩) 3 3):=by rw [← hw2, ← hw1];exact (AU.mk1 w newP _).up (Aa (Below.refl _ _) _)
 have hb : Below w.heap.size w w2:=by rw [← hw2, ← hw1];exact Aa (Aa (Below.refl _ _) _) _
 rw [hw1,hw2]
 rw [hz1] at ho
 have z0:=hq.c0
 have z1:=hq.c1
 have z2:=hq.c2
 exact bodyPost_ret (v:=newP.own (.slice (some ⟨w.heap.size + 1,0,none⟩) 3 3)) (by simp [results,Tryz.results126,go_sem,z0,z1,z2]) rfl ⟨_,rfl,ho.lower (by omega),hb⟩
theorem OU {k : Nat} (h : k < 5) : (List.replicate 5 newP).take (k + 1) = (List.replicate 5 newP).take k ++ [newP]:=by
 match k,h with
 | 0,_ => rfl
 | 1,_ => rfl
 | 2,_ => rfl
 | 3,_ => rfl
 | 4,_ => rfl
set_option maxRecDepth 100000 in
set_option maxHeartbeats 8000000 in
theorem JA (w : World) : Calls Tryz.prog 134 #[] w (NQ w (List.replicate 5 newP)):=by
 go_enter Tryz.func134,Tryz.ntmps134
 go_wp2
 go_loopw [1,2] (fun v i wr => ∃ k : Nat,k ≤ 5 ∧ i = .int .i64 (k : Int) ∧ A7 (F3 wr w.heap.size v ((List.replicate 5 newP).take k)) ∧ A7 (Below w.heap.size w wr)) (fun _ i _ => (5 - intOf i).toNat)
 case atStart => exact ⟨0,Nat.zero_le _,rfl,⟨Qb rfl (Nat.le_refl _)⟩,⟨(Below.refl _ _).alloc (Nat.le_refl _) _⟩⟩
 case round =>
  obtain ⟨k,hk,rfl,HO,HW⟩:=hrel
  by_cases hlt : k < 5
  ·have HT:=As (OU hlt)
   have HLN : A7 (((List.replicate 5 newP).take k).length = k):=⟨by simp;omega⟩
   have hki : (k : Int) < 5:=by omega
   go_wp2_with (first | (go_at_call 126;refine (L6 _).mono ?_;rintro e w2 ⟨v,rfl,ho,hb2⟩;have HOv:=As ho;have HW2:=As hb2;have HO2:=As (Kd.Fe HO.out HW2.out);clear ho hb2) | (at_builtin;refine Ji (p:=newP) rfl (.tmp 8) (.tmp 10) rfl rfl rfl HOv.out HO2.out (bj HW.out HW2.out) (by have:=HLN.out;omega) HW.out.size ?_;intro v1 w3 hR hb3;have HR3:=As hR;have HW3:=As hb3;clear hR hb3))
   go_roundw
   case rel => exact ⟨k + 1,by omega,by go_num,⟨by rw [HT.out];exact HR3.out⟩,HW3⟩
   case measure => simp [intOf];omega
  ·have hke : k = 5:=by omega
   subst hke
   go_wp2
   go_ret
   exact ⟨_,rfl,HO.out,HW.out⟩
theorem Rl {P : Program} {ops : Array Oper} {l : List Oper} {Q : Exit → Act → World → Prop} {a : Act} (W : World) (h : ∀ w1,W = w1 → wpList P ops Q l a w1) : wpList P ops Q l a W:=h W rfl
set_option maxRecDepth 100000 in
set_option maxHeartbeats 8000000 in
theorem Km (w : World) : Calls Tryz.prog 123 #[] w (WE w newE):=by
 go_enter Tryz.func123,Tryz.ntmps123
 go_wp2_with (first
  | (refine Ca (vd:=.slice none 0 0) (vm:=.slice none 0 0) (vl:=.slice none 0 0) zE ?_;intro w1 hb1 hz1 hq1;clear hz1;have HB:=As hb1;have HP:=As hq1;clear hb1 hq1)
  | (go_at_call 134;refine (JA w1).mono ?_;rintro x w2 ⟨vd,rfl,ho,hb2⟩;obtain ⟨Dd,kd,rfl, -, -⟩:=Kd.CV ho;have HD : A7 (F3 w2 w1.heap.size (.slice Dd 5 kd) (List.replicate 5 newP)):=⟨ho⟩;have HB2:=As hb2;clear ho hb2)
  | (go_at_call 134;refine (JA w2).mono ?_;rintro x w3 ⟨vm,rfl,ho,hb2⟩;obtain ⟨Dm,km,rfl, -, -⟩:=Kd.CV ho;have HM : A7 (F3 w3 w2.heap.size (.slice Dm 5 km) (List.replicate 5 newP)):=⟨ho⟩;have HB3:=As hb2;have HP3:=As ((HP.out.up HB2.out).up hb2);clear ho hb2)
  | (refine Rl (w3.alloc (.cells #[] 43)) ?_;intro w4 hw4;have hb4 : Below w3.heap.size w3 w4:=(by rw [← hw4];exact Aa (Below.refl _ _) _);have HR4 : A7 (OwnRs w4 w1.heap.size (.slice (some ⟨w3.heap.size,0,none⟩) 0 0) []):=⟨by rw [← hw4];exact rs_empty rfl (Nat.le_trans HB2.out.size HB3.out.size)⟩;have HB4:=As (bj HB3.out hb4);have HM4:=As (Kd.Bg HM.out hb4);have hp:=HP3.out.up hb4;have HP4:=As hp;have y0:=hp.c0;have y1:=hp.c1;have y2:=hp.c2;have y3:=hp.c3;have y4:=hp.c4;have f0:=hp.frz 0;have f1:=hp.frz 1;have f2:=hp.frz 2;have f3:=hp.frz 3;have f4:=hp.frz 4;clear hp hb4 hw4))
 have hO : Aw w4 w1.heap.size (.slice Dd 5 kd) (.slice Dm 5 km) (.slice (some ⟨w3.heap.size,0,none⟩) 0 0) newE:=Aw.mk2 (w0:=w2) HD.out HM4.out HB4.out HB2.out.size HR4.out
 have hy:=HP4.out.Ap ⟨[], [], [],0,false⟩ (.slice Dd 5 kd) (.slice Dm 5 km) (.slice (some ⟨w3.heap.size,0,none⟩) 0 0)
 have h1:=hO.Ap (f:=⟨[], [], [],0,false⟩) (xd:=.slice Dd 5 kd) (xm:=.slice Dm 5 km) (xl:=.slice (some ⟨w3.heap.size,0,none⟩) 0 0) HP4.out
 have h2:=Aj (g:=w.heap.size) (bj HB.out (bj HB2.out HB4.out)) (Nat.le_refl _) ⟨[], [], [],0,false⟩ (.slice Dd 5 kd) (.slice Dm 5 km) (.slice (some ⟨w3.heap.size,0,none⟩) 0 0)
 have hs:=HB.out.size
 have z0:=hy.c0
 have z1:=hy.c1
 have z2:=hy.c2
 have z3:=hy.c3
 have z4:=hy.c4
 simp only at z3 z4
 exact bodyPost_ret (v:=.agg #[.slice Dd 5 kd, .slice Dm 5 km, .slice (some ⟨w3.heap.size,0,none⟩) 0 0, .int .i64 0, .bool false]) (by simp [results,Tryz.results123,go_sem,z0,z1,z2,z3,z4]) rfl ⟨.slice Dd 5 kd, .slice Dm 5 km, .slice (some ⟨w3.heap.size,0,none⟩) 0 0,rfl,h1.lower hs,h2⟩
section
variable {w w2 wr w1 : World} {gO cap g : Nat} {vd vm vl xd xm xl : Value} {e f : Eng} {ps qs : List Page}
theorem base_of (w : World) {n : Nat} (hn : n ≤ w.heap.size) : ∃ w0 : World,w0.heap.size = n ∧ Below n w0 w:=by
 refine ⟨{ w with heap:=w.heap.extract 0 n },by simp;omega,rfl,rfl,rfl,by simp;omega,fun k hk => ?_⟩
 show w.heap[k]? = (w.heap.extract 0 n)[k]?
 rw [Array.getElem?_extract,if_pos (by omega),Nat.zero_add]
end
end Go.Proofs.YtjeodgfkilhkhaaGreat
