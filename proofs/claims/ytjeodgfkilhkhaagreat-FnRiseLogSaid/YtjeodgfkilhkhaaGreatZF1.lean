/- A part of the proof: what the last text of the claim says leans on this one. -/
import Derived.Test.YtjeodgfkilhkhaaGreatZD1
import Derived.Test.YtjeodgfkilhkhaaGreatZO1
import Derived.Test.YtjeodgfkilhkhaaGreatZV1
import Derived.Test.YtjeodgfkilhkhaaGreatZV2
import Derived.Test.YtjeodgfkilhkhaaGreatZP1
import Derived.Test.YtjeodgfkilhkhaaGreatZN2
import Derived.Test.YtjeodgfkilhkhaaGreatZA2
set_option linter.unusedVariables false
set_option linter.unusedSimpArgs false
namespace Go.Proofs.YtjeodgfkilhkhaaGreat
open Go.RowKit Go.Proofs.YtjeodgfkilhkhaaGreatW.PrintWords Go.Proofs.YtjeodgfkilhkhaaGreatW.PrintLast Go.Proofs.YtjeodgfkilhkhaaGreatW.PrintMore
section
variable {ops : Array Oper} {rest : List Oper} {o : Oper} {a : Act} {Q : Exit → Act → World → Prop}
theorem S9 {W : World} {base N : Nat} {v u : Value} {ps : List Evt} {p : Evt} (hgd : o.guard = none) (s x : Operand)
  (ho : o.op = .call { callee:=.builtin .append,args:=#[s,x],argTypes:=#[95,95] }) (hs : a.eval s = v) (hx : a.eval x = .slice (some ⟨W.heap.size,0,none⟩) 1 1)
  (hp : AA W N u p.vals) (HO : Tw W base (fun k => base ≤ k ∧ k < N) v ps) (hbase : base ≤ W.heap.size) (hl : ps.length + 1 ≤ 1000) (hN : base ≤ N)
  (h : ∀ v1 w1,JY w1 base v1 (ps ++ [p]) → Below base W w1 → W.grownBy w1 v.ownBlock → wpList Tryz.prog ops Q rest (a.put o.dst v1) w1) :
  wpList Tryz.prog ops Q (o :: rest) a (W.alloc (.cells #[.int .i64 p.kind, .int .i64 p.tx, .int .i64 p.page, .int .i64 p.slot, .int .i64 p.n,u] 114)):=by
 have hv:=Ux HO
 refine Kd.R9 kEvt base hgd s x 95 114 _ 64 ho Rp V6 rfl (by decide) (by decide) v ps p [.int .i64 p.kind, .int .i64 p.tx, .int .i64 p.page, .int .i64 p.slot, .int .i64 p.n,u] (fun _ => True) (fun k => some k = u.ownBlock) hs hx ?_ (fun k hk => ⟨trivial,fun e => ?_⟩) (fun _ _ => trivial) (Kd.Dt HO (fun k hk => ⟨trivial,fun e => ?_⟩)) (Below.refl _ W) hbase (by omega) (fun v1 w1 h1 h2 h3 _ => h v1 w1 h1 h2 h3)
 ·exact V3 W _ _ p (Kd.EN (DI hp hN) (fun k hk => hk.symm))
 ·have h1:=BN hp k hk.symm
  have h2:=(hv k e.symm).2
  omega
 ·have h1:=BN hp k e.symm
  have h2:=hk.2
  omega
end
section
variable {w w1 : World} {b : Nat} {u vd vm vl V : Value} {e : Eng} {vs : List Evt} {xs : List Int} {S : Nat → Prop}
theorem AA.JR (h : AA w b u xs) (hk : Ba w w1) : AA w1 b u xs:=by
 have h1 : RI w b (fun k => some k = u.ownBlock) u xs:=Kd.EN h (fun k hk => hk.symm)
 have h2 : RI w1 b (fun k => some k = u.ownBlock) u xs:=Kd.Ih (S:=fun k => ¬ ∃ c,w.heap[k]? = some (.cells c 3 (0,0))) h1 ⟨hk.1,fun k _ hn => by
  obtain ⟨c,hc⟩:=Classical.not_not.1 hn
  exact (hk.2 k c _ (by decide) hc).trans hc.symm⟩ (fun k ho hn => hn (Co h k ho.symm))
 exact Kd.I4 h2
theorem Uc : ∀ q ∈ (114 :: kEvt.E),q ≠ 47:=by decide
theorem RD : ∀ q ∈ (47 :: CJ.E),q ≠ 114:=by decide
theorem JY.JR (h : JY w b V vs) (hk : Ba w w1) : JY w1 b V vs:=by
 refine Kd.Dt (Kd.Ie (S:=fun k => ¬ ∃ c t,t ≠ 47 ∧ w.heap[k]? = some (.cells c t (0,0))) (Kd.Dg h) ⟨hk.1,fun k _ hn => ?_⟩ (fun k ho hn => hn ?_)) (fun _ _ => trivial)
 ·obtain ⟨c,t,ht,hc⟩:=Classical.not_not.1 hn
  exact (hk.2 k c t ht hc).trans hc.symm
 ·obtain ⟨-, -, -,q,hq,c,hc⟩:=ho
  exact ⟨c,q,Uc q hq,hc⟩
theorem Dx {k : Nat} {c d : Array Value} {q t : TypeId} (h : w.heap[k]? = some (.cells c q (0,0))) (h2 : w.heap[k]? = some (.cells d t (0,0))) : q = t:=by
 rw [h] at h2
 injection h2 with h2
 injection h2 with _ h3
theorem Aw.YM (h : Aw w b vd vm vl e) (hk : Kept w w1 S) (hS : ∀ k,S k → ∃ d,w.heap[k]? = some (.cells d 114 (0,0))) : Aw w1 b vd vm vl e:=by
 obtain ⟨⟨okd,okm,h1,h2,h3⟩,h4⟩:=h
 have key : ∀ k,(∃ q,q ∈ 47 :: CJ.E ∧ ∃ cells,w.heap[k]? = some (.cells cells q (0,0))) → ¬ S k:=by
  rintro k ⟨q,hq,c,hc⟩ hs
  obtain ⟨d,hd⟩:=hS k hs
  exact RD q hq (Dx hc hd)
 refine ⟨⟨okd,okm,h1,Kd.Dt (Kd.Ie (Kd.Dg h2) hk (fun k ho => key k ho.2.2.2)) (fun _ h => h.1),Kd.Dt (Kd.Ie (Kd.Dg h3) hk (fun k ho => key k ho.2.2.2)) (fun _ h => h.1)⟩,Kd.DZ (Kd.Ih (Kd.IB rfl h4) hk (fun k ho hs => ?_)) (fun _ _ => trivial)⟩
 obtain ⟨inner,ho2⟩:=Kd.FZ h4
 obtain ⟨c,hc⟩:=Co ho2 k ho.symm
 obtain ⟨d,hd⟩:=hS k hs
 exact absurd (Dx hc hd) (by decide)
end
theorem eg_types : ∀ q ∈ (114 :: kEvt.E),q ≠ 26:=by decide
theorem JY.Dy {w : World} {b g : Nat} {V ud um ul : Value} {vs : List Evt} {q : Eng} (h : JY w b V vs) (hq : Ab w g q ud um ul) (f : Eng) (xd xm xl : Value) : JY (Go.Proofs.YtjeodgfkilhkhaaGreat.Ap w g f xd xm xl) b V vs:=
 Kd.Dt (Kd.Ie (Kd.Dg h) ((((((Kept.refl w (fun k => k = g)).setCell (p:=⟨g,0,none⟩) (.inl rfl) _).setCell (p:=⟨g,1,none⟩) (.inl rfl) _).setCell (p:=⟨g,2,none⟩) (.inl rfl) _).setCell (p:=⟨g,3,none⟩) (.inl rfl) _).setCell (p:=⟨g,4,none⟩) (.inl rfl) _) (fun k ho e => by
  obtain ⟨-, -, -,q,hq2,c,hc⟩:=ho
  subst e
  exact eg_types q hq2 (Dx hc hq.blk))) (fun _ _ => trivial)
theorem AA.YN {w w1 : World} {b : Nat} {u : Value} {xs : List Int} {row : Option Nat} (h : AA w b u xs) (hg : w.grownBy w1 row) (hne : ∀ k,u.ownBlock = some k → row ≠ some k) : AA w1 b u xs:=by
 have h1 : RI w b (fun k => some k = u.ownBlock) u xs:=Kd.EN h (fun k hk => hk.symm)
 have h2 : RI w1 b (fun k => some k = u.ownBlock) u xs:=Kd.Ih h1 (Kept.I5 hg (Kept.refl w (fun k => row = some k)) (fun k e => .inl e)) (fun k ho hs => hne k ho.symm hs)
 exact Kd.I4 h2
structure Pl (wB w wr : World) (g gE : Nat) (A : Option Addr) (n c : Nat) (p : Int) (vd vm vl : Value) (e : Eng) (V : Value) (vs : List Evt) : Prop where
 rd : ∃ q,0 ≤ q ∧ q ≤ p ∧ BZ wr g A n c q
 box : Ab wr gE e vd vm vl
 own : Aw wr w.heap.size vd vm vl e
 evs : JY wr w.heap.size V vs
 wro : Wrote w wr (fun j => j = g)
 bel : Below wB.heap.size wB wr
 ge : w.heap.size < gE
 bz : Ab wr w.heap.size zE (.slice none 0 0) (.slice none 0 0) (.slice none 0 0)
 hgw : g < w.heap.size
 hBg : wB.heap.size ≤ g
section
variable {wB w wr w1 : World} {g gE n c : Nat} {A : Option Addr} {p p' : Int} {e f : Eng} {vd vm vl xd xm xl V V1 : Value} {vs vs1 : List Evt}
theorem Pl.below (h : Pl wB w wr g gE A n c p vd vm vl e V vs) (hb : Below wr.heap.size wr w1) : Pl wB w w1 g gE A n c p vd vm vl e V vs:=by
 obtain ⟨q,h0,h1,hq⟩:=h.rd
 exact ⟨⟨q,h0,h1,hq.up hb⟩,h.box.up hb,h.own.below hb,Kd.Bg h.evs hb,h.wro.Ce (Wrote.of_below hb (fun j => j = g)) (fun _ h => .inl h),bj h.bel hb,h.ge,h.bz.up hb,h.hgw,h.hBg⟩
theorem Pl.drawn (h : Pl wB w wr g gE A n c p vd vm vl e V vs) (hr : ∃ q,0 ≤ q ∧ q ≤ p' ∧ BZ w1 g A n c q) (hw : Wrote wr w1 (fun j => j = g)) : Pl wB w w1 g gE A n c p' vd vm vl e V vs:=by
 have hgw:=h.hgw
 have hge:=h.ge
 exact ⟨hr,(hw.kept.2 _ h.box.lt (by omega)).trans h.box,(h.own.toK.kept hw.kept (fun k hk e => by omega)).E,Kd.Dt (Kd.Ie (Kd.Dg h.evs) hw.kept (fun k hk e => by have:=hk.2.1;omega)) (fun _ _ => trivial),h.wro.Ce hw (fun _ h => .inl h),h.bel.trans (hw.bel (fun k hk => by have:=h.hBg;omega) h.bel.size),h.ge,(hw.kept.2 _ h.bz.lt (by omega)).trans h.bz,h.hgw,h.hBg⟩
theorem Pl.old (h : Pl wB w wr g gE A n c p vd vm vl e V vs) (hw : Wrote wr w1 (fun j => j = g)) : Tw w1 w.heap.size (fun k => w.heap.size ≤ k ∧ k < wr.heap.size) V vs:=
 Kd.Dt (Kd.Ie (Kd.Dg h.evs) hw.kept (fun k hk e => by have:=hk.2.1;have:=h.hgw;omega)) (fun k hk => ⟨hk.2.1,hk.2.2.1⟩)
theorem Pl.added (h : Pl wB w wr g gE A n c p vd vm vl e V vs) (hV : JY w1 w.heap.size V1 vs1) (hb : Below w.heap.size wr w1) (hg : wr.grownBy w1 V.ownBlock) : Pl wB w w1 g gE A n c p vd vm vl e V1 vs1:=by
 obtain ⟨q,h0,h1,hq⟩:=h.rd
 have hk : Kept wr w1 (fun k => V.ownBlock = some k):=Kept.I5 hg (Kept.refl _ _) (fun k e => .inl e)
 have hge:=h.ge
 have hgw:=h.hgw
 have ht:=Kd.FY h.evs
 refine ⟨⟨q,h0,h1,(hb.block g hgw).trans hq⟩,(hk.2 gE h.box.lt (fun e => ?_)).trans h.box,h.own.YM hk ht,hV,⟨hb.os.trans h.wro.os,hb.tape.trans h.wro.tape,hb.output.trans h.wro.output,Nat.le_trans h.wro.kept.1 hb.size,fun k hk1 hn => (hb.block k hk1).trans (h.wro.kept.2 k hk1 hn)⟩,h.bel.trans (hb.mono (by have:=h.hBg;omega)),h.ge,(hk.2 _ h.bz.lt (fun e => ?_)).trans h.bz,h.hgw,h.hBg⟩
 ·obtain ⟨d,hd⟩:=ht gE e
  exact absurd (Dx h.box.blk hd) (by decide)
 ·obtain ⟨d,hd⟩:=ht _ e
  exact absurd (Dx h.bz.blk hd) (by decide)
theorem Pl.Xw {u1 u2 u3 : Value} (h : Pl wB w wr g gE A n c p vd vm vl e V vs) (ho : Aw w1 w.heap.size u1 u2 u3 f) (hb : Below w.heap.size wr w1) (hk : Ba wr w1) : Pl wB w (Go.Proofs.YtjeodgfkilhkhaaGreat.Ap w1 gE f u1 u2 u3) g gE A n c p u1 u2 u3 f V vs:=by
 obtain ⟨q,h0,h1,hq⟩:=h.rd
 have hge : w.heap.size ≤ gE:=Nat.le_of_lt h.ge
 have hne : gE ≠ w.heap.size:=Nat.ne_of_gt h.ge
 have hgw:=h.hgw
 have hbx : Ab w1 gE e vd vm vl:=h.box.JR hk
 have hb5 : Below w.heap.size wr (Go.Proofs.YtjeodgfkilhkhaaGreat.Ap w1 gE f u1 u2 u3):=((((hb.setCell (p:=⟨gE,0,none⟩) hge _).setCell (p:=⟨gE,1,none⟩) hge _).setCell (p:=⟨gE,2,none⟩) hge _).setCell (p:=⟨gE,3,none⟩) hge _).setCell (p:=⟨gE,4,none⟩) hge _
 refine ⟨⟨q,h0,h1,(hb5.block g hgw).trans hq⟩,hbx.Ap f u1 u2 u3,ho.Ap (f:=f) hbx,?_,⟨hb5.os.trans h.wro.os,hb5.tape.trans h.wro.tape,hb5.output.trans h.wro.output,Nat.le_trans h.wro.kept.1 hb5.size,fun k hk1 hn => (hb5.block k hk1).trans (h.wro.kept.2 k hk1 hn)⟩,h.bel.trans (hb5.mono (by have:=h.hBg;omega)),h.ge,(((((h.bz.JR hk).far hne _ _).far hne _ _).far hne _ _).far hne _ _).far hne _ _,h.hgw,h.hBg⟩
 exact (h.evs.JR hk).Dy hbx f u1 u2 u3
theorem AA.C2 {b m d : Nat} {B : Option Addr} {xs : List Int} (h : AA wr b (.slice B m d) xs) : Kd.C (Kd.int .i64) wr B xs.length xs:=by
 obtain ⟨A2,c2,h1, -,h2⟩:=h.reads
 injection h1 with h1
 subst h1
 exact h2
theorem Pl.l22 {b c2 : Nat} {A2 : Option Addr} (v : Evt) (hi : ∃ C,Inv e C (3 * 40)) (h : Pl wB w wr g gE A n c p vd vm vl e V vs) (hu : AA wr b (.slice A2 v.vals.length c2) v.vals) : Calls Tryz.prog 125 #[e.ag vd vm vl,v.val A2 c2] wr fun x w1 => ∃ u1 u2 u3,x = .returned ((Bf e v).ag u1 u2 u3) ∧ Aw w1 w.heap.size u1 u2 u3 (Bf e v) ∧ Below w.heap.size wr w1 ∧ Ba wr w1:=by
 obtain ⟨C,hi⟩:=hi
 obtain ⟨w0,hz,hb0⟩:=base_of wr (n:=w.heap.size) h.wro.kept.1
 refine (QF (w0:=w0) (c:=c2) v hi (by omega) (by rw [hz];exact hb0) (by rw [hz];exact h.own) (fun wx _ hk => (hu.JR hk).C2)).mono ?_
 rintro x w1 ⟨u1,u2,u3,rfl,ho,hb,hk⟩
 rw [hz] at ho hb
 exact ⟨u1,u2,u3,rfl,ho,⟨hb.os.trans hb0.os.symm,hb.tape.trans hb0.tape.symm,hb.output.trans hb0.output.symm,hk.1,fun k hk1 => (hb.block k hk1).trans (hb0.block k hk1).symm⟩,hk⟩
end
theorem inv_all (vs : List Evt) (h : vs.length ≤ 40) : ∃ C,Inv (runE newE vs) C (3 * 40):=by
 have:=XK vs vs.length h
 rwa [List.take_length] at this
theorem VJ {P : Program} {ops : Array Oper} {l : List Oper} {Q : Exit → Act → World → Prop} {a : Act} {W : World} (h : ∀ w1,Below W.heap.size W w1 → w1.heap.size = W.heap.size + 1 → (∀ base,base ≤ W.heap.size → JY w1 base (.slice (some ⟨W.heap.size,0,none⟩) 0 0) []) → wpList P ops Q l a w1) : wpList P ops Q l a (W.alloc (.cells #[] 114)):=
 h _ (Aa (Below.refl _ _) _) (BD _ _) (fun base hb => ⟨fun _ => 0,fun _ _ => trivial, [],own_none' _ 6 rfl hb,Reps.none _ _⟩)
end Go.Proofs.YtjeodgfkilhkhaaGreat
namespace Go.Proofs.YtjeodgfkilhkhaaGreat
open Go.RowKit Go.Proofs.YtjeodgfkilhkhaaGreatW.PrintWords Go.Proofs.YtjeodgfkilhkhaaGreatW.PrintLast Go.Proofs.YtjeodgfkilhkhaaGreatW.PrintMore
def WA (w : World) (g : Nat) (A : Option Addr) (n c : Nat) (p : Int) (x : Ending) (w' : World) : Prop := ∃ (V : Value) (vs : List Evt) (E : Eng) (B1 B2 B3 : Option Addr) (d1 d2 d3 : Nat),x = .returned (.tuple #[V,E.val B1 B2 B3 d1 d2 d3]) ∧ JY w' w.heap.size V vs ∧ vs.length ≤ 36 ∧ (∃ q,0 ≤ q ∧ q ≤ p + 1000 ∧ BZ w' g A n c q) ∧ Wrote w w' (fun j => j = g) ∧ Aw w' w.heap.size (.slice B1 E.disk.length d1) (.slice B2 E.mem.length d2) (.slice B3 E.log.length d3) E ∧ (∃ C,Inv E C (3 * 40))
theorem TR (vs : List Evt) (v : Evt) : runE newE (vs ++ [v]) = Bf (runE newE vs) v:=Ot vs newE v
set_option maxRecDepth 100000 in
set_option maxHeartbeats 16000000 in
theorem VG {wB w : World} {g c : Nat} {A : Option Addr} {xs : List Int} {p : Int} (hp0 : 0 ≤ p) (hp1 : p ≤ 100000) (hn : xs.length ≤ 2000) (hx : Bytes xs) (hb : Below wB.heap.size wB w) (hg : wB.heap.size ≤ g) (hr : Kd.C (Kd.int .u8) wB A xs.length xs) (hq : BZ w g A xs.length c p) : Calls Tryz.prog 102 #[.pointer (some ⟨g,0,none⟩)] w (WA w g A xs.length c p):=by
 have HP:=As (And.intro hp0 hp1)
 have HN:=As hn
 have HXS:=As hx
 have HR:=As hr
 have HQ:=As hq
 have HB:=As hb
 have HG:=As hg
 have HONE : True:=trivial
 clear hp0 hp1 hn hx hb hg hr hq
 go_enter Tryz.func102,Tryz.ntmps102
 go_wp2_with (first
  | (refine Ca (vd:=.slice none 0 0) (vm:=.slice none 0 0) (vl:=.slice none 0 0) zE ?_;clear HONE;intro w1 hb1 hz1 hq1;have HZ1:=As hz1;have HB1:=As hb1;have HP1:=As hq1;clear hb1 hz1 hq1)
  | (go_at_call 123;refine (Km w1).mono ?_;rintro x w2 ⟨vd,vm,vl,rfl,ho,hb2⟩;obtain ⟨Ed,n1,Em,n2,El,n3,rfl,rfl,rfl, -, -⟩:=ho.reads;have HO:=As ho;have HB2:=As hb2;clear hb2 ho)
  | (refine Ca (vd:=.slice Ed newE.disk.length n1) (vm:=.slice Em newE.mem.length n2) (vl:=.slice El newE.log.length n3) newE ?_;intro w3 hb3 hz3 hq3;clear hz3;have HO3:=As (HO.out.below hb3);have HB3:=As (bj HB2.out hb3);have HQ3:=As hq3;clear hb3 hq3)
  | (with_reducible refine VJ ?_;intro w4 hb4 hz4 hv4;have HB4:=As hb4;have HV4:=As (hv4 w.heap.size (by have h1:=HB1.out.size;have h2:=HB3.out.size;omega));clear hb4 hz4 hv4)
  | (go_at_call 33;refine (Hw (wB:=wB) HP.out.1 (by have:=HP.out;omega) (by decide) (by decide) HN.out HXS.out (bj HB.out (bj HB1.out (bj HB3.out HB4.out))) HG.out HR.out (HQ.out.up (bj HB1.out (bj HB3.out HB4.out)))).mono ?_;rintro x w5 ⟨N,rfl,hk,hrd,hw⟩;obtain ⟨hN0,hN1⟩:=hk (by decide);clear hk;obtain ⟨N,rfl⟩:=Int.eq_ofNat_of_zero_le hN0;have h14:=bj HB3.out HB4.out;have hgw:=HQ.out.lt;have hz1:=HZ1.out;have hsz:=HB2.out.size;have hP4 : Pl wB w w4 g w2.heap.size A xs.length c p (.slice Ed newE.disk.length n1) (.slice Em newE.mem.length n2) (.slice El newE.log.length n3) newE (.slice (some ⟨w3.heap.size,0,none⟩) 0 0) []:=⟨⟨p,HP.out.1,Int.le_refl _,HQ.out.up (bj HB1.out h14)⟩,HQ3.out.up HB4.out,(HO3.out.below HB4.out).lower (by omega),HV4.out,Wrote.of_below (bj HB1.out h14) _,bj HB.out (bj HB1.out h14),by omega,HP1.out.up h14,hgw,HG.out⟩;have HPL:=As (hP4.drawn (p':=p + 1) ⟨_,by have:=HP.out;omega,Int.le_refl _,hrd⟩ hw);clear hrd hw h14 hgw hz1 hsz hP4))
 go_loopw [5,6] (fun x i wr => ∃ (k : Nat) (vs : List Evt) (V vd vm vl : Value),V = x ∧ k ≤ N ∧ i = .int .i64 ((N : Int) - k) ∧ vs.length = k ∧ A7 (Pl wB w wr g w2.heap.size A xs.length c (p + 1 + 12 * k) vd vm vl (runE newE vs) V vs)) (fun _ i _ => (intOf i).toNat)
 case atStart => exact ⟨0, [],_,_,_,_,rfl,Nat.zero_le _,by simp,rfl,⟨by rw [show p + 1 + 12 * ((0 : Nat) : Int) = p + 1 by simp];exact HPL.out⟩⟩
 case round =>
  obtain ⟨k,vs,V,vd,vm,vl,rfl,hk,rfl,hlen,HPK⟩:=hrel
  have HLEN:=As hlen
  obtain ⟨C0,hI⟩:=inv_all vs (by omega)
  have HI:=As hI
  obtain ⟨Ed',m1,Em',m2,El',m3,rfl,rfl,rfl,hcl,hrdE⟩:=HPK.out.own.reads
  have HRDE:=As hrdE
  obtain ⟨X,hX⟩ : ∃ X,runE newE vs = X:=⟨_,rfl⟩
  rw [hX] at HPK HI HRDE
  have HX:=As hX
  clear hlen hcl hX hI hrdE
  have x0:=HPK.out.box.c0
  have x1:=HPK.out.box.c1
  have x2:=HPK.out.box.c2
  have x3:=HPK.out.box.c3
  have x4:=HPK.out.box.c4
  by_cases hlt : k < N
  ·have hi0 : decide ((0 : Int) < (N : Int) - (k : Int)) = true:=by simp;omega
   go_wp2_with (first
    | (go_at_call 124;obtain ⟨q,hq0,hq1,hrd⟩:=HPK.out.rd;refine (Nv (wB:=wB) hq0 (by have:=HP.out;omega) HN.out HXS.out HPK.out.bel HPK.out.hBg HR.out hrd HPK.out.own HPK.out.hgw HI.out.mlen HI.out.core.log).mono ?_;clear hrd;rintro x w5 ⟨v,u,rfl,hu,hl3,⟨q',hq2,hq3,hrd⟩,hw⟩;obtain ⟨A3,c3,rfl, -, -⟩:=hu.reads;have HU5:=As hu;have HOLD:=As (HPK.out.old hw);have HN5:=As hw.kept.1;have HP5:=As (HPK.out.drawn (p':=p + 1 + 12 * ((k + 1 : Nat) : Int)) ⟨q',by omega,by push_cast;omega,hrd⟩ hw);clear hu hw hrd hq0 hq1 hq2 hq3 hl3 x0 x1 x2 x3 x4)
    | (with_reducible refine MU (A:=A3) (c:=c3) v ?_;intro w6 hb6 hz6 hq6;clear hz6;have HU6:=As (HU5.out.below hb6);have HO6:=As (Kd.Bg HOLD.out hb6);have HP6:=As (HP5.out.below hb6);have HV6:=As hq6;have HN6:=As hb6.size;clear hb6 hq6;have v0:=HV6.out.c0;have v1:=HV6.out.c1;have v2:=HV6.out.c2;have v3:=HV6.out.c3;have v4:=HV6.out.c4;have v5:=HV6.out.c5)
    | (at_builtin;refine S9 (W:=w6) (base:=w.heap.size) (N:=wr.heap.size) rfl (.tmp 19) (.tmp 21) rfl rfl rfl HU6.out HO6.out HP6.out.wro.kept.1 (by have:=HLEN.out;omega) HPK.out.wro.kept.1 ?_;intro V1 w7 hV7 hb7 hg7;have hn : ∀ k,(Value.slice A3 v.vals.length c3).ownBlock = some k → V.ownBlock ≠ some k:=(fun m hm e => by have h1:=BN HU6.out m hm;have h2:=(Ux HO6.out m e).2;omega);have HU7:=As (HU6.out.YN hg7 hn);have hbk : V.ownBlock ≠ some w5.heap.size:=(fun e => by have h1:=(Ux HO6.out _ e).2;have h2:=HN5.out;omega);have hv7 : EvBox w7 w5.heap.size v A3 c3:=((hg7.block _ HV6.out.lt (fun e => hbk e.symm)).trans HV6.out);have HP7:=As (HP6.out.added hV7 hb7 hg7);clear hV7 hb7 hg7 hn hbk;clear v0 v1 v2 v3 v4 v5;have v0:=hv7.c0;have v1:=hv7.c1;have v2:=hv7.c2;have v3:=hv7.c3;have v4:=hv7.c4;have v5:=hv7.c5;clear hv7;have x0:=HP7.out.box.c0;have x1:=HP7.out.box.c1;have x2:=HP7.out.box.c2;have x3:=HP7.out.box.c3;have x4:=HP7.out.box.c4)
    | (go_at_call 125;refine (HP7.out.l22 (c2:=c3) v ⟨C0,HI.out⟩ HU7.out).mono ?_;rintro x w8 ⟨u1,u2,u3,rfl,ho,hb8,hk8⟩;obtain ⟨Fd,k1,Fm,k2,Fl,k3,rfl,rfl,rfl, -, -⟩:=ho.reads;have HP8:=As (HP7.out.Xw ho hb8 hk8);have hy:=HP7.out.box.JR hk8;clear x0 x1 x2 x3 x4 v0 v1 v2 v3 v4 v5 ho hb8 hk8;have y0:=hy.c0;have y1:=hy.c1;have y2:=hy.c2;have y3:=hy.c3;have y4:=hy.c4;have f0:=hy.frz 0;have f1:=hy.frz 1;have f2:=hy.frz 2;have f3:=hy.frz 3;have f4:=hy.frz 4;clear hy))
   go_roundw
   case rel => exact ⟨k + 1,vs ++ [v],_,_,_,_,rfl,by omega,by go_num,by simp [HLEN.out],⟨by rw [TR,HX.out];exact HP8.out⟩⟩
   case measure => simp [intOf];omega
  ·have hi0 : decide ((0 : Int) < (N : Int) - (k : Int)) = false:=by simp;omega
   go_wp2_with (first | (go_at_call 35;refine (Gr (cd:=m1) (cm:=m2) (cl:=m3) (AZ (Bb.2 ⟨HI.out.core.dlen,HI.out.core.dok⟩)) (AZ HI.out.Mk) (BA HI.out.core.log) (Below.refl _ _) HRDE.out).mono ?_;rintro x w6 ⟨ud,um,ul,rfl,ho,hb6⟩;obtain ⟨Fd,k1,Fm,k2,Fl,k3,rfl,rfl,rfl, -, -⟩:=ho.reads;have HP6:=As (HPK.out.below hb6);have HO6:=As ho;clear ho hb6 x0 x1 x2 x3 x4;have hy:=HP6.out.bz;have y0:=hy.c0;have y1:=hy.c1;have y2:=hy.c2;have y3:=hy.c3;have y4:=hy.c4;have f0:=hy.frz 0;have f1:=hy.frz 1;have f2:=hy.frz 2;have f3:=hy.frz 3;have f4:=hy.frz 4;clear hy))
   have hy:=HP6.out.bz.Ap X (.slice Fd X.disk.length k1) (.slice Fm X.mem.length k2) (.slice Fl X.log.length k3)
   have z0:=hy.c0
   have z1:=hy.c1
   have z2:=hy.c2
   have z3:=hy.c3
   have z4:=hy.c4
   obtain ⟨q,hq0,hq1,hrd⟩:=HP6.out.rd
   have hgw:=HP6.out.hgw
   exact bodyPost_ret (v:=.tuple #[V,X.ag (.slice Fd X.disk.length k1) (.slice Fm X.mem.length k2) (.slice Fl X.log.length k3)]) (by simp [results,Tryz.results102,go_sem,z0,z1,z2,z3,z4]) rfl ⟨V,vs,X,_,_,_,_,_,_,rfl,HP6.out.evs.Dy HP6.out.bz X _ _ _,by have:=HLEN.out;omega,⟨q,hq0,by omega,((((hrd.far (by omega) _ _).far (by omega) _ _).far (by omega) _ _).far (by omega) _ _).far (by omega) _ _⟩,((((HP6.out.wro.setCell (.inr (Nat.le_refl _)) _).setCell (.inr (Nat.le_refl _)) _).setCell (.inr (Nat.le_refl _)) _).setCell (.inr (Nat.le_refl _)) _).setCell (.inr (Nat.le_refl _)) _,(HO6.out.lower (b':=w.heap.size) HPK.out.wro.kept.1).Ap (f:=X) HP6.out.bz,⟨C0,HI.out⟩⟩
theorem U7 {e : Eng} (h0 : Ai e = 0) : AR e.log e.log.length = 0:=by
 obtain ⟨h1,h2,h3⟩:=EJ h0
 simp [AR,cst,GY h1,GY h2,GY h3,show Ae e.log 1 e.log.length = 0 from h1,show Ae e.log 2 e.log.length = 0 from h2,show Ae e.log 3 e.log.length = 0 from h3]
theorem Nf : ∀ (k : Nat) (e : Eng),(BJ k e).disk = e.disk ∧ (BJ k e).safe = e.safe ∧ (BJ k e).down = e.down
 | 0,_ => ⟨rfl,rfl,rfl⟩
 | k + 1,e => by
  rw [BJ]
  split
  ·exact ⟨rfl,rfl,rfl⟩
  ·exact Nf k (AY e (Ai e))
theorem Rt (e : Eng) (tx : Int) : (CB e tx).kind = 5 ∨ (CB e tx).kind = 6:=by
 rw [(Jb (e:=e) (tx:=tx)).1]
 unfold Da
 split
 ·exact .inl rfl
 ·exact .inr rfl
theorem Ow : ∀ (k : Nat) (e : Eng),DY e → ∃ ls : List Rec,(BJ k e).log = e.log ++ ls ∧ ls.length = min k (AR e.log e.log.length) ∧ ∀ r ∈ ls,r.kind = 5 ∨ r.kind = 6
 | 0,e,_ => ⟨[],by simp [BJ],by simp,fun r hr => by cases hr⟩
 | k + 1,e,h => by
  rw [BJ]
  split
  ·rename_i h0
   exact ⟨[],by simp,by rw [U7 h0];simp,fun r hr => by cases hr⟩
  ·rename_i h0
   obtain ⟨_,h2,h3⟩:=h.step h0
   obtain ⟨ls,h4,h5,h6⟩:=Ow k (AY e (Ai e)) h2
   refine ⟨CB e (Ai e) :: ls,by rw [h4,Gd];simp,by rw [List.length_cons,h5];omega,fun r hr => ?_⟩
   rcases List.mem_cons.1 hr with rfl | hr
   ·exact Rt e _
   ·exact h6 r hr
theorem PW (x : Eng) : (upE x).log = x.log ∧ (upE x).disk = x.disk ∧ (upE x).safe = x.safe:=by
 unfold upE
 split <;> exact ⟨rfl,rfl,rfl⟩
theorem YD {e : Eng} (hok : eOk e = true) (hd : e.down = true) {steps : Int} (hs : 0 ≤ steps) : ∃ ls : List Rec,(upR e steps).1.log = e.log ++ ls ∧ ls.length = min steps.toNat (need e.log) ∧ (∀ r ∈ ls,r.kind = 5 ∨ r.kind = 6) ∧ (upR e steps).1.disk = e.disk ∧ (upR e steps).1.safe = e.safe:=by
 rw [upR,if_pos ⟨hok,hs⟩,if_pos hd]
 obtain ⟨ls,h1,h2,h3⟩:=Ow steps.toNat (Cc e) (Ct.1 hok).rise
 have hk:=Nf steps.toNat (Cc e)
 have hu:=PW (BJ steps.toNat (Cc e))
 refine ⟨ls,hu.1.trans h1,by rw [h2,Iw];rfl,h3,hu.2.1.trans hk.1,hu.2.2.trans hk.2.1⟩
theorem V8 {e : Eng} (hok : eOk e = true) (hup : e.down = false) : eOk (DV e) = true:=by
 have h:=Ct.1 hok
 refine Ct.2 ⟨h.disk,h.mem,h.log,by show (0 : Int) ≤ (e.log.length : Int);omega,by show (e.log.length : Int) ≤ (e.log.length : Int);omega,h.fits,fun n h1 h2 => ?_,fun p hp => ?_⟩
 ·have h1 : (e.log.length : Int) ≤ n:=h1
  have h2 : n ≤ e.log.length:=h2
  obtain rfl : n = e.log.length:=by omega
  exact h.pref e.log.length h.s1 (Nat.le_refl _)
 ·have hb:=h.page p hp
  have hl:=h.JU hp
  have hs:=h.s1
  simp only [E5,Bool.and_eq_true,decide_eq_true_eq] at hb ⊢
  refine ⟨⟨hb.1.1,?_⟩,hb.2⟩
  show (pg e.disk p).lsn ≤ (e.log.length : Int)
  omega
theorem XL {e : Eng} (hok : eOk e = true) (hup : e.down = false) : Fa (DV e) 0 = (BL (DV e) 0,true) ∧ (BL (DV e) 0).log = e.log ∧ (BL (DV e) 0).mem = e.disk ∧ (BL (DV e) 0).disk = e.disk:=by
 refine ⟨by rw [Fa,if_pos ⟨V8 hok hup,by decide⟩],?_,rfl,rfl⟩
 show e.log.take (Dj (DV e) 0) = e.log
 have : Dj (DV e) 0 = e.log.length:=by
  show (max (e.log.length : Int) (min 0 (e.log.length : Int))).toNat = e.log.length
  omega
 rw [this,List.take_length]
theorem Yt {e : Eng} (hok : eOk e = true) (hd : e.down = true) : (upR e 0).2 = decide (BX e.log 3 = []) ∧ (upR e 0).1.log = e.log:=by
 rw [upR,if_pos ⟨hok,by decide⟩,if_pos hd]
 refine ⟨?_,(PW _).1⟩
 show decide (Ai (Cc e) = 0) = decide (BX e.log 3 = [])
 have hf : Ai (Cc e) = 0 ↔ BX e.log 3 = []:=by
  constructor
  ·intro h0
   obtain ⟨h1,h2,h3⟩:=EJ h0
   rw [EG,if_pos (show Ae e.log 1 e.log.length = 0 from h1),if_pos (show Ae e.log 2 e.log.length = 0 from h2),if_pos (show Ae e.log 3 e.log.length = 0 from h3)]
   rfl
  ·intro h
   have hz : ∀ t : Int,(t = 1 ∨ t = 2 ∨ t = 3) → lastT (Cc e) t = 0:=fun t ht => by
    by_cases h0 : Ae e.log t e.log.length = 0
    ·exact h0
    ·have:=K8.2 ⟨ht,h0⟩
     rw [h] at this
     cases this
   simp [Ai,hz 1 (.inl rfl),hz 2 (.inr (.inl rfl)),hz 3 (.inr (.inr rfl))]
 simp only [hf]
structure RInv (e x : Eng) : Prop where
 ok : DY x
 mem : ∀ p,p < 5 → pg x.mem p = Bh (pg x.disk p) x.log p x.log.length
 pref : ∀ n : Nat,e.safe ≤ n → n ≤ x.log.length → Ez x n = true
 disk : x.disk = e.disk
 safe : x.safe = e.safe
 len : e.log.length ≤ x.log.length
theorem RInv.start {e : Eng} (h : OkF e) : RInv e (Cc e):=
 ⟨h.rise,fun p _ => E9 (Bb.1 h.disk).1 (fun k hk => (Ag h.log hk).ok) p e.log.length (Nat.le_refl _),fun n h1 h2 => h.pref n h1 h2,rfl,rfl,Nat.le_refl _⟩
theorem RInv.Zg {e x : Eng} (h : RInv e x) (hd : Et e.disk = true) : x.mem = BI x.disk x.log x.log.length:=by
 have h5 : x.disk.length = 5:=by rw [h.disk];exact (Bb.1 hd).1
 have hm5:=(Bb.1 h.ok.mem).1
 have hr5 : (BI x.disk x.log x.log.length).length = 5:=by rw [Ej];exact h5
 refine SG (hm5.trans hr5.symm) (fun j hj => ?_)
 rw [h.mem j (by omega),E9 h5 (fun k hk => (Ag h.ok.log hk).ok) j x.log.length (Nat.le_refl _)]
theorem RInv.step {e x : Eng} (h : RInv e x) (hd : Et e.disk = true) (h0 : Ai x ≠ 0) : RInv e (AY x (Ai x)):=by
 obtain ⟨_,h2,_⟩:=h.ok.step h0
 have hlen:=IX x (Ai x)
 have hm5:=(Bb.1 h.ok.mem).1
 have hmem : ∀ p,p < 5 → pg (AY x (Ai x)).mem p = Bh (pg (AY x (Ai x)).disk p) (AY x (Ai x)).log p (AY x (Ai x)).log.length:=fun p hp => by
  have hl:=h.ok.lsn p hp
  rw [hlen,Gd,Gf]
  show pg (x.app (Da x (Ai x))).mem p = _
  rw [Kk hm5 (H9 h.ok.log (Ai x)),(show (AY x (Ai x)).disk = x.disk from rfl), ← h.mem p hp]
  have h3:=(Jb (e:=x) (tx:=Ai x)).1
  have h4:=(Jb (e:=x) (tx:=Ai x)).2
  by_cases hc : Cu (Da x (Ai x)).kind = true ∧ (Da x (Ai x)).page = p
  ·rw [if_pos hc,if_pos ⟨by rw [h3];exact hc.1,by rw [h4];exact hc.2,by omega⟩]
   rfl
  ·rw [if_neg hc,if_neg (fun hx => hc ⟨by rw [← h3];exact hx.1,by rw [← h4];exact hx.2.1⟩)]
 have hle:=h.len
 refine ⟨h2,hmem,fun n h3 h4 => ?_,h.disk,h.safe,by omega⟩
 rcases Nat.lt_or_ge x.log.length n with hlt | hge
 ·obtain rfl : n = (AY x (Ai x)).log.length:=by omega
  have h5 : (AY x (Ai x)).disk.length = 5:=by rw [show (AY x (Ai x)).disk = x.disk from rfl,h.disk];exact (Bb.1 hd).1
  have hr : (AY x (Ai x)).mem = BI (AY x (Ai x)).disk (AY x (Ai x)).log (AY x (Ai x)).log.length:=
   SG (((Bb.1 h2.mem).1).trans (by rw [Ej];exact h5.symm)) (fun j hj => by rw [hmem j (by rw [(Bb.1 h2.mem).1] at hj;exact hj),E9 h5 (fun k hk => (Ag h2.log hk).ok) j _ (Nat.le_refl _)])
  rw [Ez,List.take_length, ← hr,Bool.and_eq_true,DR,EC]
  exact ⟨h2.mem,h2.und⟩
 ·have hp:=h.pref n h3 hge
  have ht : (AY x (Ai x)).log.take n = x.log.take n:=by rw [Gd,List.take_append_of_le_length hge]
  rw [Ez,ht]
  exact hp
theorem RInv.all {e : Eng} (hd : Et e.disk = true) : ∀ (k : Nat) (x : Eng),RInv e x → RInv e (BJ k x)
 | 0,_,h => h
 | k + 1,x,h => by
  rw [BJ]
  split
  ·exact h
  ·rename_i h0
   exact RInv.all hd k _ (h.step hd h0)
theorem RH {l : List Rec} (h : ∀ t : Int,(t = 1 ∨ t = 2 ∨ t = 3) → Ae l t l.length = 0) (p : Int) : FR l p 3 = false:=by
 rw [Qw,ld,ld,ld,h 1 (.inl rfl),h 2 (.inr (.inl rfl)),h 3 (.inr (.inr rfl))]
 simp [I6]
theorem UD {e x : Eng} (he : OkF e) (h : RInv e x) (h0 : Ai x = 0) : eOk { x with down:=false } = true:=by
 obtain ⟨a1,a2,a3⟩:=EJ h0
 have hz : ∀ t : Int,(t = 1 ∨ t = 2 ∨ t = 3) → Ae x.log t x.log.length = 0:=fun t ht => by rcases ht with rfl | rfl | rfl <;> assumption
 have hr:=h.Zg he.disk
 have hrm:=h.ok.room
 refine Ct.2 ⟨by show Et x.disk = true;rw [h.disk];exact he.disk,h.ok.mem,h.ok.log,by show 0 ≤ x.safe;rw [h.safe];exact he.s0,by show x.safe ≤ (x.log.length : Int);have:=he.s1;have:=h.len;rw [h.safe];omega,by show G6 x.log = true;rw [G6,Iw,decide_eq_true_eq];exact hrm,fun n h1 h2 => h.pref n (by have h1 : x.safe ≤ n:=h1;rw [h.safe] at h1;exact h1) h2,fun p hp => ?_⟩
 have hop : BX x.log 3 = []:=Wh h0
 simp only [E5,Bool.and_eq_true,decide_eq_true_eq]
 refine ⟨⟨by show (F7 x.log p (BX x.log 3) 0 true).2 = true;rw [hop];rfl,by show (pg x.disk p).lsn ≤ x.safe;rw [h.disk,h.safe];exact he.JU hp⟩,?_⟩
 rw [if_neg (by simp)]
 show Kn { x with down:=false } p = true
 rw [Kn,if_neg (by rw [RH hz];simp)]
 show D8 (pg x.mem p) (pg (BI x.disk x.log x.log.length) p) = true
 rw [← hr]
 exact DF.2 rfl
theorem Rv {e : Eng} (hok : eOk e = true) (hd : e.down = true) {steps : Int} (hs : 0 ≤ steps) (hup : (upR e steps).2 = true) : eOk (upR e steps).1 = true ∧ (upR e steps).1.down = false:=by
 rw [upR,if_pos ⟨hok,hs⟩,if_pos hd] at hup ⊢
 have h0 : Ai (BJ steps.toNat (Cc e)) = 0:=by simpa using hup
 have he:=Ct.1 hok
 show eOk (upE (BJ steps.toNat (Cc e))) = true ∧ (upE (BJ steps.toNat (Cc e))).down = false
 rw [upE,if_pos h0]
 exact ⟨UD he (RInv.all he.disk _ _ (RInv.start he)) h0,rfl⟩
theorem Ws {e : Eng} (hok : eOk e = true) (hd : e.down = true) : eOk { e with mem:=e.disk } = true:=by
 have h:=Ct.1 hok
 refine Ct.2 ⟨h.disk,h.disk,h.log,h.s0,h.s1,h.fits,h.pref,fun p hp => ?_⟩
 have hb:=h.page p hp
 simp only [E5,Bool.and_eq_true,decide_eq_true_eq] at hb ⊢
 refine ⟨hb.1,?_⟩
 rw [if_pos (show e.down = true from hd)]
 exact DF.2 rfl
theorem VR {e : Eng} (hok : eOk e = true) (hd : e.down = true) : eOk (upR e 0).1 = true:=by
 cases h2 : (upR e 0).2
 ·rw [upR,if_pos ⟨hok,by decide⟩,if_pos hd] at h2 ⊢
  have h0 : ¬ Ai (Cc e) = 0:=by simpa [BJ] using h2
  show eOk (upE (Cc e)) = true
  rw [upE,if_neg h0]
  exact (show eOk { e with mem:=e.disk } = true from Ws hok hd)
 ·exact (Rv hok hd (by decide) h2).1
structure Vz (L : List Rec) : Prop where
 log : Au L = true
 prop : EO L
 room : ∀ n,n ≤ L.length → n + AR L n ≤ 150
def Rh (l : List Rec) : Prop := ∃ L,Vz L ∧ (l = L ∨ (∃ r,l = L ++ [r]) ∨ l = L.drop 1 ∨ ∃ i q,i < L.length ∧ l = L.set i { rc L i with prev:=q })
theorem Inv.Zv {e : Eng} {C : Nat → Page} {B : Nat} (h : Inv e C B) : Vz e.log:=⟨h.core.log,h.core.prop,fun n hn => by have:=h.core.room n hn;have:=h.core.b150;omega⟩
theorem XO {P : Program} {f : Nat} {xs ys : Array Value} {w : World} {Q : Ending → World → Prop} (h : Calls P f ys w Q) (e : xs = ys) : Calls P f xs w Q:=e ▸ h
def SlE (U : Eng) (v : Value) (wx : World) : Prop := ∃ D1 D2 D3 k1 k2 k3,v = U.val D1 D2 D3 k1 k2 k3 ∧ Ff wx U D1 D2 D3
theorem SlE.up {U : Eng} {v : Value} {w w1 : World} (h : SlE U v w) (hb : Below w.heap.size w w1) : SlE U v w1:=by
 obtain ⟨D1,D2,D3,k1,k2,k3,h1,h2⟩:=h
 exact ⟨D1,D2,D3,k1,k2,k3,h1,h2.up hb⟩
theorem Zo (w : World) : (Kd.int .i64).C w none 0 []:=⟨rfl,by simp,fun h0 => by simp at h0⟩
theorem Bytes.take {xs : List Int} (h : Bytes xs) (n : Nat) : Bytes (xs.take n):=fun x hx => h x (List.mem_of_mem_take hx)
theorem BZ.mk1 (w : World) (A : Option Addr) (n c : Nat) (p : Int) : BZ (w.alloc (.cells #[.slice A n c, .int .i64 p] 77)) w.heap.size A n c p:=by
 show (w.heap.push _)[w.heap.size]? = _
 simp
def WC (w : World) (A : Option Addr) (xs : List Int) (x : Ending) (w' : World) : Prop := ∃ (g m d : Nat),x = .returned (.pointer (some ⟨g,0,none⟩)) ∧ w.heap.size ≤ g ∧ (xs.take m).length ≤ 2000 ∧ m ≤ xs.length ∧ BZ w' g A (xs.take m).length d 0 ∧ Below w.heap.size w w'
set_option maxRecDepth 100000 in
set_option maxHeartbeats 4000000 in
theorem Wl {w : World} {A : Option Addr} {c : Nat} {xs : List Int} (hcap : xs.length ≤ c) (hm : xs.length ≤ 9223372036854775807) : Calls Tryz.prog 31 #[.slice A xs.length c] w (WC w A xs):=by
 by_cases hl : 2000 < xs.length
 ·have h1 : decide ((2000 : Int) < (xs.length : Int)) = true:=by simp;omega
  have h2 : (2000 : Int) ≤ (c : Int):=by omega
  go_enter Tryz.func31,Tryz.ntmps31
  go_wp2
  go_ret
  exact ⟨w.heap.size,2000,c,rfl,Nat.le_refl _,by rw [List.length_take];omega,by omega,by rw [show (xs.take 2000).length = 2000 by rw [List.length_take];omega];exact BZ.mk1 _ _ _ _ _,Aa (Below.refl _ _) _⟩
 ·have h1 : decide ((2000 : Int) < (xs.length : Int)) = false:=by simp;omega
  go_enter Tryz.func31,Tryz.ntmps31
  go_wp2
  go_ret
  exact ⟨w.heap.size,xs.length,c,rfl,Nat.le_refl _,by rw [List.length_take];omega,Nat.le_refl _,by rw [List.take_length];exact BZ.mk1 _ _ _ _ _,Aa (Below.refl _ _) _⟩
set_option maxRecDepth 100000 in
set_option maxHeartbeats 4000000 in
theorem VH {w0 w : World} {A : Option Addr} {c : Nat} {l : List Rec} (hl : Au l = true) (hb : Below w0.heap.size w0 w) (hr : Kd.C kRec w0 A l.length l) : Calls Tryz.prog 26 #[.slice A l.length c] w (Vs w (BX l 3)):=by
 have HR:=As (BF hr hb)
 have HL:=As hl
 clear hr hb hl
 go_enter Tryz.func26,Tryz.ntmps26
 go_wp2_with (first
  | (go_at_call 39;refine (FL (c:=c) (b:=true) HL.out (Below.refl _ _) HR.out).mono ?_;rintro x w2 ⟨rfl,hb2⟩;have HB2:=As hb2;clear hb2)
  | (go_at_call 49;refine (Fu (c:=c) HB2.out HR.out).mono ?_;rintro x w3 ⟨v,rfl,ho,hb3⟩;have HO:=As (ho.lower HB2.out.size);have HB3:=As (bj HB2.out hb3);clear ho hb3))
 go_ret
 exact ⟨_,rfl,HO.out,HB3.out⟩
theorem Yw (A B C : Option Addr) (n1 c1 n2 c2 n3 c3 : Nat) (s : Int) (b : Bool) (w : World) : (Instr.field 26 (.agg #[.slice A n1 c1, .slice B n2 c2, .slice C n3 c3, .int .i64 s, .bool b]) 1).run Tryz.prog w = .ok (.slice B n2 c2) w:=by kernel_rfl
end Go.Proofs.YtjeodgfkilhkhaaGreat
