/- A part of the proof: what the last text of the claim says leans on this one. -/
import Derived.Test.YtklmhkglcfjclaaGreatZD1
import Derived.Test.YtklmhkglcfjclaaGreatZO1
import Derived.Test.YtklmhkglcfjclaaGreatZV1
import Derived.Test.YtklmhkglcfjclaaGreatZN2
import Derived.Test.YtklmhkglcfjclaaGreatZV2
import Derived.Test.YtklmhkglcfjclaaGreatZP1
set_option linter.unusedVariables false
set_option linter.unusedSimpArgs false
namespace Go.Proofs.YtklmhkglcfjclaaGreat
open Go.RowKit Go.Proofs.YtklmhkglcfjclaaGreatW.PrintWords Go.Proofs.YtklmhkglcfjclaaGreatW.PrintLast Go.Proofs.YtklmhkglcfjclaaGreatW.PrintMore
section
variable {ops : Array Oper} {rest : List Oper} {o : Oper} {a : Act} {Q : Exit → Act → World → Prop}
theorem Ow {W : World} {base N : Nat} {v u : Value} {ps : List Evt} {p : Evt} (hgd : o.guard = none) (s x : Operand)
  (ho : o.op = .call { callee:=.builtin .append,args:=#[s,x],argTypes:=#[38,38] }) (hs : a.eval s = v) (hx : a.eval x = .slice (some ⟨W.heap.size,0,none⟩) 1 1)
  (hp : AU W N u p.vals) (HO : U9 W base (fun k => base ≤ k ∧ k < N) v ps) (hbase : base ≤ W.heap.size) (hl : ps.length + 1 ≤ 1000) (hN : base ≤ N)
  (h : ∀ v1 w1,Ip w1 base v1 (ps ++ [p]) → Below base W w1 → W.grownBy w1 v.ownBlock → wpList Tryz.prog ops Q rest (a.put o.dst v1) w1) :
  wpList Tryz.prog ops Q (o :: rest) a (W.alloc (.cells #[.int .i64 p.kind, .int .i64 p.tx, .int .i64 p.page, .int .i64 p.slot, .int .i64 p.n,u] 44)):=by
 have hv:=UZ HO
 refine Kd.RL kEvt base hgd s x 38 44 _ 64 ho RY Vv rfl (by decide) (by decide) v ps p [.int .i64 p.kind, .int .i64 p.tx, .int .i64 p.page, .int .i64 p.slot, .int .i64 p.n,u] (fun _ => True) (fun k => some k = u.ownBlock) hs hx ?_ (fun k hk => ⟨trivial,fun e => ?_⟩) (fun _ _ => trivial) (Kd.Dx HO (fun k hk => ⟨trivial,fun e => ?_⟩)) (Below.refl _ W) hbase (by omega) (fun v1 w1 h1 h2 h3 _ => h v1 w1 h1 h2 h3)
 ·exact Vs W _ _ p (Kd.EO (Ef hp hN) (fun k hk => hk.symm))
 ·have h1:=Cm hp k hk.symm
  have h2:=(hv k e.symm).2
  omega
 ·have h1:=Cm hp k e.symm
  have h2:=hk.2
  omega
end
section
variable {w w1 : World} {b : Nat} {u vd vm vl V : Value} {e : Eng} {vs : List Evt} {xs : List Int} {S : Nat → Prop}
theorem AU.JC (h : AU w b u xs) (hk : Be w w1) : AU w1 b u xs:=by
 have h1 : RI w b (fun k => some k = u.ownBlock) u xs:=Kd.EO h (fun k hk => hk.symm)
 have h2 : RI w1 b (fun k => some k = u.ownBlock) u xs:=Kd.Ls (S:=fun k => ¬ ∃ c,w.heap[k]? = some (.cells c 3 (0,0))) h1 ⟨hk.1,fun k _ hn => by
  obtain ⟨c,hc⟩:=Classical.not_not.1 hn
  exact (hk.2 k c _ (by decide) hc).trans hc.symm⟩ (fun k ho hn => hn (Du h k ho.symm))
 exact Kd.IE h2
theorem UH : ∀ q ∈ (44 :: kEvt.E),q ≠ 47:=by decide
theorem Sr : ∀ q ∈ (47 :: Dc.E),q ≠ 44:=by decide
theorem Ip.JC (h : Ip w b V vs) (hk : Be w w1) : Ip w1 b V vs:=by
 refine Kd.Dx (Kd.Ju (S:=fun k => ¬ ∃ c t,t ≠ 47 ∧ w.heap[k]? = some (.cells c t (0,0))) (Kd.DU h) ⟨hk.1,fun k _ hn => ?_⟩ (fun k ho hn => hn ?_)) (fun _ _ => trivial)
 ·obtain ⟨c,t,ht,hc⟩:=Classical.not_not.1 hn
  exact (hk.2 k c t ht hc).trans hc.symm
 ·obtain ⟨-, -, -,q,hq,c,hc⟩:=ho
  exact ⟨c,q,UH q hq,hc⟩
theorem JP {k : Nat} {c d : Array Value} {q t : TypeId} (h : w.heap[k]? = some (.cells c q (0,0))) (h2 : w.heap[k]? = some (.cells d t (0,0))) : q = t:=by
 rw [h] at h2
 injection h2 with h2
 injection h2 with _ h3
theorem AX.XM (h : AX w b vd vm vl e) (hk : Kept w w1 S) (hS : ∀ k,S k → ∃ d,w.heap[k]? = some (.cells d 44 (0,0))) : AX w1 b vd vm vl e:=by
 obtain ⟨⟨okd,okm,h1,h2,h3⟩,h4⟩:=h
 have key : ∀ k,(∃ q,q ∈ 47 :: Dc.E ∧ ∃ cells,w.heap[k]? = some (.cells cells q (0,0))) → ¬ S k:=by
  rintro k ⟨q,hq,c,hc⟩ hs
  obtain ⟨d,hd⟩:=hS k hs
  exact Sr q hq (JP hc hd)
 refine ⟨⟨okd,okm,h1,Kd.Dx (Kd.Ju (Kd.DU h2) hk (fun k ho => key k ho.2.2.2)) (fun _ h => h.1),Kd.Dx (Kd.Ju (Kd.DU h3) hk (fun k ho => key k ho.2.2.2)) (fun _ h => h.1)⟩,Kd.EB (Kd.Ls (Kd.NU rfl h4) hk (fun k ho hs => ?_)) (fun _ _ => trivial)⟩
 obtain ⟨inner,ho2⟩:=Kd.KV h4
 obtain ⟨c,hc⟩:=Du ho2 k ho.symm
 obtain ⟨d,hd⟩:=hS k hs
 exact absurd (JP hc hd) (by decide)
end
theorem eg_types : ∀ q ∈ (44 :: kEvt.E),q ≠ 30:=by decide
theorem Ip.FJ {w : World} {b g : Nat} {V ud um ul : Value} {vs : List Evt} {q : Eng} (h : Ip w b V vs) (hq : Aj w g q ud um ul) (f : Eng) (xd xm xl : Value) : Ip (Go.Proofs.YtklmhkglcfjclaaGreat.Az w g f xd xm xl) b V vs:=
 Kd.Dx (Kd.Ju (Kd.DU h) ((((((Kept.refl w (fun k => k = g)).setCell (p:=⟨g,0,none⟩) (.inl rfl) _).setCell (p:=⟨g,1,none⟩) (.inl rfl) _).setCell (p:=⟨g,2,none⟩) (.inl rfl) _).setCell (p:=⟨g,3,none⟩) (.inl rfl) _).setCell (p:=⟨g,4,none⟩) (.inl rfl) _) (fun k ho e => by
  obtain ⟨-, -, -,q,hq2,c,hc⟩:=ho
  subst e
  exact eg_types q hq2 (JP hc hq.blk))) (fun _ _ => trivial)
theorem AU.XO {w w1 : World} {b : Nat} {u : Value} {xs : List Int} {row : Option Nat} (h : AU w b u xs) (hg : w.grownBy w1 row) (hne : ∀ k,u.ownBlock = some k → row ≠ some k) : AU w1 b u xs:=by
 have h1 : RI w b (fun k => some k = u.ownBlock) u xs:=Kd.EO h (fun k hk => hk.symm)
 have h2 : RI w1 b (fun k => some k = u.ownBlock) u xs:=Kd.Ls h1 (Kept.Ho hg (Kept.refl w (fun k => row = some k)) (fun k e => .inl e)) (fun k ho hs => hne k ho.symm hs)
 exact Kd.IE h2
structure Pl (wB w wr : World) (g gE : Nat) (A : Option Addr) (n c : Nat) (p : Int) (vd vm vl : Value) (e : Eng) (V : Value) (vs : List Evt) : Prop where
 rd : ∃ q,0 ≤ q ∧ q ≤ p ∧ CZ wr g A n c q
 box : Aj wr gE e vd vm vl
 own : AX wr w.heap.size vd vm vl e
 evs : Ip wr w.heap.size V vs
 wro : Wrote w wr (fun j => j = g)
 bel : Below wB.heap.size wB wr
 ge : w.heap.size < gE
 bz : Aj wr w.heap.size zE (.slice none 0 0) (.slice none 0 0) (.slice none 0 0)
 hgw : g < w.heap.size
 hBg : wB.heap.size ≤ g
section
variable {wB w wr w1 : World} {g gE n c : Nat} {A : Option Addr} {p p' : Int} {e f : Eng} {vd vm vl xd xm xl V V1 : Value} {vs vs1 : List Evt}
theorem Pl.below (h : Pl wB w wr g gE A n c p vd vm vl e V vs) (hb : Below wr.heap.size wr w1) : Pl wB w w1 g gE A n c p vd vm vl e V vs:=by
 obtain ⟨q,h0,h1,hq⟩:=h.rd
 exact ⟨⟨q,h0,h1,hq.up hb⟩,h.box.up hb,h.own.below hb,Kd.BH h.evs hb,h.wro.CV (Wrote.of_below hb (fun j => j = g)) (fun _ h => .inl h),bj h.bel hb,h.ge,h.bz.up hb,h.hgw,h.hBg⟩
theorem Pl.drawn (h : Pl wB w wr g gE A n c p vd vm vl e V vs) (hr : ∃ q,0 ≤ q ∧ q ≤ p' ∧ CZ w1 g A n c q) (hw : Wrote wr w1 (fun j => j = g)) : Pl wB w w1 g gE A n c p' vd vm vl e V vs:=by
 have hgw:=h.hgw
 have hge:=h.ge
 exact ⟨hr,(hw.kept.2 _ h.box.lt (by omega)).trans h.box,(h.own.toK.kept hw.kept (fun k hk e => by omega)).E,Kd.Dx (Kd.Ju (Kd.DU h.evs) hw.kept (fun k hk e => by have:=hk.2.1;omega)) (fun _ _ => trivial),h.wro.CV hw (fun _ h => .inl h),h.bel.trans (hw.bel (fun k hk => by have:=h.hBg;omega) h.bel.size),h.ge,(hw.kept.2 _ h.bz.lt (by omega)).trans h.bz,h.hgw,h.hBg⟩
theorem Pl.old (h : Pl wB w wr g gE A n c p vd vm vl e V vs) (hw : Wrote wr w1 (fun j => j = g)) : U9 w1 w.heap.size (fun k => w.heap.size ≤ k ∧ k < wr.heap.size) V vs:=
 Kd.Dx (Kd.Ju (Kd.DU h.evs) hw.kept (fun k hk e => by have:=hk.2.1;have:=h.hgw;omega)) (fun k hk => ⟨hk.2.1,hk.2.2.1⟩)
theorem Pl.added (h : Pl wB w wr g gE A n c p vd vm vl e V vs) (hV : Ip w1 w.heap.size V1 vs1) (hb : Below w.heap.size wr w1) (hg : wr.grownBy w1 V.ownBlock) : Pl wB w w1 g gE A n c p vd vm vl e V1 vs1:=by
 obtain ⟨q,h0,h1,hq⟩:=h.rd
 have hk : Kept wr w1 (fun k => V.ownBlock = some k):=Kept.Ho hg (Kept.refl _ _) (fun k e => .inl e)
 have hge:=h.ge
 have hgw:=h.hgw
 have ht:=Kd.Fg h.evs
 refine ⟨⟨q,h0,h1,(hb.block g hgw).trans hq⟩,(hk.2 gE h.box.lt (fun e => ?_)).trans h.box,h.own.XM hk ht,hV,⟨hb.os.trans h.wro.os,hb.tape.trans h.wro.tape,hb.output.trans h.wro.output,Nat.le_trans h.wro.kept.1 hb.size,fun k hk1 hn => (hb.block k hk1).trans (h.wro.kept.2 k hk1 hn)⟩,h.bel.trans (hb.mono (by have:=h.hBg;omega)),h.ge,(hk.2 _ h.bz.lt (fun e => ?_)).trans h.bz,h.hgw,h.hBg⟩
 ·obtain ⟨d,hd⟩:=ht gE e
  exact absurd (JP h.box.blk hd) (by decide)
 ·obtain ⟨d,hd⟩:=ht _ e
  exact absurd (JP h.bz.blk hd) (by decide)
theorem Pl.X8 {u1 u2 u3 : Value} (h : Pl wB w wr g gE A n c p vd vm vl e V vs) (ho : AX w1 w.heap.size u1 u2 u3 f) (hb : Below w.heap.size wr w1) (hk : Be wr w1) : Pl wB w (Go.Proofs.YtklmhkglcfjclaaGreat.Az w1 gE f u1 u2 u3) g gE A n c p u1 u2 u3 f V vs:=by
 obtain ⟨q,h0,h1,hq⟩:=h.rd
 have hge : w.heap.size ≤ gE:=Nat.le_of_lt h.ge
 have hne : gE ≠ w.heap.size:=Nat.ne_of_gt h.ge
 have hgw:=h.hgw
 have hbx : Aj w1 gE e vd vm vl:=h.box.JC hk
 have hb5 : Below w.heap.size wr (Go.Proofs.YtklmhkglcfjclaaGreat.Az w1 gE f u1 u2 u3):=((((hb.setCell (p:=⟨gE,0,none⟩) hge _).setCell (p:=⟨gE,1,none⟩) hge _).setCell (p:=⟨gE,2,none⟩) hge _).setCell (p:=⟨gE,3,none⟩) hge _).setCell (p:=⟨gE,4,none⟩) hge _
 refine ⟨⟨q,h0,h1,(hb5.block g hgw).trans hq⟩,hbx.Az f u1 u2 u3,ho.Az (f:=f) hbx,?_,⟨hb5.os.trans h.wro.os,hb5.tape.trans h.wro.tape,hb5.output.trans h.wro.output,Nat.le_trans h.wro.kept.1 hb5.size,fun k hk1 hn => (hb5.block k hk1).trans (h.wro.kept.2 k hk1 hn)⟩,h.bel.trans (hb5.mono (by have:=h.hBg;omega)),h.ge,(((((h.bz.JC hk).far hne _ _).far hne _ _).far hne _ _).far hne _ _).far hne _ _,h.hgw,h.hBg⟩
 exact (h.evs.JC hk).FJ hbx f u1 u2 u3
theorem AU.C2 {b m d : Nat} {B : Option Addr} {xs : List Int} (h : AU wr b (.slice B m d) xs) : Kd.C (Kd.int .i64) wr B xs.length xs:=by
 obtain ⟨A2,c2,h1, -,h2⟩:=h.reads
 injection h1 with h1
 subst h1
 exact h2
theorem Pl.l22 {b c2 : Nat} {A2 : Option Addr} (v : Evt) (hi : ∃ C,Inv e C (3 * 40)) (h : Pl wB w wr g gE A n c p vd vm vl e V vs) (hu : AU wr b (.slice A2 v.vals.length c2) v.vals) : Calls Tryz.prog 59 #[e.ag vd vm vl,v.val A2 c2] wr fun x w1 => ∃ u1 u2 u3,x = .returned ((AP e v).ag u1 u2 u3) ∧ AX w1 w.heap.size u1 u2 u3 (AP e v) ∧ Below w.heap.size wr w1 ∧ Be wr w1:=by
 obtain ⟨C,hi⟩:=hi
 obtain ⟨w0,hz,hb0⟩:=base_of wr (n:=w.heap.size) h.wro.kept.1
 refine (Nr (w0:=w0) (c:=c2) v hi (by omega) (by rw [hz];exact hb0) (by rw [hz];exact h.own) (fun wx _ hk => (hu.JC hk).C2)).mono ?_
 rintro x w1 ⟨u1,u2,u3,rfl,ho,hb,hk⟩
 rw [hz] at ho hb
 exact ⟨u1,u2,u3,rfl,ho,⟨hb.os.trans hb0.os.symm,hb.tape.trans hb0.tape.symm,hb.output.trans hb0.output.symm,hk.1,fun k hk1 => (hb.block k hk1).trans (hb0.block k hk1).symm⟩,hk⟩
end
theorem inv_all (vs : List Evt) (h : vs.length ≤ 40) : ∃ C,Inv (runE newE vs) C (3 * 40):=by
 have:=SI vs vs.length h
 rwa [List.take_length] at this
theorem VX {P : Program} {ops : Array Oper} {l : List Oper} {Q : Exit → Act → World → Prop} {a : Act} {W : World} (h : ∀ w1,Below W.heap.size W w1 → w1.heap.size = W.heap.size + 1 → (∀ base,base ≤ W.heap.size → Ip w1 base (.slice (some ⟨W.heap.size,0,none⟩) 0 0) []) → wpList P ops Q l a w1) : wpList P ops Q l a (W.alloc (.cells #[] 44)):=
 h _ (Ah (Below.refl _ _) _) (BK _ _) (fun base hb => ⟨fun _ => 0,fun _ _ => trivial, [],own_none' _ 6 rfl hb,Reps.none _ _⟩)
end Go.Proofs.YtklmhkglcfjclaaGreat
namespace Go.Proofs.YtklmhkglcfjclaaGreat
open Go.RowKit Go.Proofs.YtklmhkglcfjclaaGreatW.PrintWords Go.Proofs.YtklmhkglcfjclaaGreatW.PrintLast Go.Proofs.YtklmhkglcfjclaaGreatW.PrintMore
def WA (w : World) (g : Nat) (A : Option Addr) (n c : Nat) (p : Int) (x : Ending) (w' : World) : Prop := ∃ (V : Value) (vs : List Evt) (E : Eng) (B1 B2 B3 : Option Addr) (d1 d2 d3 : Nat),x = .returned (.tuple #[V,E.val B1 B2 B3 d1 d2 d3]) ∧ Ip w' w.heap.size V vs ∧ vs.length ≤ 36 ∧ (∃ q,0 ≤ q ∧ q ≤ p + 1000 ∧ CZ w' g A n c q) ∧ Wrote w w' (fun j => j = g)
theorem Ur (vs : List Evt) (v : Evt) : runE newE (vs ++ [v]) = AP (runE newE vs) v:=Km vs newE v
set_option maxRecDepth 100000 in
set_option maxHeartbeats 16000000 in
theorem OT {wB w : World} {g c : Nat} {A : Option Addr} {xs : List Int} {p : Int} (hp0 : 0 ≤ p) (hp1 : p ≤ 100000) (hn : xs.length ≤ 2000) (hx : Bytes xs) (hb : Below wB.heap.size wB w) (hg : wB.heap.size ≤ g) (hr : Kd.C (Kd.int .u8) wB A xs.length xs) (hq : CZ w g A xs.length c p) : Calls Tryz.prog 55 #[.pointer (some ⟨g,0,none⟩)] w (WA w g A xs.length c p):=by
 have HP:=As (And.intro hp0 hp1)
 have HN:=As hn
 have HXS:=As hx
 have HR:=As hr
 have HQ:=As hq
 have HB:=As hb
 have HG:=As hg
 have HONE : True:=trivial
 clear hp0 hp1 hn hx hb hg hr hq
 go_enter Tryz.func55,Tryz.ntmps55
 go_wp2_with (first
  | (refine Ai (vd:=.slice none 0 0) (vm:=.slice none 0 0) (vl:=.slice none 0 0) zE ?_;clear HONE;intro w1 hb1 hz1 hq1;have HZ1:=As hz1;have HB1:=As hb1;have HP1:=As hq1;clear hb1 hz1 hq1)
  | (go_at_call 58;refine (Gw w1).mono ?_;rintro x w2 ⟨vd,vm,vl,rfl,ho,hb2⟩;obtain ⟨Ed,n1,Em,n2,El,n3,rfl,rfl,rfl, -, -⟩:=ho.reads;have HO:=As ho;have HB2:=As hb2;clear hb2 ho)
  | (refine Ai (vd:=.slice Ed newE.disk.length n1) (vm:=.slice Em newE.mem.length n2) (vl:=.slice El newE.log.length n3) newE ?_;intro w3 hb3 hz3 hq3;clear hz3;have HO3:=As (HO.out.below hb3);have HB3:=As (bj HB2.out hb3);have HQ3:=As hq3;clear hb3 hq3)
  | (with_reducible refine VX ?_;intro w4 hb4 hz4 hv4;have HB4:=As hb4;have HV4:=As (hv4 w.heap.size (by have h1:=HB1.out.size;have h2:=HB3.out.size;omega));clear hb4 hz4 hv4)
  | (go_at_call 56;refine (Ja (wB:=wB) HP.out.1 (by have:=HP.out;omega) (by decide) (by decide) HN.out HXS.out (bj HB.out (bj HB1.out (bj HB3.out HB4.out))) HG.out HR.out (HQ.out.up (bj HB1.out (bj HB3.out HB4.out)))).mono ?_;rintro x w5 ⟨N,rfl,hk,hrd,hw⟩;obtain ⟨hN0,hN1⟩:=hk (by decide);clear hk;obtain ⟨N,rfl⟩:=Int.eq_ofNat_of_zero_le hN0;have h14:=bj HB3.out HB4.out;have hgw:=HQ.out.lt;have hz1:=HZ1.out;have hsz:=HB2.out.size;have hP4 : Pl wB w w4 g w2.heap.size A xs.length c p (.slice Ed newE.disk.length n1) (.slice Em newE.mem.length n2) (.slice El newE.log.length n3) newE (.slice (some ⟨w3.heap.size,0,none⟩) 0 0) []:=⟨⟨p,HP.out.1,Int.le_refl _,HQ.out.up (bj HB1.out h14)⟩,HQ3.out.up HB4.out,(HO3.out.below HB4.out).lower (by omega),HV4.out,Wrote.of_below (bj HB1.out h14) _,bj HB.out (bj HB1.out h14),by omega,HP1.out.up h14,hgw,HG.out⟩;have HPL:=As (hP4.drawn (p':=p + 1) ⟨_,by have:=HP.out;omega,Int.le_refl _,hrd⟩ hw);clear hrd hw h14 hgw hz1 hsz hP4))
 go_loopw [5,6] (fun x i wr => ∃ (k : Nat) (vs : List Evt) (V vd vm vl : Value),V = x ∧ k ≤ N ∧ i = .int .i64 ((N : Int) - k) ∧ vs.length = k ∧ Ac (Pl wB w wr g w2.heap.size A xs.length c (p + 1 + 12 * k) vd vm vl (runE newE vs) V vs)) (fun _ i _ => (intOf i).toNat)
 case atStart => exact ⟨0, [],_,_,_,_,rfl,Nat.zero_le _,by simp,rfl,⟨by rw [show p + 1 + 12 * ((0 : Nat) : Int) = p + 1 by simp];exact HPL.out⟩⟩
 case round =>
  obtain ⟨k,vs,V,vd,vm,vl,rfl,hk,rfl,hlen,HPK⟩:=hrel
  have HLEN:=As hlen
  obtain ⟨C0,hI⟩:=inv_all vs (by omega)
  have HI:=As hI
  obtain ⟨Ed',m1,Em',m2,El',m3,rfl,rfl,rfl,hcl,hrdE⟩:=HPK.out.own.reads
  have HRDE:=As hrdE
  obtain ⟨X,hX⟩ : ∃ X,runE newE vs = X:=⟨_,rfl⟩
  rw [hX] at HPK HI HRDE
  have HX:=As hX
  clear hlen hcl hX hI hrdE
  have x0:=HPK.out.box.c0
  have x1:=HPK.out.box.c1
  have x2:=HPK.out.box.c2
  have x3:=HPK.out.box.c3
  have x4:=HPK.out.box.c4
  by_cases hlt : k < N
  ·have hi0 : decide ((0 : Int) < (N : Int) - (k : Int)) = true:=by simp;omega
   go_wp2_with (first
    | (go_at_call 106;obtain ⟨q,hq0,hq1,hrd⟩:=HPK.out.rd;refine (Om (wB:=wB) hq0 (by have:=HP.out;omega) HN.out HXS.out HPK.out.bel HPK.out.hBg HR.out hrd HPK.out.own HPK.out.hgw HI.out.mlen HI.out.core.log).mono ?_;clear hrd;rintro x w5 ⟨v,u,rfl,hu,hl3,⟨q',hq2,hq3,hrd⟩,hw⟩;obtain ⟨A3,c3,rfl, -, -⟩:=hu.reads;have HU5:=As hu;have HOLD:=As (HPK.out.old hw);have HN5:=As hw.kept.1;have HP5:=As (HPK.out.drawn (p':=p + 1 + 12 * ((k + 1 : Nat) : Int)) ⟨q',by omega,by push_cast;omega,hrd⟩ hw);clear hu hw hrd hq0 hq1 hq2 hq3 hl3 x0 x1 x2 x3 x4)
    | (with_reducible refine EH (A:=A3) (c:=c3) v ?_;intro w6 hb6 hz6 hq6;clear hz6;have HU6:=As (HU5.out.below hb6);have HO6:=As (Kd.BH HOLD.out hb6);have HP6:=As (HP5.out.below hb6);have HV6:=As hq6;have HN6:=As hb6.size;clear hb6 hq6;have v0:=HV6.out.c0;have v1:=HV6.out.c1;have v2:=HV6.out.c2;have v3:=HV6.out.c3;have v4:=HV6.out.c4;have v5:=HV6.out.c5)
    | (at_builtin;refine Ow (W:=w6) (base:=w.heap.size) (N:=wr.heap.size) rfl (.tmp 19) (.tmp 21) rfl rfl rfl HU6.out HO6.out HP6.out.wro.kept.1 (by have:=HLEN.out;omega) HPK.out.wro.kept.1 ?_;intro V1 w7 hV7 hb7 hg7;have hn : ∀ k,(Value.slice A3 v.vals.length c3).ownBlock = some k → V.ownBlock ≠ some k:=(fun m hm e => by have h1:=Cm HU6.out m hm;have h2:=(UZ HO6.out m e).2;omega);have HU7:=As (HU6.out.XO hg7 hn);have hbk : V.ownBlock ≠ some w5.heap.size:=(fun e => by have h1:=(UZ HO6.out _ e).2;have h2:=HN5.out;omega);have hv7 : EvBox w7 w5.heap.size v A3 c3:=((hg7.block _ HV6.out.lt (fun e => hbk e.symm)).trans HV6.out);have HP7:=As (HP6.out.added hV7 hb7 hg7);clear hV7 hb7 hg7 hn hbk;clear v0 v1 v2 v3 v4 v5;have v0:=hv7.c0;have v1:=hv7.c1;have v2:=hv7.c2;have v3:=hv7.c3;have v4:=hv7.c4;have v5:=hv7.c5;clear hv7;have x0:=HP7.out.box.c0;have x1:=HP7.out.box.c1;have x2:=HP7.out.box.c2;have x3:=HP7.out.box.c3;have x4:=HP7.out.box.c4)
    | (go_at_call 59;refine (HP7.out.l22 (c2:=c3) v ⟨C0,HI.out⟩ HU7.out).mono ?_;rintro x w8 ⟨u1,u2,u3,rfl,ho,hb8,hk8⟩;obtain ⟨Fd,k1,Fm,k2,Fl,k3,rfl,rfl,rfl, -, -⟩:=ho.reads;have HP8:=As (HP7.out.X8 ho hb8 hk8);have hy:=HP7.out.box.JC hk8;clear x0 x1 x2 x3 x4 v0 v1 v2 v3 v4 v5 ho hb8 hk8;have y0:=hy.c0;have y1:=hy.c1;have y2:=hy.c2;have y3:=hy.c3;have y4:=hy.c4;have f0:=hy.frz 0;have f1:=hy.frz 1;have f2:=hy.frz 2;have f3:=hy.frz 3;have f4:=hy.frz 4;clear hy))
   go_roundw
   case rel => exact ⟨k + 1,vs ++ [v],_,_,_,_,rfl,by omega,by go_num,by simp [HLEN.out],⟨by rw [Ur,HX.out];exact HP8.out⟩⟩
   case measure => simp [intOf];omega
  ·have hi0 : decide ((0 : Int) < (N : Int) - (k : Int)) = false:=by simp;omega
   go_wp2_with (first | (go_at_call 39;refine (OY (cd:=m1) (cm:=m2) (cl:=m3) (Ay (Cz.2 ⟨HI.out.core.dlen,HI.out.core.dok⟩)) (Ay HI.out.Gp) (Bg HI.out.core.log) (Below.refl _ _) HRDE.out).mono ?_;rintro x w6 ⟨ud,um,ul,rfl,ho,hb6⟩;obtain ⟨Fd,k1,Fm,k2,Fl,k3,rfl,rfl,rfl, -, -⟩:=ho.reads;have HP6:=As (HPK.out.below hb6);clear ho hb6 x0 x1 x2 x3 x4;have hy:=HP6.out.bz;have y0:=hy.c0;have y1:=hy.c1;have y2:=hy.c2;have y3:=hy.c3;have y4:=hy.c4;have f0:=hy.frz 0;have f1:=hy.frz 1;have f2:=hy.frz 2;have f3:=hy.frz 3;have f4:=hy.frz 4;clear hy))
   have hy:=HP6.out.bz.Az X (.slice Fd X.disk.length k1) (.slice Fm X.mem.length k2) (.slice Fl X.log.length k3)
   have z0:=hy.c0
   have z1:=hy.c1
   have z2:=hy.c2
   have z3:=hy.c3
   have z4:=hy.c4
   obtain ⟨q,hq0,hq1,hrd⟩:=HP6.out.rd
   have hgw:=HP6.out.hgw
   exact bodyPost_ret (v:=.tuple #[V,X.ag (.slice Fd X.disk.length k1) (.slice Fm X.mem.length k2) (.slice Fl X.log.length k3)]) (by simp [results,Tryz.results55,go_sem,z0,z1,z2,z3,z4]) rfl ⟨V,vs,X,_,_,_,_,_,_,rfl,HP6.out.evs.FJ HP6.out.bz X _ _ _,by have:=HLEN.out;omega,⟨q,hq0,by omega,((((hrd.far (by omega) _ _).far (by omega) _ _).far (by omega) _ _).far (by omega) _ _).far (by omega) _ _⟩,((((HP6.out.wro.setCell (.inr (Nat.le_refl _)) _).setCell (.inr (Nat.le_refl _)) _).setCell (.inr (Nat.le_refl _)) _).setCell (.inr (Nat.le_refl _)) _).setCell (.inr (Nat.le_refl _)) _⟩
theorem Bytes.take {xs : List Int} (h : Bytes xs) (n : Nat) : Bytes (xs.take n):=fun x hx => h x (List.mem_of_mem_take hx)
theorem CZ.mk1 (w : World) (A : Option Addr) (n c : Nat) (p : Int) : CZ (w.alloc (.cells #[.slice A n c, .int .i64 p] 111)) w.heap.size A n c p:=by
 show (w.heap.push _)[w.heap.size]? = _
 simp
def WC (w : World) (A : Option Addr) (xs : List Int) (x : Ending) (w' : World) : Prop := ∃ (g m d : Nat),x = .returned (.pointer (some ⟨g,0,none⟩)) ∧ w.heap.size ≤ g ∧ (xs.take m).length ≤ 2000 ∧ m ≤ xs.length ∧ CZ w' g A (xs.take m).length d 0 ∧ Below w.heap.size w w'
set_option maxRecDepth 100000 in
set_option maxHeartbeats 4000000 in
theorem Qc {w : World} {A : Option Addr} {c : Nat} {xs : List Int} (hcap : xs.length ≤ c) (hm : xs.length ≤ 9223372036854775807) : Calls Tryz.prog 54 #[.slice A xs.length c] w (WC w A xs):=by
 by_cases hl : 2000 < xs.length
 ·have h1 : decide ((2000 : Int) < (xs.length : Int)) = true:=by simp;omega
  have h2 : (2000 : Int) ≤ (c : Int):=by omega
  go_enter Tryz.func54,Tryz.ntmps54
  go_wp2
  go_ret
  exact ⟨w.heap.size,2000,c,rfl,Nat.le_refl _,by rw [List.length_take];omega,by omega,by rw [show (xs.take 2000).length = 2000 by rw [List.length_take];omega];exact CZ.mk1 _ _ _ _ _,Ah (Below.refl _ _) _⟩
 ·have h1 : decide ((2000 : Int) < (xs.length : Int)) = false:=by simp;omega
  go_enter Tryz.func54,Tryz.ntmps54
  go_wp2
  go_ret
  exact ⟨w.heap.size,xs.length,c,rfl,Nat.le_refl _,by rw [List.length_take];omega,Nat.le_refl _,by rw [List.take_length];exact CZ.mk1 _ _ _ _ _,Ah (Below.refl _ _) _⟩
def XL : Value → Nat
 | .slice _ n _ => n
 | _ => 0
def WE (w : World) (x : Ending) (w' : World) : Prop := ∃ (V : Value) (vs : List Evt),x = .returned V ∧ Ip w' w.heap.size V vs ∧ vs.length ≤ 41 ∧ Below w.heap.size w w'
set_option maxRecDepth 100000 in
set_option maxHeartbeats 8000000 in
theorem Cv {w0 w : World} {A : Option Addr} {c : Nat} {xs : List Int} (hcap : xs.length ≤ c) (hx : Bytes xs) (hb : Below w0.heap.size w0 w) (hr : Kd.C (Kd.int .u8) w0 A xs.length xs) : Calls Tryz.prog 19 #[.slice A xs.length c] w (WE w):=by
 have HR:=As (BF hr hb)
 have HX:=As hx
 have HC:=As hcap
 have hmx:=(Co hr).2
 clear hr hb hx hcap
 go_enter Tryz.func19,Tryz.ntmps19
 go_wp2_with (first
  | (go_at_call 54;refine (Qc HC.out hmx).mono ?_;rintro x w1 ⟨g,m,d,rfl,hg,hm2,hm,hq,hb1⟩;obtain ⟨ys,hys⟩ : ∃ ys,xs.take m = ys:=⟨_,rfl⟩;have hry:=Kd.VU HR.out hm;have hxy:=HX.out.take m;rw [hys] at hm2 hq hry hxy;have HRY:=As hry;have HXY:=As hxy;have HM:=As hm2;have HQ:=As hq;have HB1:=As hb1;have HG:=As hg;clear hm2 hq hry hxy hys hb1 hg hm)
  | (go_at_call 55;refine (OT (wB:=w) (p:=0) (Int.le_refl _) (by decide) HM.out HXY.out HB1.out HG.out HRY.out HQ.out).mono ?_;rintro x w2 ⟨V,vs,E,G1,G2,G3,e1,e2,e3,rfl,hV,hlen,⟨q,hq0,hq1,hrd⟩,hw⟩;have HV:=As hV;have HLEN:=As hlen;have HRD:=As (And.intro hq0 (And.intro hq1 hrd));have HB2:=As (HB1.out.trans (hw.bel (fun k hk => by have hk : k = g:=hk;have:=HG.out;omega) HB1.out.size));clear hV hlen hrd hq0 hq1 hw))
 obtain ⟨W3,hW3⟩ : ∃ W3,w2.alloc (Obj.cells #[.slice G1 E.disk.length e1, .slice G2 E.mem.length e2, .slice G3 E.log.length e3, .int .i64 E.safe, .bool E.down] 30) = W3:=⟨_,rfl⟩
 have hb3 : Below w2.heap.size w2 W3:=by rw [← hW3];exact Ah (Below.refl _ _) _
 rw [hW3]
 have HZ3:=As (show Ip W3 w1.heap.size V vs from Kd.BH HV.out hb3)
 have HRD3:=As (HRD.out.2.2.up hb3)
 have HB3:=As (bj HB2.out hb3)
 clear hb3 hW3
 go_at_call 56
 refine (Ja (wB:=w) HRD.out.1 (by have:=HRD.out.2.1;omega) (by decide) (by decide) HM.out HXY.out HB3.out HG.out HRY.out HRD3.out).mono ?_
 rintro x w4 ⟨k,rfl,hk,hrd,hw⟩
 have HV4:=As (Kd.Ej (Kd.Dx (ok':=fun _ => True) (Kd.Ju (Kd.DU HZ3.out) hw.kept (fun j hj e => by have e : j = g:=e;have:=hj.2.1;have:=HQ.out.lt;omega)) (fun _ _ => trivial)) HB1.out.size)
 have HB4:=As (HB3.out.trans (hw.bel (fun k hk => by have hk : k = g:=hk;have:=HG.out;omega) HB3.out.size))
 clear hk hrd hw
 rcases BV k 0 with ⟨e9,b9,c9⟩ | ⟨e9,b9,c9⟩
 ·go_wp2
  go_loopw [4] (fun x wr => ∃ (vs : List Evt) (V : Value),V = x ∧ vs.length ≤ 41 ∧ Ac (Ip wr w.heap.size V vs) ∧ Ac (Below w.heap.size w wr)) (fun x _ => 41 - XL x)
  case atStart => exact ⟨vs,V,rfl,by have:=HLEN.out;omega,HV4,HB4⟩
  case round =>
   obtain ⟨vs,V,rfl,hl,HVV,HW⟩:=hrel
   obtain ⟨A1,c1,rfl, -, -⟩:=Kd.Cj HVV.out
   by_cases hlt : vs.length ≤ 40
   ·have hlc : decide ((vs.length : Int) ≤ 40) = true:=by simp;omega
    have HL:=As hlt
    go_wp2_with (first
     | (at_builtin;refine Ow (p:=⟨7,0,0,0,0, []⟩) (W:=wr) (base:=w.heap.size) (N:=wr.heap.size) rfl (.tmp 19) (.tmp 21) rfl rfl rfl (AU.nil _ _) (Kd.Dx (Kd.DU HVV.out) (fun k hk => ⟨hk.2.1,hk.2.2.1⟩)) HW.out.size (by have:=HL.out;omega) HW.out.size ?_;intro V1 w7 hV7 hb7 hg7;obtain ⟨A7,c7,rfl, -, -⟩:=Kd.Cj hV7;have HV7:=As hV7;have HB7:=As (HW.out.trans hb7);clear hV7 hb7 hg7))
    go_roundw
    case rel => exact ⟨vs ++ [⟨7,0,0,0,0, []⟩],_,rfl,by (have:=HL.out;simp;omega),⟨by have h:=HV7.out;rw [List.length_append,List.length_singleton] at h;exact h⟩,HB7⟩
    case measure => simp [XL];omega
   ·have hlc : decide ((vs.length : Int) ≤ 40) = false:=by simp;omega
    go_wp2
    go_ret
    exact ⟨_,vs,rfl,HVV.out,hl,HW.out⟩
 ·go_wp2
  go_ret
  exact ⟨V,vs,rfl,HV4.out,by have:=HLEN.out;omega,HB4.out⟩
theorem Gn {vs : List Evt} {E : Eng} (h : JH vs = (E,true)) : vs.length ≤ 40 ∧ E = runE newE vs:=by
 unfold JH at h
 split at h
 ·injection h with _ h
  cases h
 ·injection h with h _
  exact ⟨by omega,h.symm⟩
set_option maxRecDepth 100000 in
set_option maxHeartbeats 4000000 in
theorem Rc {w0 w1 w : World} {A B : Option Addr} {c d : Nat} {p q : Page} (ho : p.owner = q.owner) (hv : p.vals = q.vals) (hb : Below w0.heap.size w0 w) (hr : Kd.C (Kd.int .i64) w0 A p.vals.length p.vals) (hb1 : Below w1.heap.size w1 w) (hr2 : Kd.C (Kd.int .i64) w1 B q.vals.length q.vals) : Calls Tryz.prog 76 #[p.val A c,q.val B d] w (I5 w):=by
 have HR:=As (BF hr hb)
 have HR2:=As (show Kd.C (Kd.int .i64) w B p.vals.length p.vals by rw [hv];exact BF hr2 hb1)
 obtain ⟨w3,hw3⟩ : ∃ w3,(w.alloc (p.box A c)).alloc (q.box B d) = w3:=⟨_,rfl⟩
 have HW3:=As hw3
 have HW : Ac (Below w.heap.size w w3):=⟨by rw [← hw3];exact bj (NT w p A c) ((Below.refl _ _).alloc (Nat.le_refl _) (q.box B d))⟩
 have h2 : (p.owner == q.owner) = true:=by rw [ho];exact NS _
 have HV:=As hv
 clear hr hb hr2 hb1 ho hv hw3
 go_enter Tryz.func76,Tryz.ntmps76
 go_wp2_with (first | (go_at_call 136;rw [HW3.out, ← HV.out];refine (LW HW.out HR.out HW.out HR2.out).mono ?_;rintro x w9 ⟨rfl,hb9⟩;have HX:=As (bj HW.out hb9);clear hb9))
 go_ret
 exact ⟨rfl,HX.out⟩
set_option maxRecDepth 100000 in
set_option maxHeartbeats 4000000 in
theorem K4 {w0 w1 w : World} {A B : Option Addr} {c d : Nat} {xs ys : List Page} (hs : xs.length = ys.length ∧ ∀ k,k < xs.length → (pg xs k).owner = (pg ys k).owner ∧ (pg xs k).vals = (pg ys k).vals) (hb : Below w0.heap.size w0 w) (hr : Kd.C Dc w0 A xs.length xs) (hb1 : Below w1.heap.size w1 w) (hr2 : Kd.C Dc w1 B ys.length ys) : Calls Tryz.prog 35 #[.slice A xs.length c, .slice B ys.length d] w (I5 w):=by
 have HR:=As (BF hr hb)
 have HR2:=As (BF hr2 hb1)
 have hm:=(Co hr).2
 have hne : ((xs.length : Int) != (ys.length : Int)) = false:=by rw [hs.1];exact K3 _
 have HS:=As hs
 clear hr hb hr2 hb1 hs
 go_enter Tryz.func35,Tryz.ntmps35
 go_wp2
 go_loopw [5] (fun i wr => ∃ k : Nat,k ≤ xs.length ∧ i = .int .i64 (k : Int) ∧ Ac (Below w.heap.size w wr)) (fun i _ => (xs.length - intOf i).toNat)
 case atStart => exact ⟨0,Nat.zero_le _,rfl,⟨Below.refl _ _⟩⟩
 case round =>
  obtain ⟨k,hk,rfl,HW⟩:=hrel
  by_cases hlt : k < xs.length
  ·obtain ⟨ad,A2,c2,rfl,QP, -,g2⟩:=Ei (BF HR.out HW.out) k hlt
   obtain ⟨bd,B2,d2,rfl,QP2, -,h2⟩:=Ei (BF HR2.out HW.out) k (by rw [← HS.out.1];exact hlt)
   have G2:=As g2
   have H2:=As h2
   have HQ:=As QP
   have HQ2:=As QP2
   have hly : (k : Int) < (ys.length : Int):=by have:=HS.out.1;omega
   clear g2 h2 QP QP2
   go_wp2
   refine Bo (fun w' => Below wr.heap.size wr w') rfl rfl (by kernel_rfl) (Ak (Below.refl _ _)) (fun HT => ?_)
   repeat (first
    | (refine BZ (fun wx hS => ?_))
    | ((with_reducible refine Bw (f:=76) rfl ?_);refine Bz (v:=.bool true) (args:=#[(pg xs k).val A2 c2,(pg ys k).val B2 d2]) HT rfl Tryz.func76 (by kernel_rfl) rfl rfl (by rfl) (fun _ _ _ h => h) (by simp only [List.map_toArray,List.map_cons,List.map_nil];rfl) (fun wx hS => (Rc (HS.out.2 k hlt).1 (HS.out.2 k hlt).2 hS G2.out hS H2.out).mono fun _ _ h => ⟨h.1,bj hS h.2⟩) ?_;simp only [sc0,sc1])
    | (refine BJ HT rfl (by rfl) (fun _ _ _ h => h) ?_;simp only [sc0,sc1])
    | (refine BX (v:=?_) HT rfl (by rfl) (fun _ _ _ h => h) (fun wx hS => ?_) ?_;rotate_left;(obtain ⟨x0,x1,x2⟩:=HQ.out.up hS;obtain ⟨y0,y1,y2⟩:=HQ2.out.up hS;go_simp;with_reducible rfl);rotate_left;simp only [sc0,sc1]))
   have HX:=As (bj HW.out hS)
   clear hS
   go_wp2
   go_roundw
   case rel => exact ⟨k + 1,by omega,by go_num,HX⟩
   case measure => simp [intOf];omega
  ·have HE:=As (show k = xs.length by omega)
   go_wp2
   go_ret
   exact ⟨rfl,HW.out⟩
theorem calls_cast {P : Program} {f : Nat} {xs ys : Array Value} {w : World} {Q : Ending → World → Prop} (h : Calls P f ys w Q) (e : xs = ys) : Calls P f xs w Q:=e ▸ h
def SlE (U : Eng) (v : Value) (wx : World) : Prop := ∃ D1 D2 D3 k1 k2 k3,v = U.val D1 D2 D3 k1 k2 k3 ∧ Dn wx U D1 D2 D3
theorem SlE.up {U : Eng} {v : Value} {w w1 : World} (h : SlE U v w) (hb : Below w.heap.size w w1) : SlE U v w1:=by
 obtain ⟨D1,D2,D3,k1,k2,k3,h1,h2⟩:=h
 exact ⟨D1,D2,D3,k1,k2,k3,h1,h2.up hb⟩
theorem IJ (w : World) : (Kd.int .i64).C w none 0 []:=⟨rfl,by simp,fun h0 => by simp at h0⟩
set_option maxRecDepth 100000 in
set_option maxHeartbeats 8000000 in
theorem Je {w0 w : World} {e : Eng} {C : Nat → Page} {B : Nat} {Ad Am Al : Option Addr} {cd cm cl : Nat} (n : Int) (hi : Inv e C B) (hB : B + 3 ≤ 150) (hcl : e.log.length ≤ cl) (hb : Below w0.heap.size w0 w) (hr : Dn w0 e Ad Am Al) : Calls Tryz.prog 34 #[e.val Ad Am Al cd cm cl, .int .i64 n] w (Tg w (KO e n)):=by
 have HR:=As (hr.up hb)
 have HI:=As hi
 clear hr hb
 obtain ⟨X,hX⟩ : ∃ X,AP e ⟨8,0,0,0,n, []⟩ = X:=⟨_,rfl⟩
 have HIX:=As (show Inv X C B by rw [← hX];exact (hi.PI n).1)
 rw [KO,hX]
 obtain ⟨E,hE⟩ : ∃ E,AP X ⟨9,0,0,0,150, []⟩ = E:=⟨_,rfl⟩
 rw [hE]
 have HX:=As hX
 have HE:=As hE
 clear hX hE hi
 have K0 : True:=trivial
 go_enter Tryz.func34,Tryz.ntmps34
 go_wp2_with (first
  | (clear K0;with_reducible refine Ai (vd:=.slice Ad e.disk.length cd) (vm:=.slice Am e.mem.length cm) (vl:=.slice Al e.log.length cl) e ?_;intro w1 hb1 hz1 hq1;clear hz1;have HB:=As hb1;have HQ:=As hq1;clear hb1 hq1;have K1 : True:=trivial)
  | (clear K1;refine Ai (vd:=.slice none 0 0) (vm:=.slice none 0 0) (vl:=.slice none 0 0) zE ?_;intro w3 hb1 hz1 hq1;have HBG:=As HB.out.size;have HZ:=As hz1;have hq:=HQ.out.up hb1;have HB0:=HB;replace HB:=As (bj HB.out hb1);have HP:=As hq1;have x0:=hq.c0;have x1:=hq.c1;have x2:=hq.c2;have x3:=hq.c3;have x4:=hq.c4;clear hb1 hz1 hq1 hq;have K2 : True:=trivial)
  | (clear K2;go_at_call 23;clear x0 x1 x2 x3 x4;refine (Ce (w0:=w) (cd:=cd) (cm:=cm) (cl:=cl) (c:=0) ⟨8,0,0,0,n, []⟩ HI.out hB hcl HB.out HR.out (IJ _)).mono ?_;rw [HX.out];rintro x w7 ⟨vd,vm,vl,rfl,ho,hb7⟩;obtain ⟨Xd,x1_,Xm,x2_,Xl,x3_,rfl,rfl,rfl,hcl,hc⟩:=ho.reads;have HXL:=As hcl;have HXC:=As hc;have HB7:=As hb7;clear ho hb7 hcl hc;have K3 : True:=trivial)
  | (clear K3;refine Ai (vd:=.slice Xd X.disk.length x1_) (vm:=.slice Xm X.mem.length x2_) (vl:=.slice Xl X.log.length x3_) X ?_;intro w8 hb8 hz8 hq8;have HB8:=As (bj HB7.out hb8);have HXC8:=As (HXC.out.up hb8);have x0:=hq8.c0;have x1:=hq8.c1;have x2:=hq8.c2;have x3:=hq8.c3;have x4:=hq8.c4;clear hb8 hz8 hq8;have K4 : True:=trivial)
  | (clear K4;go_at_call 23;clear x0 x1 x2 x3 x4;refine (Ce (w0:=w8) (cd:=x1_) (cm:=x2_) (cl:=x3_) (c:=0) ⟨9,0,0,0,150, []⟩ HIX.out hB HXL.out (Below.refl _ _) HXC8.out (IJ _)).mono ?_;rw [HE.out];rintro x w9 ⟨vd,vm,vl,rfl,ho,hb9⟩;obtain ⟨Ed,n1,Em,n2,El,n3,rfl,rfl,rfl, -, -⟩:=ho.reads;have HO:=As ho;have HS8:=As HB8.out.size;have HX9:=As (bj HB8.out hb9);have hp:=HP.out.up HX9.out;have HP2:=As hp;have y0:=hp.c0;have y1:=hp.c1;have y2:=hp.c2;have y3:=hp.c3;have y4:=hp.c4;have f0:=hp.frz 0;have f1:=hp.frz 1;have f2:=hp.frz 2;have f3:=hp.frz 3;have f4:=hp.frz 4;clear hp hb9 ho;have K5 : True:=trivial))
 have hs8:=HS8.out
 have hy:=HP2.out.Az E (.slice Ed E.disk.length n1) (.slice Em E.mem.length n2) (.slice El E.log.length n3)
 have h1:=HO.out.Az (f:=E) (xd:=.slice Ed E.disk.length n1) (xm:=.slice Em E.mem.length n2) (xl:=.slice El E.log.length n3) HP2.out
 have hge:=HBG.out
 have hzz:=HZ.out
 have h2:=Ao (g:=w1.heap.size) (bj HB.out HX9.out) hge E (.slice Ed E.disk.length n1) (.slice Em E.mem.length n2) (.slice El E.log.length n3)
 have z0:=hy.c0
 have z1:=hy.c1
 have z2:=hy.c2
 have z3:=hy.c3
 have z4:=hy.c4
 exact bodyPost_ret (v:=E.ag (.slice Ed E.disk.length n1) (.slice Em E.mem.length n2) (.slice El E.log.length n3)) (by simp [results,Tryz.results34,go_sem,z0,z1,z2,z3,z4]) rfl ⟨_,_,_,rfl,h1.lower (by omega),h2⟩
set_option maxRecDepth 100000 in
set_option maxHeartbeats 4000000 in
theorem MW {w0 w : World} {e : Eng} {Ad Am Al : Option Addr} {cd cm cl : Nat} (page : Int) (hok : eOk e = true) (hp : inB page 0 4 = true) (hcl : e.log.length ≤ cl) (hb : Below w0.heap.size w0 w) (hr : Dn w0 e Ad Am Al) : Calls Tryz.prog 33 #[e.val Ad Am Al cd cm cl, .int .i64 page] w fun x w' => x = .returned (.int .i64 (lk e.log page)) ∧ Below w.heap.size w w':=by
 have HR:=As (hr.up hb)
 clear hr hb
 obtain ⟨w1,hw1⟩ : ∃ w1,w.alloc (e.obox (.slice Ad e.disk.length cd) (.slice Am e.mem.length cm) (.slice Al e.log.length cl)) = w1:=⟨_,rfl⟩
 have HW1:=As hw1
 have HB1 : Ac (Below w.heap.size w w1):=⟨by rw [← hw1];exact Ah (Below.refl _ _) _⟩
 have HQ1 : Ac (Aj w1 w.heap.size e (.slice Ad e.disk.length cd) (.slice Am e.mem.length cm) (.slice Al e.log.length cl)):=⟨by rw [← hw1];exact Aj.mk1 _ _ _ _ _⟩
 clear hw1
 have x2:=HQ1.out.c2
 have HV:=As hok
 have HP:=As hp
 obtain ⟨b,hbb⟩ : ∃ b,FN e.log page (Cg e.log 3) 0 true = b:=⟨_,rfl⟩
 have hM : lk e.log page = b.1:=by rw [lk,hbb]
 rw [hM]
 have HBB:=As hbb
 clear hok hp hbb hM
 obtain ⟨by_,ok⟩:=b
 go_enter Tryz.func33,Tryz.ntmps33
 go_wp2_with (first
  | (go_at_call 26;rw [HW1.out];refine (AB (cd:=cd) (cm:=cm) HV.out hcl HB1.out HR.out).mono ?_;rintro x w2 ⟨rfl,hb2⟩;have HB2:=As (bj HB1.out hb2);replace x2:=bc hb2 x2;clear hb2)
  | (go_at_call 75;refine (BB page _).mono ?_;rw [HP.out];rintro x w' ⟨rfl,rfl⟩)
  | (go_at_call 67;refine (EM (c:=cl) page HB2.out HR.out.l (ED.1 HV.out).log).mono ?_;rw [HBB.out];rintro x w3 ⟨rfl,hb3⟩;have HB3:=As (bj HB2.out hb3);clear hb3))
 go_ret
 exact ⟨rfl,HB3.out⟩
set_option maxRecDepth 100000 in
set_option maxHeartbeats 4000000 in
theorem JG {w0 w : World} {e : Eng} {Ad Am Al : Option Addr} {cd cm cl : Nat} (tx page : Int) (hok : eOk e = true) (hcl : e.log.length ≤ cl) (hb : Below w0.heap.size w0 w) (hr : Dn w0 e Ad Am Al) : Calls Tryz.prog 32 #[e.val Ad Am Al cd cm cl, .int .i64 tx, .int .i64 page] w fun x w' => x = .returned (.bool (Dv e tx page)) ∧ Below w.heap.size w w':=by
 have HR:=As (hr.up hb)
 clear hr hb
 obtain ⟨w1,hw1⟩ : ∃ w1,w.alloc (e.obox (.slice Ad e.disk.length cd) (.slice Am e.mem.length cm) (.slice Al e.log.length cl)) = w1:=⟨_,rfl⟩
 have HW1:=As hw1
 have HB1 : Ac (Below w.heap.size w w1):=⟨by rw [← hw1];exact Ah (Below.refl _ _) _⟩
 have HQ1 : Ac (Aj w1 w.heap.size e (.slice Ad e.disk.length cd) (.slice Am e.mem.length cm) (.slice Al e.log.length cl)):=⟨by rw [← hw1];exact Aj.mk1 _ _ _ _ _⟩
 have x0:=HQ1.out.c0
 have x1:=HQ1.out.c1
 have x2:=HQ1.out.c2
 have x3:=HQ1.out.c3
 have x4:=HQ1.out.c4
 have HV:=As hok
 clear hok hw1
 go_enter Tryz.func32,Tryz.ntmps32
 go_wp2_with (first
  | (go_at_call 26;rw [HW1.out];refine (AB (cd:=cd) (cm:=cm) HV.out hcl HB1.out HR.out).mono ?_;rintro x w2 ⟨rfl,hb2⟩;have HB2:=As hb2;clear x0 x1 x2 x3 x4 hb2)
  | (go_at_call 74;refine (Oh tx page (ED.1 HV.out).log (HQ1.out.up HB2.out) (HR.out.up (bj HB1.out HB2.out))).mono ?_;rintro x w3 ⟨rfl,hb3⟩;have HB3:=As (bj HB1.out (bj HB2.out hb3));clear hb3))
 go_ret
 exact ⟨rfl,HB3.out⟩
set_option maxRecDepth 100000 in
set_option maxHeartbeats 4000000 in
theorem Pf {w0 w : World} {A : Option Addr} {c : Nat} {l : List Rec} (hl : AQ l = true) (hb : Below w0.heap.size w0 w) (hr : Kd.C Ca w0 A l.length l) : Calls Tryz.prog 30 #[.slice A l.length c] w (UQ w (Cg l 3)):=by
 have HR:=As (BF hr hb)
 have HL:=As hl
 clear hr hb hl
 go_enter Tryz.func30,Tryz.ntmps30
 go_wp2_with (first
  | (go_at_call 29;refine (Ec (c:=c) (b:=true) HL.out (Below.refl _ _) HR.out).mono ?_;rintro x w2 ⟨rfl,hb2⟩;have HB2:=As hb2;clear hb2)
  | (go_at_call 45;refine (Fs (c:=c) HB2.out HR.out).mono ?_;rintro x w3 ⟨v,rfl,ho,hb3⟩;have HO:=As (ho.lower HB2.out.size);have HB3:=As (bj HB2.out hb3);clear ho hb3))
 go_ret
 exact ⟨_,rfl,HO.out,HB3.out⟩
end Go.Proofs.YtklmhkglcfjclaaGreat
