/- A part of the proof: what the last text of the claim says leans on this one. -/
import Derived.Test.YtofgeajaajfiaaaGreatZD1
import Derived.Test.YtofgeajaajfiaaaGreatZO1
import Derived.Test.YtofgeajaajfiaaaGreatZV1
import Derived.Test.YtofgeajaajfiaaaGreatZN2
import Derived.Test.YtofgeajaajfiaaaGreatZV2
import Derived.Test.YtofgeajaajfiaaaGreatZP1
import Derived.Test.YtofgeajaajfiaaaGreatZA2
set_option linter.unusedVariables false
set_option linter.unusedSimpArgs false
namespace Go.Proofs.YtofgeajaajfiaaaGreat
open Go.RowKit Go.Proofs.YtofgeajaajfiaaaGreatW.PrintWords Go.Proofs.YtofgeajaajfiaaaGreatW.PrintLast Go.Proofs.YtofgeajaajfiaaaGreatW.PrintMore
section
variable {ops : Array Oper} {rest : List Oper} {o : Oper} {a : Act} {Q : Exit → Act → World → Prop}
theorem Pj {W : World} {base N : Nat} {v u : Value} {ps : List Evt} {p : Evt} (hgd : o.guard = none) (s x : Operand)
  (ho : o.op = .call { callee:=.builtin .append,args:=#[s,x],argTypes:=#[23,23] }) (hs : a.eval s = v) (hx : a.eval x = .slice (some ⟨W.heap.size,0,none⟩) 1 1)
  (hp : AL W N u p.vals) (HO : V3 W base (fun k => base ≤ k ∧ k < N) v ps) (hbase : base ≤ W.heap.size) (hl : ps.length + 1 ≤ 1000) (hN : base ≤ N)
  (h : ∀ v1 w1,IL w1 base v1 (ps ++ [p]) → Below base W w1 → W.grownBy w1 v.ownBlock → wpList Tryz.prog ops Q rest (a.put o.dst v1) w1) :
  wpList Tryz.prog ops Q (o :: rest) a (W.alloc (.cells #[.int .i64 p.kind, .int .i64 p.tx, .int .i64 p.page, .int .i64 p.slot, .int .i64 p.n,u] 36)):=by
 have hv:=VT HO
 refine Kd.SQ kEvt base hgd s x 23 36 _ 64 ho Te WJ rfl (by decide) (by decide) v ps p [.int .i64 p.kind, .int .i64 p.tx, .int .i64 p.page, .int .i64 p.slot, .int .i64 p.n,u] (fun _ => True) (fun k => some k = u.ownBlock) hs hx ?_ (fun k hk => ⟨trivial,fun e => ?_⟩) (fun _ _ => trivial) (Kd.Dl HO (fun k hk => ⟨trivial,fun e => ?_⟩)) (Below.refl _ W) hbase (by omega) (fun v1 w1 h1 h2 h3 _ => h v1 w1 h1 h2 h3)
 ·exact WG W _ _ p (Kd.EQ (En hp hN) (fun k hk => hk.symm))
 ·have h1:=Ck hp k hk.symm
  have h2:=(hv k e.symm).2
  omega
 ·have h1:=Ck hp k e.symm
  have h2:=hk.2
  omega
end
section
variable {w w1 : World} {b : Nat} {u vd vm vl V : Value} {e : Eng} {vs : List Evt} {xs : List Int} {S : Nat → Prop}
theorem AL.Jg (h : AL w b u xs) (hk : AZ w w1) : AL w1 b u xs:=by
 have h1 : RI w b (fun k => some k = u.ownBlock) u xs:=Kd.EQ h (fun k hk => hk.symm)
 have h2 : RI w1 b (fun k => some k = u.ownBlock) u xs:=Kd.M9 (S:=fun k => ¬ ∃ c,w.heap[k]? = some (.cells c 3 (0,0))) h1 ⟨hk.1,fun k _ hn => by
  obtain ⟨c,hc⟩:=Classical.not_not.1 hn
  exact (hk.2 k c _ (by decide) hc).trans hc.symm⟩ (fun k ho hn => hn (Dy h k ho.symm))
 exact Kd.J5 h2
theorem VB : ∀ q ∈ (36 :: kEvt.E),q ≠ 41:=by decide
theorem Tx : ∀ q ∈ (41 :: Dw.E),q ≠ 36:=by decide
theorem IL.Jg (h : IL w b V vs) (hk : AZ w w1) : IL w1 b V vs:=by
 refine Kd.Dl (Kd.IY (S:=fun k => ¬ ∃ c t,t ≠ 41 ∧ w.heap[k]? = some (.cells c t (0,0))) (Kd.DY h) ⟨hk.1,fun k _ hn => ?_⟩ (fun k ho hn => hn ?_)) (fun _ _ => trivial)
 ·obtain ⟨c,t,ht,hc⟩:=Classical.not_not.1 hn
  exact (hk.2 k c t ht hc).trans hc.symm
 ·obtain ⟨-, -, -,q,hq,c,hc⟩:=ho
  exact ⟨c,q,VB q hq,hc⟩
theorem Ki {k : Nat} {c d : Array Value} {q t : TypeId} (h : w.heap[k]? = some (.cells c q (0,0))) (h2 : w.heap[k]? = some (.cells d t (0,0))) : q = t:=by
 rw [h] at h2
 injection h2 with h2
 injection h2 with _ h3
theorem AO.YG (h : AO w b vd vm vl e) (hk : Kept w w1 S) (hS : ∀ k,S k → ∃ d,w.heap[k]? = some (.cells d 36 (0,0))) : AO w1 b vd vm vl e:=by
 obtain ⟨⟨okd,okm,h1,h2,h3⟩,h4⟩:=h
 have key : ∀ k,(∃ q,q ∈ 41 :: Dw.E ∧ ∃ cells,w.heap[k]? = some (.cells cells q (0,0))) → ¬ S k:=by
  rintro k ⟨q,hq,c,hc⟩ hs
  obtain ⟨d,hd⟩:=hS k hs
  exact Tx q hq (Ki hc hd)
 refine ⟨⟨okd,okm,h1,Kd.Dl (Kd.IY (Kd.DY h2) hk (fun k ho => key k ho.2.2.2)) (fun _ h => h.1),Kd.Dl (Kd.IY (Kd.DY h3) hk (fun k ho => key k ho.2.2.2)) (fun _ h => h.1)⟩,Kd.ED (Kd.M9 (Kd.Oo rfl h4) hk (fun k ho hs => ?_)) (fun _ _ => trivial)⟩
 obtain ⟨inner,ho2⟩:=Kd.LC h4
 obtain ⟨c,hc⟩:=Dy ho2 k ho.symm
 obtain ⟨d,hd⟩:=hS k hs
 exact absurd (Ki hc hd) (by decide)
end
theorem eg_types : ∀ q ∈ (36 :: kEvt.E),q ≠ 28:=by decide
theorem IL.FQ {w : World} {b g : Nat} {V ud um ul : Value} {vs : List Evt} {q : Eng} (h : IL w b V vs) (hq : Ac w g q ud um ul) (f : Eng) (xd xm xl : Value) : IL (Go.Proofs.YtofgeajaajfiaaaGreat.Ao w g f xd xm xl) b V vs:=
 Kd.Dl (Kd.IY (Kd.DY h) ((((((Kept.refl w (fun k => k = g)).setCell (p:=⟨g,0,none⟩) (.inl rfl) _).setCell (p:=⟨g,1,none⟩) (.inl rfl) _).setCell (p:=⟨g,2,none⟩) (.inl rfl) _).setCell (p:=⟨g,3,none⟩) (.inl rfl) _).setCell (p:=⟨g,4,none⟩) (.inl rfl) _) (fun k ho e => by
  obtain ⟨-, -, -,q,hq2,c,hc⟩:=ho
  subst e
  exact eg_types q hq2 (Ki hc hq.blk))) (fun _ _ => trivial)
theorem AL.YH {w w1 : World} {b : Nat} {u : Value} {xs : List Int} {row : Option Nat} (h : AL w b u xs) (hg : w.grownBy w1 row) (hne : ∀ k,u.ownBlock = some k → row ≠ some k) : AL w1 b u xs:=by
 have h1 : RI w b (fun k => some k = u.ownBlock) u xs:=Kd.EQ h (fun k hk => hk.symm)
 have h2 : RI w1 b (fun k => some k = u.ownBlock) u xs:=Kd.M9 h1 (Kept.Ib hg (Kept.refl w (fun k => row = some k)) (fun k e => .inl e)) (fun k ho hs => hne k ho.symm hs)
 exact Kd.J5 h2
structure Pl (wB w wr : World) (g gE : Nat) (A : Option Addr) (n c : Nat) (p : Int) (vd vm vl : Value) (e : Eng) (V : Value) (vs : List Evt) : Prop where
 rd : ∃ q,0 ≤ q ∧ q ≤ p ∧ D6 wr g A n c q
 box : Ac wr gE e vd vm vl
 own : AO wr w.heap.size vd vm vl e
 evs : IL wr w.heap.size V vs
 wro : Wrote w wr (fun j => j = g)
 bel : Below wB.heap.size wB wr
 ge : w.heap.size < gE
 bz : Ac wr w.heap.size zE (.slice none 0 0) (.slice none 0 0) (.slice none 0 0)
 hgw : g < w.heap.size
 hBg : wB.heap.size ≤ g
section
variable {wB w wr w1 : World} {g gE n c : Nat} {A : Option Addr} {p p' : Int} {e f : Eng} {vd vm vl xd xm xl V V1 : Value} {vs vs1 : List Evt}
theorem Pl.below (h : Pl wB w wr g gE A n c p vd vm vl e V vs) (hb : Below wr.heap.size wr w1) : Pl wB w w1 g gE A n c p vd vm vl e V vs:=by
 obtain ⟨q,h0,h1,hq⟩:=h.rd
 exact ⟨⟨q,h0,h1,hq.up hb⟩,h.box.up hb,h.own.below hb,Kd.BG h.evs hb,h.wro.CX (Wrote.of_below hb (fun j => j = g)) (fun _ h => .inl h),bj h.bel hb,h.ge,h.bz.up hb,h.hgw,h.hBg⟩
theorem Pl.drawn (h : Pl wB w wr g gE A n c p vd vm vl e V vs) (hr : ∃ q,0 ≤ q ∧ q ≤ p' ∧ D6 w1 g A n c q) (hw : Wrote wr w1 (fun j => j = g)) : Pl wB w w1 g gE A n c p' vd vm vl e V vs:=by
 have hgw:=h.hgw
 have hge:=h.ge
 exact ⟨hr,(hw.kept.2 _ h.box.lt (by omega)).trans h.box,(h.own.toK.kept hw.kept (fun k hk e => by omega)).E,Kd.Dl (Kd.IY (Kd.DY h.evs) hw.kept (fun k hk e => by have:=hk.2.1;omega)) (fun _ _ => trivial),h.wro.CX hw (fun _ h => .inl h),h.bel.trans (hw.bel (fun k hk => by have:=h.hBg;omega) h.bel.size),h.ge,(hw.kept.2 _ h.bz.lt (by omega)).trans h.bz,h.hgw,h.hBg⟩
theorem Pl.old (h : Pl wB w wr g gE A n c p vd vm vl e V vs) (hw : Wrote wr w1 (fun j => j = g)) : V3 w1 w.heap.size (fun k => w.heap.size ≤ k ∧ k < wr.heap.size) V vs:=
 Kd.Dl (Kd.IY (Kd.DY h.evs) hw.kept (fun k hk e => by have:=hk.2.1;have:=h.hgw;omega)) (fun k hk => ⟨hk.2.1,hk.2.2.1⟩)
theorem Pl.added (h : Pl wB w wr g gE A n c p vd vm vl e V vs) (hV : IL w1 w.heap.size V1 vs1) (hb : Below w.heap.size wr w1) (hg : wr.grownBy w1 V.ownBlock) : Pl wB w w1 g gE A n c p vd vm vl e V1 vs1:=by
 obtain ⟨q,h0,h1,hq⟩:=h.rd
 have hk : Kept wr w1 (fun k => V.ownBlock = some k):=Kept.Ib hg (Kept.refl _ _) (fun k e => .inl e)
 have hge:=h.ge
 have hgw:=h.hgw
 have ht:=Kd.Fw h.evs
 refine ⟨⟨q,h0,h1,(hb.block g hgw).trans hq⟩,(hk.2 gE h.box.lt (fun e => ?_)).trans h.box,h.own.YG hk ht,hV,⟨hb.os.trans h.wro.os,hb.tape.trans h.wro.tape,hb.output.trans h.wro.output,Nat.le_trans h.wro.kept.1 hb.size,fun k hk1 hn => (hb.block k hk1).trans (h.wro.kept.2 k hk1 hn)⟩,h.bel.trans (hb.mono (by have:=h.hBg;omega)),h.ge,(hk.2 _ h.bz.lt (fun e => ?_)).trans h.bz,h.hgw,h.hBg⟩
 ·obtain ⟨d,hd⟩:=ht gE e
  exact absurd (Ki h.box.blk hd) (by decide)
 ·obtain ⟨d,hd⟩:=ht _ e
  exact absurd (Ki h.bz.blk hd) (by decide)
theorem Pl.Y0 {u1 u2 u3 : Value} (h : Pl wB w wr g gE A n c p vd vm vl e V vs) (ho : AO w1 w.heap.size u1 u2 u3 f) (hb : Below w.heap.size wr w1) (hk : AZ wr w1) : Pl wB w (Go.Proofs.YtofgeajaajfiaaaGreat.Ao w1 gE f u1 u2 u3) g gE A n c p u1 u2 u3 f V vs:=by
 obtain ⟨q,h0,h1,hq⟩:=h.rd
 have hge : w.heap.size ≤ gE:=Nat.le_of_lt h.ge
 have hne : gE ≠ w.heap.size:=Nat.ne_of_gt h.ge
 have hgw:=h.hgw
 have hbx : Ac w1 gE e vd vm vl:=h.box.Jg hk
 have hb5 : Below w.heap.size wr (Go.Proofs.YtofgeajaajfiaaaGreat.Ao w1 gE f u1 u2 u3):=((((hb.setCell (p:=⟨gE,0,none⟩) hge _).setCell (p:=⟨gE,1,none⟩) hge _).setCell (p:=⟨gE,2,none⟩) hge _).setCell (p:=⟨gE,3,none⟩) hge _).setCell (p:=⟨gE,4,none⟩) hge _
 refine ⟨⟨q,h0,h1,(hb5.block g hgw).trans hq⟩,hbx.Ao f u1 u2 u3,ho.Ao (f:=f) hbx,?_,⟨hb5.os.trans h.wro.os,hb5.tape.trans h.wro.tape,hb5.output.trans h.wro.output,Nat.le_trans h.wro.kept.1 hb5.size,fun k hk1 hn => (hb5.block k hk1).trans (h.wro.kept.2 k hk1 hn)⟩,h.bel.trans (hb5.mono (by have:=h.hBg;omega)),h.ge,(((((h.bz.Jg hk).far hne _ _).far hne _ _).far hne _ _).far hne _ _).far hne _ _,h.hgw,h.hBg⟩
 exact (h.evs.Jg hk).FQ hbx f u1 u2 u3
theorem AL.C2 {b m d : Nat} {B : Option Addr} {xs : List Int} (h : AL wr b (.slice B m d) xs) : Kd.C (Kd.int .i64) wr B xs.length xs:=by
 obtain ⟨A2,c2,h1, -,h2⟩:=h.reads
 injection h1 with h1
 subst h1
 exact h2
theorem Pl.l22 {b c2 : Nat} {A2 : Option Addr} (v : Evt) (hi : ∃ C,Inv e C (3 * 40)) (h : Pl wB w wr g gE A n c p vd vm vl e V vs) (hu : AL wr b (.slice A2 v.vals.length c2) v.vals) : Calls Tryz.prog 39 #[e.ag vd vm vl,v.val A2 c2] wr fun x w1 => ∃ u1 u2 u3,x = .returned ((Az e v).ag u1 u2 u3) ∧ AO w1 w.heap.size u1 u2 u3 (Az e v) ∧ Below w.heap.size wr w1 ∧ AZ wr w1:=by
 obtain ⟨C,hi⟩:=hi
 obtain ⟨w0,hz,hb0⟩:=base_of wr (n:=w.heap.size) h.wro.kept.1
 refine (KG (w0:=w0) (c:=c2) v hi (by omega) (by rw [hz];exact hb0) (by rw [hz];exact h.own) (fun wx _ hk => (hu.Jg hk).C2)).mono ?_
 rintro x w1 ⟨u1,u2,u3,rfl,ho,hb,hk⟩
 rw [hz] at ho hb
 exact ⟨u1,u2,u3,rfl,ho,⟨hb.os.trans hb0.os.symm,hb.tape.trans hb0.tape.symm,hb.output.trans hb0.output.symm,hk.1,fun k hk1 => (hb.block k hk1).trans (hb0.block k hk1).symm⟩,hk⟩
end
theorem inv_all (vs : List Evt) (h : vs.length ≤ 40) : ∃ C,Inv (runE newE vs) C (3 * 40):=by
 have:=Pf vs vs.length h
 rwa [List.take_length] at this
theorem Xa {P : Program} {ops : Array Oper} {l : List Oper} {Q : Exit → Act → World → Prop} {a : Act} {W : World} (h : ∀ w1,Below W.heap.size W w1 → w1.heap.size = W.heap.size + 1 → (∀ base,base ≤ W.heap.size → IL w1 base (.slice (some ⟨W.heap.size,0,none⟩) 0 0) []) → wpList P ops Q l a w1) : wpList P ops Q l a (W.alloc (.cells #[] 36)):=
 h _ (Ab (Below.refl _ _) _) (BJ _ _) (fun base hb => ⟨fun _ => 0,fun _ _ => trivial, [],own_none' _ 6 rfl hb,Reps.none _ _⟩)
end Go.Proofs.YtofgeajaajfiaaaGreat
namespace Go.Proofs.YtofgeajaajfiaaaGreat
open Go.RowKit Go.Proofs.YtofgeajaajfiaaaGreatW.PrintWords Go.Proofs.YtofgeajaajfiaaaGreatW.PrintLast Go.Proofs.YtofgeajaajfiaaaGreatW.PrintMore
def Xz (w : World) (g : Nat) (A : Option Addr) (n c : Nat) (p : Int) (x : Ending) (w' : World) : Prop := ∃ (V : Value) (vs : List Evt) (E : Eng) (B1 B2 B3 : Option Addr) (d1 d2 d3 : Nat),x = .returned (.tuple #[V,E.val B1 B2 B3 d1 d2 d3]) ∧ IL w' w.heap.size V vs ∧ vs.length ≤ 36 ∧ (∃ q,0 ≤ q ∧ q ≤ p + 1000 ∧ D6 w' g A n c q) ∧ Wrote w w' (fun j => j = g)
theorem Vj (vs : List Evt) (v : Evt) : runE newE (vs ++ [v]) = Az (runE newE vs) v:=Hq vs newE v
set_option maxRecDepth 100000 in
set_option maxHeartbeats 16000000 in
theorem PE {wB w : World} {g c : Nat} {A : Option Addr} {xs : List Int} {p : Int} (hp0 : 0 ≤ p) (hp1 : p ≤ 100000) (hn : xs.length ≤ 2000) (hx : Bytes xs) (hb : Below wB.heap.size wB w) (hg : wB.heap.size ≤ g) (hr : Kd.C (Kd.int .u8) wB A xs.length xs) (hq : D6 w g A xs.length c p) : Calls Tryz.prog 36 #[.pointer (some ⟨g,0,none⟩)] w (Xz w g A xs.length c p):=by
 have HP:=As (And.intro hp0 hp1)
 have HN:=As hn
 have HXS:=As hx
 have HR:=As hr
 have HQ:=As hq
 have HB:=As hb
 have HG:=As hg
 have HONE : True:=trivial
 clear hp0 hp1 hn hx hb hg hr hq
 go_enter Tryz.func36,Tryz.ntmps36
 go_wp2_with (first
  | (refine Ag (vd:=.slice none 0 0) (vm:=.slice none 0 0) (vl:=.slice none 0 0) zE ?_;clear HONE;intro w1 hb1 hz1 hq1;have HZ1:=As hz1;have HB1:=As hb1;have HP1:=As hq1;clear hb1 hz1 hq1)
  | (go_at_call 38;refine (F7 w1).mono ?_;rintro x w2 ⟨vd,vm,vl,rfl,ho,hb2⟩;obtain ⟨Ed,n1,Em,n2,El,n3,rfl,rfl,rfl, -, -⟩:=ho.reads;have HO:=As ho;have HB2:=As hb2;clear hb2 ho)
  | (refine Ag (vd:=.slice Ed newE.disk.length n1) (vm:=.slice Em newE.mem.length n2) (vl:=.slice El newE.log.length n3) newE ?_;intro w3 hb3 hz3 hq3;clear hz3;have HO3:=As (HO.out.below hb3);have HB3:=As (bj HB2.out hb3);have HQ3:=As hq3;clear hb3 hq3)
  | (with_reducible refine Xa ?_;intro w4 hb4 hz4 hv4;have HB4:=As hb4;have HV4:=As (hv4 w.heap.size (by have h1:=HB1.out.size;have h2:=HB3.out.size;omega));clear hb4 hz4 hv4)
  | (go_at_call 37;refine (Jy (wB:=wB) HP.out.1 (by have:=HP.out;omega) (by decide) (by decide) HN.out HXS.out (bj HB.out (bj HB1.out (bj HB3.out HB4.out))) HG.out HR.out (HQ.out.up (bj HB1.out (bj HB3.out HB4.out)))).mono ?_;rintro x w5 ⟨N,rfl,hk,hrd,hw⟩;obtain ⟨hN0,hN1⟩:=hk (by decide);clear hk;obtain ⟨N,rfl⟩:=Int.eq_ofNat_of_zero_le hN0;have h14:=bj HB3.out HB4.out;have hgw:=HQ.out.lt;have hz1:=HZ1.out;have hsz:=HB2.out.size;have hP4 : Pl wB w w4 g w2.heap.size A xs.length c p (.slice Ed newE.disk.length n1) (.slice Em newE.mem.length n2) (.slice El newE.log.length n3) newE (.slice (some ⟨w3.heap.size,0,none⟩) 0 0) []:=⟨⟨p,HP.out.1,Int.le_refl _,HQ.out.up (bj HB1.out h14)⟩,HQ3.out.up HB4.out,(HO3.out.below HB4.out).lower (by omega),HV4.out,Wrote.of_below (bj HB1.out h14) _,bj HB.out (bj HB1.out h14),by omega,HP1.out.up h14,hgw,HG.out⟩;have HPL:=As (hP4.drawn (p':=p + 1) ⟨_,by have:=HP.out;omega,Int.le_refl _,hrd⟩ hw);clear hrd hw h14 hgw hz1 hsz hP4))
 go_loopw [5,6] (fun x i wr => ∃ (k : Nat) (vs : List Evt) (V vd vm vl : Value),V = x ∧ k ≤ N ∧ i = .int .i64 ((N : Int) - k) ∧ vs.length = k ∧ Aa (Pl wB w wr g w2.heap.size A xs.length c (p + 1 + 12 * k) vd vm vl (runE newE vs) V vs)) (fun _ i _ => (intOf i).toNat)
 case atStart => exact ⟨0, [],_,_,_,_,rfl,Nat.zero_le _,by simp,rfl,⟨by rw [show p + 1 + 12 * ((0 : Nat) : Int) = p + 1 by simp];exact HPL.out⟩⟩
 case round =>
  obtain ⟨k,vs,V,vd,vm,vl,rfl,hk,rfl,hlen,HPK⟩:=hrel
  have HLEN:=As hlen
  obtain ⟨C0,hI⟩:=inv_all vs (by omega)
  have HI:=As hI
  obtain ⟨Ed',m1,Em',m2,El',m3,rfl,rfl,rfl,hcl,hrdE⟩:=HPK.out.own.reads
  have HRDE:=As hrdE
  obtain ⟨X,hX⟩ : ∃ X,runE newE vs = X:=⟨_,rfl⟩
  rw [hX] at HPK HI HRDE
  have HX:=As hX
  clear hlen hcl hX hI hrdE
  have x0:=HPK.out.box.c0
  have x1:=HPK.out.box.c1
  have x2:=HPK.out.box.c2
  have x3:=HPK.out.box.c3
  have x4:=HPK.out.box.c4
  by_cases hlt : k < N
  ·have hi0 : decide ((0 : Int) < (N : Int) - (k : Int)) = true:=by simp;omega
   go_wp2_with (first
    | (go_at_call 70;obtain ⟨q,hq0,hq1,hrd⟩:=HPK.out.rd;refine (P8 (wB:=wB) hq0 (by have:=HP.out;omega) HN.out HXS.out HPK.out.bel HPK.out.hBg HR.out hrd HPK.out.own HPK.out.hgw HI.out.mlen HI.out.core.log).mono ?_;clear hrd;rintro x w5 ⟨v,u,rfl,hu,hl3,⟨q',hq2,hq3,hrd⟩,hw⟩;obtain ⟨A3,c3,rfl, -, -⟩:=hu.reads;have HU5:=As hu;have HOLD:=As (HPK.out.old hw);have HN5:=As hw.kept.1;have HP5:=As (HPK.out.drawn (p':=p + 1 + 12 * ((k + 1 : Nat) : Int)) ⟨q',by omega,by push_cast;omega,hrd⟩ hw);clear hu hw hrd hq0 hq1 hq2 hq3 hl3 x0 x1 x2 x3 x4)
    | (with_reducible refine EJ (A:=A3) (c:=c3) v ?_;intro w6 hb6 hz6 hq6;clear hz6;have HU6:=As (HU5.out.below hb6);have HO6:=As (Kd.BG HOLD.out hb6);have HP6:=As (HP5.out.below hb6);have HV6:=As hq6;have HN6:=As hb6.size;clear hb6 hq6;have v0:=HV6.out.c0;have v1:=HV6.out.c1;have v2:=HV6.out.c2;have v3:=HV6.out.c3;have v4:=HV6.out.c4;have v5:=HV6.out.c5)
    | (at_builtin;refine Pj (W:=w6) (base:=w.heap.size) (N:=wr.heap.size) rfl (.tmp 19) (.tmp 21) rfl rfl rfl HU6.out HO6.out HP6.out.wro.kept.1 (by have:=HLEN.out;omega) HPK.out.wro.kept.1 ?_;intro V1 w7 hV7 hb7 hg7;have hn : ∀ k,(Value.slice A3 v.vals.length c3).ownBlock = some k → V.ownBlock ≠ some k:=(fun m hm e => by have h1:=Ck HU6.out m hm;have h2:=(VT HO6.out m e).2;omega);have HU7:=As (HU6.out.YH hg7 hn);have hbk : V.ownBlock ≠ some w5.heap.size:=(fun e => by have h1:=(VT HO6.out _ e).2;have h2:=HN5.out;omega);have hv7 : EvBox w7 w5.heap.size v A3 c3:=((hg7.block _ HV6.out.lt (fun e => hbk e.symm)).trans HV6.out);have HP7:=As (HP6.out.added hV7 hb7 hg7);clear hV7 hb7 hg7 hn hbk;clear v0 v1 v2 v3 v4 v5;have v0:=hv7.c0;have v1:=hv7.c1;have v2:=hv7.c2;have v3:=hv7.c3;have v4:=hv7.c4;have v5:=hv7.c5;clear hv7;have x0:=HP7.out.box.c0;have x1:=HP7.out.box.c1;have x2:=HP7.out.box.c2;have x3:=HP7.out.box.c3;have x4:=HP7.out.box.c4)
    | (go_at_call 39;refine (HP7.out.l22 (c2:=c3) v ⟨C0,HI.out⟩ HU7.out).mono ?_;rintro x w8 ⟨u1,u2,u3,rfl,ho,hb8,hk8⟩;obtain ⟨Fd,k1,Fm,k2,Fl,k3,rfl,rfl,rfl, -, -⟩:=ho.reads;have HP8:=As (HP7.out.Y0 ho hb8 hk8);have hy:=HP7.out.box.Jg hk8;clear x0 x1 x2 x3 x4 v0 v1 v2 v3 v4 v5 ho hb8 hk8;have y0:=hy.c0;have y1:=hy.c1;have y2:=hy.c2;have y3:=hy.c3;have y4:=hy.c4;have f0:=hy.frz 0;have f1:=hy.frz 1;have f2:=hy.frz 2;have f3:=hy.frz 3;have f4:=hy.frz 4;clear hy))
   go_roundw
   case rel => exact ⟨k + 1,vs ++ [v],_,_,_,_,rfl,by omega,by go_num,by simp [HLEN.out],⟨by rw [Vj,HX.out];exact HP8.out⟩⟩
   case measure => simp [intOf];omega
  ·have hi0 : decide ((0 : Int) < (N : Int) - (k : Int)) = false:=by simp;omega
   go_wp2_with (first | (go_at_call 71;refine (PN (cd:=m1) (cm:=m2) (cl:=m3) (Ak (Cv.2 ⟨HI.out.core.dlen,HI.out.core.dok⟩)) (Ak HI.out.FT) (Bo HI.out.core.log) (Below.refl _ _) HRDE.out).mono ?_;rintro x w6 ⟨ud,um,ul,rfl,ho,hb6⟩;obtain ⟨Fd,k1,Fm,k2,Fl,k3,rfl,rfl,rfl, -, -⟩:=ho.reads;have HP6:=As (HPK.out.below hb6);clear ho hb6 x0 x1 x2 x3 x4;have hy:=HP6.out.bz;have y0:=hy.c0;have y1:=hy.c1;have y2:=hy.c2;have y3:=hy.c3;have y4:=hy.c4;have f0:=hy.frz 0;have f1:=hy.frz 1;have f2:=hy.frz 2;have f3:=hy.frz 3;have f4:=hy.frz 4;clear hy))
   have hy:=HP6.out.bz.Ao X (.slice Fd X.disk.length k1) (.slice Fm X.mem.length k2) (.slice Fl X.log.length k3)
   have z0:=hy.c0
   have z1:=hy.c1
   have z2:=hy.c2
   have z3:=hy.c3
   have z4:=hy.c4
   obtain ⟨q,hq0,hq1,hrd⟩:=HP6.out.rd
   have hgw:=HP6.out.hgw
   exact bodyPost_ret (v:=.tuple #[V,X.ag (.slice Fd X.disk.length k1) (.slice Fm X.mem.length k2) (.slice Fl X.log.length k3)]) (by simp [results,Tryz.results36,go_sem,z0,z1,z2,z3,z4]) rfl ⟨V,vs,X,_,_,_,_,_,_,rfl,HP6.out.evs.FQ HP6.out.bz X _ _ _,by have:=HLEN.out;omega,⟨q,hq0,by omega,((((hrd.far (by omega) _ _).far (by omega) _ _).far (by omega) _ _).far (by omega) _ _).far (by omega) _ _⟩,((((HP6.out.wro.setCell (.inr (Nat.le_refl _)) _).setCell (.inr (Nat.le_refl _)) _).setCell (.inr (Nat.le_refl _)) _).setCell (.inr (Nat.le_refl _)) _).setCell (.inr (Nat.le_refl _)) _⟩
theorem Bytes.take {xs : List Int} (h : Bytes xs) (n : Nat) : Bytes (xs.take n):=fun x hx => h x (List.mem_of_mem_take hx)
theorem D6.mk1 (w : World) (A : Option Addr) (n c : Nat) (p : Int) : D6 (w.alloc (.cells #[.slice A n c, .int .i64 p] 86)) w.heap.size A n c p:=by
 show (w.heap.push _)[w.heap.size]? = _
 simp
def XB (w : World) (A : Option Addr) (xs : List Int) (x : Ending) (w' : World) : Prop := ∃ (g m d : Nat),x = .returned (.pointer (some ⟨g,0,none⟩)) ∧ w.heap.size ≤ g ∧ (xs.take m).length ≤ 2000 ∧ m ≤ xs.length ∧ D6 w' g A (xs.take m).length d 0 ∧ Below w.heap.size w w'
set_option maxRecDepth 100000 in
set_option maxHeartbeats 4000000 in
theorem QH {w : World} {A : Option Addr} {c : Nat} {xs : List Int} (hcap : xs.length ≤ c) (hm : xs.length ≤ 9223372036854775807) : Calls Tryz.prog 35 #[.slice A xs.length c] w (XB w A xs):=by
 by_cases hl : 2000 < xs.length
 ·have h1 : decide ((2000 : Int) < (xs.length : Int)) = true:=by simp;omega
  have h2 : (2000 : Int) ≤ (c : Int):=by omega
  go_enter Tryz.func35,Tryz.ntmps35
  go_wp2
  go_ret
  exact ⟨w.heap.size,2000,c,rfl,Nat.le_refl _,by rw [List.length_take];omega,by omega,by rw [show (xs.take 2000).length = 2000 by rw [List.length_take];omega];exact D6.mk1 _ _ _ _ _,Ab (Below.refl _ _) _⟩
 ·have h1 : decide ((2000 : Int) < (xs.length : Int)) = false:=by simp;omega
  go_enter Tryz.func35,Tryz.ntmps35
  go_wp2
  go_ret
  exact ⟨w.heap.size,xs.length,c,rfl,Nat.le_refl _,by rw [List.length_take];omega,Nat.le_refl _,by rw [List.take_length];exact D6.mk1 _ _ _ _ _,Ab (Below.refl _ _) _⟩
def YF : Value → Nat
 | .slice _ n _ => n
 | _ => 0
def UW (w : World) (x : Ending) (w' : World) : Prop := ∃ (V : Value) (vs : List Evt),x = .returned V ∧ IL w' w.heap.size V vs ∧ vs.length ≤ 41 ∧ Below w.heap.size w w'
set_option maxRecDepth 100000 in
set_option maxHeartbeats 8000000 in
theorem EI {w0 w : World} {A : Option Addr} {c : Nat} {xs : List Int} (hcap : xs.length ≤ c) (hx : Bytes xs) (hb : Below w0.heap.size w0 w) (hr : Kd.C (Kd.int .u8) w0 A xs.length xs) : Calls Tryz.prog 13 #[.slice A xs.length c] w (UW w):=by
 have HR:=As (BA hr hb)
 have HX:=As hx
 have HC:=As hcap
 have hmx:=(Cg hr).2
 clear hr hb hx hcap
 go_enter Tryz.func13,Tryz.ntmps13
 go_wp2_with (first
  | (go_at_call 35;refine (QH HC.out hmx).mono ?_;rintro x w1 ⟨g,m,d,rfl,hg,hm2,hm,hq,hb1⟩;obtain ⟨ys,hys⟩ : ∃ ys,xs.take m = ys:=⟨_,rfl⟩;have hry:=Kd.X8 HR.out hm;have hxy:=HX.out.take m;rw [hys] at hm2 hq hry hxy;have HRY:=As hry;have HXY:=As hxy;have HM:=As hm2;have HQ:=As hq;have HB1:=As hb1;have HG:=As hg;clear hm2 hq hry hxy hys hb1 hg hm)
  | (go_at_call 36;refine (PE (wB:=w) (p:=0) (Int.le_refl _) (by decide) HM.out HXY.out HB1.out HG.out HRY.out HQ.out).mono ?_;rintro x w2 ⟨V,vs,E,G1,G2,G3,e1,e2,e3,rfl,hV,hlen,⟨q,hq0,hq1,hrd⟩,hw⟩;have HV:=As hV;have HLEN:=As hlen;have HRD:=As (And.intro hq0 (And.intro hq1 hrd));have HB2:=As (HB1.out.trans (hw.bel (fun k hk => by have hk : k = g:=hk;have:=HG.out;omega) HB1.out.size));clear hV hlen hrd hq0 hq1 hw))
 obtain ⟨W3,hW3⟩ : ∃ W3,w2.alloc (Obj.cells #[.slice G1 E.disk.length e1, .slice G2 E.mem.length e2, .slice G3 E.log.length e3, .int .i64 E.safe, .bool E.down] 28) = W3:=⟨_,rfl⟩
 have hb3 : Below w2.heap.size w2 W3:=by rw [← hW3];exact Ab (Below.refl _ _) _
 rw [hW3]
 have HZ3:=As (show IL W3 w1.heap.size V vs from Kd.BG HV.out hb3)
 have HRD3:=As (HRD.out.2.2.up hb3)
 have HB3:=As (bj HB2.out hb3)
 clear hb3 hW3
 go_at_call 37
 refine (Jy (wB:=w) HRD.out.1 (by have:=HRD.out.2.1;omega) (by decide) (by decide) HM.out HXY.out HB3.out HG.out HRY.out HRD3.out).mono ?_
 rintro x w4 ⟨k,rfl,hk,hrd,hw⟩
 have HV4:=As (Kd.Er (Kd.Dl (ok':=fun _ => True) (Kd.IY (Kd.DY HZ3.out) hw.kept (fun j hj e => by have e : j = g:=e;have:=hj.2.1;have:=HQ.out.lt;omega)) (fun _ _ => trivial)) HB1.out.size)
 have HB4:=As (HB3.out.trans (hw.bel (fun k hk => by have hk : k = g:=hk;have:=HG.out;omega) HB3.out.size))
 clear hk hrd hw
 rcases BQ k 0 with ⟨e9,b9,c9⟩ | ⟨e9,b9,c9⟩
 ·go_wp2
  go_loopw [4] (fun x wr => ∃ (vs : List Evt) (V : Value),V = x ∧ vs.length ≤ 41 ∧ Aa (IL wr w.heap.size V vs) ∧ Aa (Below w.heap.size w wr)) (fun x _ => 41 - YF x)
  case atStart => exact ⟨vs,V,rfl,by have:=HLEN.out;omega,HV4,HB4⟩
  case round =>
   obtain ⟨vs,V,rfl,hl,HVV,HW⟩:=hrel
   obtain ⟨A1,c1,rfl, -, -⟩:=Kd.BI HVV.out
   by_cases hlt : vs.length ≤ 40
   ·have hlc : decide ((vs.length : Int) ≤ 40) = true:=by simp;omega
    have HL:=As hlt
    go_wp2_with (first
     | (at_builtin;refine Pj (p:=⟨7,0,0,0,0, []⟩) (W:=wr) (base:=w.heap.size) (N:=wr.heap.size) rfl (.tmp 19) (.tmp 21) rfl rfl rfl (AL.nil _ _) (Kd.Dl (Kd.DY HVV.out) (fun k hk => ⟨hk.2.1,hk.2.2.1⟩)) HW.out.size (by have:=HL.out;omega) HW.out.size ?_;intro V1 w7 hV7 hb7 hg7;obtain ⟨A7,c7,rfl, -, -⟩:=Kd.BI hV7;have HV7:=As hV7;have HB7:=As (HW.out.trans hb7);clear hV7 hb7 hg7))
    go_roundw
    case rel => exact ⟨vs ++ [⟨7,0,0,0,0, []⟩],_,rfl,by (have:=HL.out;simp;omega),⟨by have h:=HV7.out;rw [List.length_append,List.length_singleton] at h;exact h⟩,HB7⟩
    case measure => simp [YF];omega
   ·have hlc : decide ((vs.length : Int) ≤ 40) = false:=by simp;omega
    go_wp2
    go_ret
    exact ⟨_,vs,rfl,HVV.out,hl,HW.out⟩
 ·go_wp2
  go_ret
  exact ⟨V,vs,rfl,HV4.out,by have:=HLEN.out;omega,HB4.out⟩
theorem OJ {vs : List Evt} {E : Eng} (h : Kl vs = (E,true)) : vs.length ≤ 40 ∧ E = runE newE vs:=by
 unfold Kl at h
 split at h
 ·injection h with _ h
  cases h
 ·injection h with h _
  exact ⟨by omega,h.symm⟩
set_option maxRecDepth 100000 in
set_option maxHeartbeats 4000000 in
theorem NZ {w0 w1 w : World} {A B : Option Addr} {c d : Nat} {p q : Page} (ho : p.owner = q.owner) (hv : p.vals = q.vals) (hb : Below w0.heap.size w0 w) (hr : Kd.C (Kd.int .i64) w0 A p.vals.length p.vals) (hb1 : Below w1.heap.size w1 w) (hr2 : Kd.C (Kd.int .i64) w1 B q.vals.length q.vals) : Calls Tryz.prog 21 #[p.val A c,q.val B d] w (JV w):=by
 have HR:=As (BA hr hb)
 have HR2:=As (show Kd.C (Kd.int .i64) w B p.vals.length p.vals by rw [hv];exact BA hr2 hb1)
 obtain ⟨w3,hw3⟩ : ∃ w3,(w.alloc (p.box A c)).alloc (q.box B d) = w3:=⟨_,rfl⟩
 have HW3:=As hw3
 have HW : Aa (Below w.heap.size w w3):=⟨by rw [← hw3];exact bj (Om w p A c) ((Below.refl _ _).alloc (Nat.le_refl _) (q.box B d))⟩
 have h2 : (p.owner == q.owner) = true:=by rw [ho];exact MO _
 have HV:=As hv
 clear hr hb hr2 hb1 ho hv hw3
 go_enter Tryz.func21,Tryz.ntmps21
 go_wp2_with (first | (go_at_call 48;rw [HW3.out, ← HV.out];refine (Mx HW.out HR.out HW.out HR2.out).mono ?_;rintro x w9 ⟨rfl,hb9⟩;have HX:=As (bj HW.out hb9);clear hb9))
 go_ret
 exact ⟨rfl,HX.out⟩
set_option maxRecDepth 100000 in
set_option maxHeartbeats 4000000 in
theorem KD {w0 w1 w : World} {A B : Option Addr} {c d : Nat} {xs ys : List Page} (hs : xs.length = ys.length ∧ ∀ k,k < xs.length → (pg xs k).owner = (pg ys k).owner ∧ (pg xs k).vals = (pg ys k).vals) (hb : Below w0.heap.size w0 w) (hr : Kd.C Dw w0 A xs.length xs) (hb1 : Below w1.heap.size w1 w) (hr2 : Kd.C Dw w1 B ys.length ys) : Calls Tryz.prog 33 #[.slice A xs.length c, .slice B ys.length d] w (JV w):=by
 have HR:=As (BA hr hb)
 have HR2:=As (BA hr2 hb1)
 have hm:=(Cg hr).2
 have hne : ((xs.length : Int) != (ys.length : Int)) = false:=by rw [hs.1];exact Kz _
 have HS:=As hs
 clear hr hb hr2 hb1 hs
 go_enter Tryz.func33,Tryz.ntmps33
 go_wp2
 go_loopw [5] (fun i wr => ∃ k : Nat,k ≤ xs.length ∧ i = .int .i64 (k : Int) ∧ Aa (Below w.heap.size w wr)) (fun i _ => (xs.length - intOf i).toNat)
 case atStart => exact ⟨0,Nat.zero_le _,rfl,⟨Below.refl _ _⟩⟩
 case round =>
  obtain ⟨k,hk,rfl,HW⟩:=hrel
  by_cases hlt : k < xs.length
  ·obtain ⟨ad,A2,c2,rfl,QP, -,g2⟩:=Di (BA HR.out HW.out) k hlt
   obtain ⟨bd,B2,d2,rfl,QP2, -,h2⟩:=Di (BA HR2.out HW.out) k (by rw [← HS.out.1];exact hlt)
   have G2:=As g2
   have H2:=As h2
   have HQ:=As QP
   have HQ2:=As QP2
   have hly : (k : Int) < (ys.length : Int):=by have:=HS.out.1;omega
   clear g2 h2 QP QP2
   go_wp2
   refine Ba (fun w' => Below wr.heap.size wr w') rfl rfl (by kernel_rfl) (Af (Below.refl _ _)) (fun HT => ?_)
   repeat (first
    | (refine BO (fun wx hS => ?_))
    | ((with_reducible refine Bh (f:=21) rfl ?_);refine Bj (v:=.bool true) (args:=#[(pg xs k).val A2 c2,(pg ys k).val B2 d2]) HT rfl Tryz.func21 (by kernel_rfl) rfl rfl (by rfl) (fun _ _ _ h => h) (by simp only [List.map_toArray,List.map_cons,List.map_nil];rfl) (fun wx hS => (NZ (HS.out.2 k hlt).1 (HS.out.2 k hlt).2 hS G2.out hS H2.out).mono fun _ _ h => ⟨h.1,bj hS h.2⟩) ?_;simp only [sc0,sc1])
    | (refine Bq HT rfl (by rfl) (fun _ _ _ h => h) ?_;simp only [sc0,sc1])
    | (refine BN (v:=?_) HT rfl (by rfl) (fun _ _ _ h => h) (fun wx hS => ?_) ?_;rotate_left;(obtain ⟨x0,x1,x2⟩:=HQ.out.up hS;obtain ⟨y0,y1,y2⟩:=HQ2.out.up hS;go_simp;with_reducible rfl);rotate_left;simp only [sc0,sc1]))
   have HX:=As (bj HW.out hS)
   clear hS
   go_wp2
   go_roundw
   case rel => exact ⟨k + 1,by omega,by go_num,HX⟩
   case measure => simp [intOf];omega
  ·have HE:=As (show k = xs.length by omega)
   go_wp2
   go_ret
   exact ⟨rfl,HW.out⟩
theorem TS {P : Program} {f : Nat} {xs ys : Array Value} {w : World} {Q : Ending → World → Prop} (h : Calls P f ys w Q) (e : xs = ys) : Calls P f xs w Q:=e ▸ h
def SlE (U : Eng) (v : Value) (wx : World) : Prop := ∃ D1 D2 D3 k1 k2 k3,v = U.val D1 D2 D3 k1 k2 k3 ∧ DC wx U D1 D2 D3
theorem SlE.up {U : Eng} {v : Value} {w w1 : World} (h : SlE U v w) (hb : Below w.heap.size w w1) : SlE U v w1:=by
 obtain ⟨D1,D2,D3,k1,k2,k3,h1,h2⟩:=h
 exact ⟨D1,D2,D3,k1,k2,k3,h1,h2.up hb⟩
theorem RO (w : World) : (Kd.int .i64).C w none 0 []:=⟨rfl,by simp,fun h0 => by simp at h0⟩
set_option maxRecDepth 100000 in
set_option maxHeartbeats 8000000 in
theorem Ic {w0 w : World} {e : Eng} {C : Nat → Page} {B : Nat} {Ad Am Al : Option Addr} {cd cm cl : Nat} (n : Int) (hi : Inv e C B) (hB : B + 3 ≤ 150) (hcl : e.log.length ≤ cl) (hb : Below w0.heap.size w0 w) (hr : DC w0 e Ad Am Al) : Calls Tryz.prog 19 #[e.val Ad Am Al cd cm cl, .int .i64 n] w (U2 w (KC e n)):=by
 have HR:=As (hr.up hb)
 have HI:=As hi
 clear hr hb
 obtain ⟨X,hX⟩ : ∃ X,Az e ⟨8,0,0,0,n, []⟩ = X:=⟨_,rfl⟩
 have HIX:=As (show Inv X C B by rw [← hX];exact (hi.Qo n).1)
 rw [KC,hX]
 obtain ⟨E,hE⟩ : ∃ E,Az X ⟨9,0,0,0,150, []⟩ = E:=⟨_,rfl⟩
 rw [hE]
 have HX:=As hX
 have HE:=As hE
 clear hX hE hi
 have K0 : True:=trivial
 go_enter Tryz.func19,Tryz.ntmps19
 go_wp2_with (first
  | (clear K0;with_reducible refine Ag (vd:=.slice Ad e.disk.length cd) (vm:=.slice Am e.mem.length cm) (vl:=.slice Al e.log.length cl) e ?_;intro w1 hb1 hz1 hq1;clear hz1;have HB:=As hb1;have HQ:=As hq1;clear hb1 hq1;have K1 : True:=trivial)
  | (clear K1;refine Ag (vd:=.slice none 0 0) (vm:=.slice none 0 0) (vl:=.slice none 0 0) zE ?_;intro w3 hb1 hz1 hq1;have HBG:=As HB.out.size;have HZ:=As hz1;have hq:=HQ.out.up hb1;have HB0:=HB;replace HB:=As (bj HB.out hb1);have HP:=As hq1;have x0:=hq.c0;have x1:=hq.c1;have x2:=hq.c2;have x3:=hq.c3;have x4:=hq.c4;clear hb1 hz1 hq1 hq;have K2 : True:=trivial)
  | (clear K2;go_at_call 18;clear x0 x1 x2 x3 x4;refine (Es (w0:=w) (cd:=cd) (cm:=cm) (cl:=cl) (c:=0) ⟨8,0,0,0,n, []⟩ HI.out hB hcl HB.out HR.out (RO _)).mono ?_;rw [HX.out];rintro x w7 ⟨vd,vm,vl,rfl,ho,hb7⟩;obtain ⟨Xd,x1_,Xm,x2_,Xl,x3_,rfl,rfl,rfl,hcl,hc⟩:=ho.reads;have HXL:=As hcl;have HXC:=As hc;have HB7:=As hb7;clear ho hb7 hcl hc;have K3 : True:=trivial)
  | (clear K3;refine Ag (vd:=.slice Xd X.disk.length x1_) (vm:=.slice Xm X.mem.length x2_) (vl:=.slice Xl X.log.length x3_) X ?_;intro w8 hb8 hz8 hq8;have HB8:=As (bj HB7.out hb8);have HXC8:=As (HXC.out.up hb8);have x0:=hq8.c0;have x1:=hq8.c1;have x2:=hq8.c2;have x3:=hq8.c3;have x4:=hq8.c4;clear hb8 hz8 hq8;have K4 : True:=trivial)
  | (clear K4;go_at_call 18;clear x0 x1 x2 x3 x4;refine (Es (w0:=w8) (cd:=x1_) (cm:=x2_) (cl:=x3_) (c:=0) ⟨9,0,0,0,150, []⟩ HIX.out hB HXL.out (Below.refl _ _) HXC8.out (RO _)).mono ?_;rw [HE.out];rintro x w9 ⟨vd,vm,vl,rfl,ho,hb9⟩;obtain ⟨Ed,n1,Em,n2,El,n3,rfl,rfl,rfl, -, -⟩:=ho.reads;have HO:=As ho;have HS8:=As HB8.out.size;have HX9:=As (bj HB8.out hb9);have hp:=HP.out.up HX9.out;have HP2:=As hp;have y0:=hp.c0;have y1:=hp.c1;have y2:=hp.c2;have y3:=hp.c3;have y4:=hp.c4;have f0:=hp.frz 0;have f1:=hp.frz 1;have f2:=hp.frz 2;have f3:=hp.frz 3;have f4:=hp.frz 4;clear hp hb9 ho;have K5 : True:=trivial))
 have hs8:=HS8.out
 have hy:=HP2.out.Ao E (.slice Ed E.disk.length n1) (.slice Em E.mem.length n2) (.slice El E.log.length n3)
 have h1:=HO.out.Ao (f:=E) (xd:=.slice Ed E.disk.length n1) (xm:=.slice Em E.mem.length n2) (xl:=.slice El E.log.length n3) HP2.out
 have hge:=HBG.out
 have hzz:=HZ.out
 have h2:=Ah (g:=w1.heap.size) (bj HB.out HX9.out) hge E (.slice Ed E.disk.length n1) (.slice Em E.mem.length n2) (.slice El E.log.length n3)
 have z0:=hy.c0
 have z1:=hy.c1
 have z2:=hy.c2
 have z3:=hy.c3
 have z4:=hy.c4
 exact bodyPost_ret (v:=E.ag (.slice Ed E.disk.length n1) (.slice Em E.mem.length n2) (.slice El E.log.length n3)) (by simp [results,Tryz.results19,go_sem,z0,z1,z2,z3,z4]) rfl ⟨_,_,_,rfl,h1.lower (by omega),h2⟩
set_option maxRecDepth 100000 in
set_option maxHeartbeats 4000000 in
theorem VO {w0 w : World} {e : Eng} {Ad Am Al : Option Addr} {cd cm cl : Nat} (page : Int) (hok : eOk e = true) (hp : inB page 0 4 = true) (hcl : e.log.length ≤ cl) (hb : Below w0.heap.size w0 w) (hr : DC w0 e Ad Am Al) : Calls Tryz.prog 28 #[e.val Ad Am Al cd cm cl, .int .i64 page] w fun x w' => x = .returned (.int .i64 (lk e.log page)) ∧ Below w.heap.size w w':=by
 have HR:=As (hr.up hb)
 clear hr hb
 obtain ⟨w1,hw1⟩ : ∃ w1,w.alloc (e.obox (.slice Ad e.disk.length cd) (.slice Am e.mem.length cm) (.slice Al e.log.length cl)) = w1:=⟨_,rfl⟩
 have HW1:=As hw1
 have HB1 : Aa (Below w.heap.size w w1):=⟨by rw [← hw1];exact Ab (Below.refl _ _) _⟩
 have HQ1 : Aa (Ac w1 w.heap.size e (.slice Ad e.disk.length cd) (.slice Am e.mem.length cm) (.slice Al e.log.length cl)):=⟨by rw [← hw1];exact Ac.mk1 _ _ _ _ _⟩
 clear hw1
 have x2:=HQ1.out.c2
 have HV:=As hok
 have HP:=As hp
 obtain ⟨b,hbb⟩ : ∃ b,FO e.log page (BX e.log 3) 0 true = b:=⟨_,rfl⟩
 have hM : lk e.log page = b.1:=by rw [lk,hbb]
 rw [hM]
 have HBB:=As hbb
 clear hok hp hbb hM
 obtain ⟨by_,ok⟩:=b
 go_enter Tryz.func28,Tryz.ntmps28
 go_wp2_with (first
  | (go_at_call 43;rw [HW1.out];refine (Aw (cd:=cd) (cm:=cm) HV.out hcl HB1.out HR.out).mono ?_;rintro x w2 ⟨rfl,hb2⟩;have HB2:=As (bj HB1.out hb2);replace x2:=bc hb2 x2;clear hb2)
  | (go_at_call 62;refine (Bw page _).mono ?_;rw [HP.out];rintro x w' ⟨rfl,rfl⟩)
  | (go_at_call 63;refine (Eg (c:=cl) page HB2.out HR.out.l (Fv.1 HV.out).log).mono ?_;rw [HBB.out];rintro x w3 ⟨rfl,hb3⟩;have HB3:=As (bj HB2.out hb3);clear hb3))
 go_ret
 exact ⟨rfl,HB3.out⟩
set_option maxRecDepth 100000 in
set_option maxHeartbeats 4000000 in
theorem Fq {w0 w : World} {A : Option Addr} {c : Nat} {l : List Rec} (hl : AB l = true) (hb : Below w0.heap.size w0 w) (hr : Kd.C Ca w0 A l.length l) : Calls Tryz.prog 17 #[.slice A l.length c] w (VK w (BX l 3)):=by
 have HR:=As (BA hr hb)
 have HL:=As hl
 clear hr hb hl
 go_enter Tryz.func17,Tryz.ntmps17
 go_wp2_with (first
  | (go_at_call 41;refine (ES (c:=c) (b:=true) HL.out (Below.refl _ _) HR.out).mono ?_;rintro x w2 ⟨rfl,hb2⟩;have HB2:=As hb2;clear hb2)
  | (go_at_call 42;refine (FD (c:=c) HB2.out HR.out).mono ?_;rintro x w3 ⟨v,rfl,ho,hb3⟩;have HO:=As (ho.lower HB2.out.size);have HB3:=As (bj HB2.out hb3);clear ho hb3))
 go_ret
 exact ⟨_,rfl,HO.out,HB3.out⟩
set_option maxRecDepth 100000 in
set_option maxHeartbeats 4000000 in
theorem KN {w0 w : World} {A : Option Addr} {c : Nat} {l : List Rec} (tx : Int) (hl : AB l = true) (hb : Below w0.heap.size w0 w) (hr : Kd.C Ca w0 A l.length l) : Calls Tryz.prog 20 #[.slice A l.length c, .int .i64 tx] w (Xy w (Go.Lib.compact (Fa (Bf l (fun _ => true) (BD l (Ai l tx l.length)))))):=by
 have HR:=As (BA hr hb)
 have HL:=As hl
 have K0 : True:=trivial
 clear hr hb hl
 go_enter Tryz.func20,Tryz.ntmps20
 go_wp2_with (first
  | (clear K0;go_at_call 41;refine (ES (c:=c) (b:=true) HL.out (Below.refl _ _) HR.out).mono ?_;rintro x w2 ⟨rfl,hb2⟩;have HB2:=As hb2;clear hb2;have K1 : True:=trivial)
  | (clear K1;go_at_call 46;refine (Kr tx HB2.out HR.out HL.out).mono ?_;rintro x w3 ⟨A2,c2,rfl,hC,hb3⟩;have HC:=As hC;have HB3:=As (bj HB2.out hb3);clear hC hb3))
 go_ret
 exact ⟨_,_,rfl,HC.out,HB3.out⟩
set_option maxRecDepth 100000 in
set_option maxHeartbeats 4000000 in
theorem Lp {w0 w : World} {A : Option Addr} {c : Nat} {xs : List Int} (n : Int) (hb : Below w0.heap.size w0 w) (hr : Kd.C (Kd.int .i64) w0 A xs.length xs) : Calls Tryz.prog 22 #[.slice A xs.length c, .int .i64 n] w fun x w' => x = .returned (.bool (xs.contains n)) ∧ Below w.heap.size w w':=by
 have HR:=As (BA hr hb)
 have hm:=(Cg hr).2
 clear hr hb
 go_enter Tryz.func22,Tryz.ntmps22
 go_wp2
 go_loopw [5] (fun i wr => ∃ k : Nat,k ≤ xs.length ∧ i = .int .i64 (k : Int) ∧ Aa (xs.contains n = (xs.drop k).contains n) ∧ Aa (Below w.heap.size w wr)) (fun i _ => (xs.length - intOf i).toNat)
 case atStart => exact ⟨0,Nat.zero_le _,rfl,⟨by rw [List.drop_zero]⟩,⟨Below.refl _ _⟩⟩
 case round =>
  obtain ⟨k,hk,rfl,HK,HW⟩:=hrel
  by_cases hlt : k < xs.length
  ·obtain ⟨ad,rfl,g0⟩:=Dj (BA HR.out HW.out) k hlt
   have HD:=As (JI hlt)
   rcases BQ (iv xs k) n with ⟨e1,b1,c1⟩ | ⟨e1,b1,c1⟩
   ·go_wp2
    go_ret
    exact ⟨by rw [HK.out,HD.out,e1.out];simp,HW.out⟩
   ·go_wp2
    go_roundw
    case rel => exact ⟨k + 1,by omega,by go_num,⟨by rw [HK.out,HD.out,List.contains_cons,beq_eq_false_iff_ne.2 (Ne.symm e1.out),Bool.false_or]⟩,HW⟩
    case measure => simp [intOf];omega
  ·have HE:=As (show k = xs.length by omega)
   go_wp2
   go_ret
   exact ⟨by rw [HK.out,HE.out,List.drop_length];rfl,HW.out⟩
set_option maxRecDepth 100000 in
set_option maxHeartbeats 4000000 in
theorem Iu {w0 w : World} {A : Option Addr} {c : Nat} {xs : List Int} (hcap : xs.length ≤ c) (hx : Bytes xs) (hb : Below w0.heap.size w0 w) (hr : Kd.C (Kd.int .u8) w0 A xs.length xs) : Calls Tryz.prog 30 #[.slice A xs.length c] w (UW w):=by
 have HR:=As (BA hr hb)
 have HX:=As hx
 have HC:=As hcap
 have hmx:=(Cg hr).2
 clear hr hb hx hcap
 go_enter Tryz.func30,Tryz.ntmps30
 go_wp2_with (go_at_call 13;refine (EI HC.out HX.out (Below.refl w.heap.size w) HR.out).mono ?_;rintro x w1 ⟨V,vs,rfl,hV,hlen,hb1⟩;have HV:=As hV;have HLN:=As hlen;have HB1:=As hb1;clear hV hlen hb1)
 go_ret
 exact ⟨V,vs,rfl,HV.out,HLN.out,HB1.out⟩
theorem Wx {x : Eng} (h0 : Ay x = 0) {t p : Int} (ht : t = 1 ∨ t = 2 ∨ t = 3) : has x.log t x.log.length p = false:=by
 obtain ⟨h1,h2,h3⟩:=Gz h0
 have : Ai x.log t x.log.length = 0:=by rcases ht with rfl | rfl | rfl <;> assumption
 rw [has,this,Gn]
theorem Xq {l : List Rec} {C : Nat → Page} {B : Nat} {e : Eng} (h : Core e C B) (hl : e.log = l) {tx p : Int} (hf : ∀ t,(t = 1 ∨ t = 2 ∨ t = 3) → t ≠ tx → has l t l.length p = false) : lk l p = 0 ∨ lk l p = tx:=by
 subst hl
 rcases (OZ (h.one_holds p)).2 with ⟨h1,_⟩ | ⟨h1,h2⟩
 ·exact .inl h1
 ·by_cases hx : lk e.log p = tx
  ·exact .inr hx
  ·rw [hf _ h1 hx] at h2;cases h2
theorem RV {e : Eng} {C : Nat → Page} {B : Nat} (h : Core e C B) (hd : e.down = false) {tx : Int} {p : Nat} (ht : 1 ≤ tx ∧ tx ≤ 3) (hp : p < 5) (hf : ∀ t,(t = 1 ∨ t = 2 ∨ t = 3) → t ≠ tx → has e.log t e.log.length p = false) : DR e tx p = true:=
 DI.2 ⟨hd,ht,by omega,Xq h rfl hf⟩
structure More (x : Eng) (C : Nat → Page) (B : Nat) (tx : Int) (p : Nat) (y1 y2 : Eng) : Prop where
 own : Ku x tx p 2 = (y1,true)
 i1 : Inv y1 C (B + 3)
 put : Ko y1 tx p 1 8 = (y2,true)
 i2 : Inv y2 C (B + 6)
 done : Cz y2 tx (Dg y2 tx) = (Dg y2 tx,true)
 i3 : Inv (Dg y2 tx) (I4 y2 tx C) (B + 6)
 owner : (I4 y2 tx C p).owner = 2
 val : iv (I4 y2 tx C p).vals 1 = 8
 vlen : (I4 y2 tx C p).vals.length = 3
theorem Xo {x : Eng} {C : Nat → Page} {B : Nat} (h : Inv x C B) (hB : B + 6 ≤ 150) (hup : x.down = false) (h0 : Ay x = 0) {tx : Int} (ht : 1 ≤ tx ∧ tx ≤ 3) {p : Nat} (hp : p < 5) (ho : (pg x.mem p).owner = 0) : ∃ y1 y2,More x C B tx p y1 y2:=by
 have ht' : tx = 1 ∨ tx = 2 ∨ tx = 3:=by omega
 have hpk:=(Cv.1 h.FT).2 p hp
 have hz:=RN hpk ho
 have hl3:=(Cj.1 hpk).2.2.2.2.1
 have hpn : ((p : Nat) : Int).toNat = p:=by omega
 have m1 : DR x tx p = true:=RV h.core hup ht hp (fun t h1 _ => Wx h0 h1)
 have o1 : ownB x tx p 2 = true:=by
  rw [ownB,m1,hpn,ho,hz]
  rfl
 have i1:=h.Vr (by omega) o1
 refine ⟨x.app (Le x tx p 2),(x.app (Le x tx p 2)).app (Mq (x.app (Le x tx p 2)) tx p 1 8),?_⟩
 obtain ⟨y1,hy1⟩ : ∃ y1,x.app (Le x tx p 2) = y1:=⟨_,rfl⟩
 have e1 : Ku x tx p 2 = (y1,true):=by rw [Ku,Bp,hy1,if_pos ⟨o1,by rw [← hy1];exact R3 i1.core⟩]
 have hm1 : pg y1.mem p = ⟨(x.log.length + 1 : Nat),2,(pg x.mem p).vals⟩:=by
  rw [← hy1,H7 h.mlen (fun _ => by show (0 : Int) ≤ p ∧ (p : Int) ≤ 4;omega),if_pos ⟨rfl,rfl⟩]
  rfl
 have hlen1 : y1.log.length = x.log.length + 1:=by rw [← hy1];exact H8 _ _
 have hrc1 : rc y1.log x.log.length = ⟨2,tx,p, -1,(pg x.mem ((p : Int)).toNat).owner,2,Ai x.log tx x.log.length,0⟩:=by rw [← hy1,MW,BF];rfl
 have hd1 : y1.down = false:=by rw [← hy1];exact hup
 have ag1 : Agree x.log y1.log x.log.length:=by rw [← hy1,MW];exact (Cf _ _).symm
 rw [hy1] at i1
 rw [hy1]
 have hf1 : ∀ t,(t = 1 ∨ t = 2 ∨ t = 3) → t ≠ tx → has y1.log t y1.log.length p = false:=fun t h1 h2 => by
  rw [hlen1,EX (by rw [hrc1];exact Ne.symm h2), ← Hw ag1 t p (Nat.le_refl _)]
  exact Wx h0 h1
 have m2 : DR y1 tx p = true:=RV i1.core hd1 ht hp hf1
 have p1 : OT y1 tx p 1 8 = true:=by
  rw [OT,m2,hpn,hm1]
  rfl
 have i2:=i1.Vi (by omega) p1
 obtain ⟨y2,hy2⟩ : ∃ y2,y1.app (Mq y1 tx p 1 8) = y2:=⟨_,rfl⟩
 have e2 : Ko y1 tx p 1 8 = (y2,true):=by rw [Ko,Bp,hy2,if_pos ⟨p1,by rw [← hy2];exact R3 i2.core⟩]
 have hm2 : pg y2.mem p = ⟨(y1.log.length + 1 : Nat),2,(pg x.mem p).vals.set 1 8⟩:=by
  rw [← hy2,H7 i1.mlen (fun _ => by show (0 : Int) ≤ p ∧ (p : Int) ≤ 4;omega),if_pos ⟨rfl,rfl⟩,hm1]
  rfl
 have hlen2 : y2.log.length = y1.log.length + 1:=by rw [← hy2];exact H8 _ _
 have hrc2 : (rc y2.log y1.log.length).tx = tx ∧ (rc y2.log y1.log.length).kind = 1 ∧ (rc y2.log y1.log.length).page = p:=by rw [← hy2,MW,BF];exact ⟨rfl,rfl,rfl⟩
 have hd2 : y2.down = false:=by rw [← hy2];exact hd1
 rw [hy2] at i2
 rw [hy2]
 have hlast : lastT y2 tx ≠ 0:=by
  show Ai y2.log tx y2.log.length ≠ 0
  rw [hlen2,ET hrc2.1 (by rw [hrc2.2.1];rfl)]
  omega
 have hhas : has y2.log tx y2.log.length p = true:=by
  have:=MJ i2.core.log (k:=y1.log.length) (by omega) (by rw [hrc2.2.1];rfl) (p : Int)
  rw [hrc2.1,hrc2.2.2] at this
  rw [hlen2,this]
  simp
 have i3:=i2.SB hd2 ht' hlast
 have hT : I4 y2 tx C p = ⟨0,2,(pg x.mem p).vals.set 1 8⟩:=by rw [I4,if_pos hhas,hm2]
 refine ⟨e1,i1,e2,i2,?_,i3,by rw [hT],?_,by rw [hT];simp [hl3]⟩
 ·rw [Cz,if_pos ⟨hd2,hlast⟩]
 ·rw [hT]
  show iv ((pg x.mem p).vals.set 1 8) 1 = 8
  rw [iv,List.getD_eq_getElem?_getD,List.getElem?_set_self (by omega)]
  rfl
theorem Qn (A B C : Option Addr) (n1 c1 n2 c2 n3 c3 : Nat) (s : Int) (b : Bool) (w : World) : (Instr.field 28 (.agg #[.slice A n1 c1, .slice B n2 c2, .slice C n3 c3, .int .i64 s, .bool b]) 1).run Tryz.prog w = .ok (.slice B n2 c2) w:=by kernel_rfl
def OE (vs : List Evt) : Nat → Page:=FJ newE (fun _ => newP) vs
theorem Q9 {vs : List Evt} (h : vs.length ≤ 40) : JR vs = tL (OE vs):=by rw [JR,if_neg (by omega),OE]
theorem OD {vs : List Evt} (h : 40 < vs.length) : JR vs = []:=by rw [JR,if_pos h]
theorem Sr {vs : List Evt} (h : vs.length ≤ 40) : Inv (runE newE vs) (OE vs) (3 * 40):=(Inv.run UF (vs:=vs) (by omega)).mono (by omega) (by omega)
theorem UH (C : Nat → Page) : N8 (tL C) C:=⟨OI C,fun p hp => by rw [Wq hp];exact ⟨rfl,rfl⟩⟩
theorem Oz {C : Nat → Page} {B : Nat} {tx : Int} (ht : tx = 1 ∨ tx = 2 ∨ tx = 3) : ∀ (k : Nat) (e : Eng),Eb e C B tx → lastT e tx ≠ 0 → (U e.log tx e.log.length).length = k → ∀ t,t ≠ tx → lastT (GK tx (k + 1) e) t = lastT e t
 | 0,e,h,hlast,_,t,hne => ((h.core.NS ht hlast).2.1 t hne).2
 | k + 1,e,h,hlast,hk,t,hne => by
  have hs:=h.core.NS ht hlast
  have hn : U e.log tx e.log.length ≠ []:=fun h0 => by rw [h0] at hk;cases hk
  have:=Oz ht k (Be e tx) (h.step ht hlast) (by rw [hs.2.2.1,if_neg hn];omega) (by rw [hs.1,List.length_tail,hk];omega) t hne
  exact this.trans (hs.2.1 t hne).2
theorem VU {e : Eng} {C : Nat → Page} {B : Nat} (h : Inv e C B) (hup : e.down = false) {tx : Int} (ht : tx = 1 ∨ tx = 2 ∨ tx = 3) :
  Inv (Az e ⟨5,tx,0,0,0, []⟩) C B ∧ (Az e ⟨5,tx,0,0,0, []⟩).down = false ∧ lastT (Az e ⟨5,tx,0,0,0, []⟩) tx = 0 ∧ ∀ t,t ≠ tx → lastT (Az e ⟨5,tx,0,0,0, []⟩) t = lastT e t:=by
 have hp : Az e ⟨5,tx,0,0,0, []⟩ = if Ia e tx = true then DF e tx else e:=by simp [Az]
 rw [hp]
 split
 ·rename_i ho
  obtain ⟨h1,h2,h3⟩:=Dz.1 ho
  have hu:=h.Jt h1 h2
  refine ⟨hu.1,hu.2.2,hu.2.1,fun t hne => ?_⟩
  rw [DF,if_neg h3]
  exact Oz ht _ e (h.und h1 tx) h3 rfl t hne
 ·rename_i ho
  refine ⟨h,hup,?_,fun _ _ => rfl⟩
  by_cases h0 : lastT e tx = 0
  ·exact h0
  ·exact absurd (Dz.2 ⟨hup,ht,h0⟩) ho
def KM (C : Nat → Page) (B : Nat) (k : Nat) (e : Eng) : Prop:=Inv e C B ∧ e.down = false ∧ ∀ t : Int,1 ≤ t → t ≤ k → lastT e t = 0
theorem KM.step {C : Nat → Page} {B k : Nat} {e : Eng} (h : KM C B k e) (hk : k < 3) : KM C B (k + 1) (Az e ⟨5,((k + 1 : Nat) : Int),0,0,0, []⟩):=by
 obtain ⟨h1,h2,h3,h4⟩:=VU h.1 h.2.1 (tx:=((k + 1 : Nat) : Int)) (by omega)
 refine ⟨h1,h2,fun t h5 h6 => ?_⟩
 by_cases e1 : t = ((k + 1 : Nat) : Int)
 ·rw [e1];exact h3
 ·rw [h4 t e1]
  exact h.2.2 t h5 (by omega)
theorem KM.all {C : Nat → Page} {B : Nat} {e : Eng} (h : KM C B 3 e) : N8 e.mem C ∧ BX e.log 3 = []:=by
 have h0 : Ay e = 0:=by
  have h1:=h.2.2 1 (by decide) (by decide)
  have h2:=h.2.2 2 (by decide) (by decide)
  have h3:=h.2.2 3 (by decide) (by decide)
  simp [Ay,h1,h2,h3]
 exact ⟨h.1.has h.2.1 h0,Uv h0⟩
theorem Vb {e : Eng} {v : Evt} {C : Nat → Page} (h : v.kind ≠ 4) : trueE e v C = C:=by rw [trueE,if_neg (fun x => h x.1)]
theorem OC : ∀ (vs : List Evt) (e : Eng) (C : Nat → Page),(∀ v ∈ vs,v.kind ≠ 4) → FJ e C vs = C
 | [],_,_,_ => rfl
 | v :: vs,e,C,h => by
  show FJ (Az e v) (trueE e v C) vs = C
  rw [Vb (h v (by simp))]
  exact OC vs _ C (fun u hu => h u (by simp [hu]))
theorem Tf : ∀ (us vs : List Evt) (e : Eng) (C : Nat → Page),(∀ v ∈ us,v.kind ≠ 4) → FJ e C (vs ++ us) = FJ e C vs
 | us, [],e,C,h => OC us e C h
 | us,v :: vs,e,C,h => Tf us vs (Az e v) (trueE e v C) h
def hitS (p : Page) (t : Int) (k : Nat) : Bool:=p.owner == t && iv p.vals k != 0
def cS (p : Page) (t : Int) : Nat → Int
 | 0 => 0
 | k + 1 => cS p t k + if hitS p t k = true then 1 else 0
def sS (p : Page) (t : Int) : Nat → Int
 | 0 => 0
 | k + 1 => sS p t k + if hitS p t k = true then iv p.vals k else 0
def cP (ps : List Page) (t : Int) : Nat → Int
 | 0 => 0
 | j + 1 => cP ps t j + cS (pg ps j) t 3
def sP (ps : List Page) (t : Int) : Nat → Int
 | 0 => 0
 | j + 1 => sP ps t j + sS (pg ps j) t 3
theorem cS_range (p : Page) (t : Int) : ∀ k : Nat,0 ≤ cS p t k ∧ cS p t k ≤ k
 | 0 => by simp [cS,cP]
 | k + 1 => by
  have:=cS_range p t k
  simp only [cS]
  split <;> omega
theorem sS_range {p : Page} (hp : Bt p = true) (t : Int) : ∀ k : Nat,k ≤ 3 → 0 ≤ sS p t k ∧ sS p t k ≤ 9 * k
 | 0,_ => by simp [sS,sP]
 | k + 1,hk => by
  have h1:=sS_range hp t k (by omega)
  have h2:=WH hp (k:=k) (by omega)
  simp only [sS]
  split <;> omega
theorem cP_range (ps : List Page) (t : Int) : ∀ j : Nat,0 ≤ cP ps t j ∧ cP ps t j ≤ 3 * j
 | 0 => by simp [cS,cP]
 | j + 1 => by
  have h1:=cP_range ps t j
  have h2:=cS_range (pg ps j) t 3
  simp only [cP]
  omega
theorem sP_range {ps : List Page} (h : ∀ p,p < 5 → Bt (pg ps p) = true) (t : Int) : ∀ j : Nat,j ≤ 5 → 0 ≤ sP ps t j ∧ sP ps t j ≤ 27 * j
 | 0,_ => by simp [sS,sP]
 | j + 1,hj => by
  have h1:=sP_range h t j (by omega)
  have h2:=sS_range (h j (by omega)) t 3 (by decide)
  simp only [sP]
  omega
theorem sums_put {ps qs : List Page} {q k : Nat} (hk : k < 3) (h3 : (pg ps q).vals.length = 3) (h0 : iv (pg ps q).vals k = 0) (ho : (pg qs q).owner = (pg ps q).owner) (hv : (pg qs q).vals = (pg ps q).vals.set k 6)
  (hs : ∀ p,p ≠ q → pg qs p = pg ps p) : ∀ j : Nat,cP qs (pg ps q).owner j = cP ps (pg ps q).owner j + (if q < j then 1 else 0) ∧ sP qs (pg ps q).owner j = sP ps (pg ps q).owner j + (if q < j then 6 else 0)
 | 0 => by simp [cP,sP]
 | j + 1 => by
  have ih:=sums_put hk h3 h0 ho hv hs j
  by_cases e : j = q
  ·subst e
   have hi : ∀ i : Nat,iv (pg qs j).vals i = if i = k then 6 else iv (pg ps j).vals i:=fun i => by
    rw [hv,iv,iv,List.getD_eq_getElem?_getD,List.getD_eq_getElem?_getD,List.getElem?_set]
    by_cases e1 : i = k
    ·subst e1;simp [h3,hk]
    ·rw [if_neg (Ne.symm e1),if_neg e1]
   have hh : ∀ i,hitS (pg qs j) (pg ps j).owner i = (decide (i = k) || hitS (pg ps j) (pg ps j).owner i):=fun i => by
    rw [hitS,hitS,ho,hi]
    by_cases e1 : i = k
    ·subst e1;simp
    ·simp [e1]
   have hk0 : hitS (pg ps j) (pg ps j).owner k = false:=by simp [hitS,h0]
   have hc : cS (pg qs j) (pg ps j).owner 3 = cS (pg ps j) (pg ps j).owner 3 + 1 ∧ sS (pg qs j) (pg ps j).owner 3 = sS (pg ps j) (pg ps j).owner 3 + 6:=by
    have h012 : k = 0 ∨ k = 1 ∨ k = 2:=by omega
    rcases h012 with rfl | rfl | rfl <;> simp [cS,sS,hh,hi,hk0] <;> omega
   rw [cP,cP,sP,sP,ih.1,ih.2,hc.1,hc.2,if_neg (by omega),if_pos (by omega),if_neg (by omega),if_pos (by omega)]
   omega
  ·rw [cP,cP,sP,sP,hs j e,ih.1,ih.2]
   by_cases e2 : q < j
   ·rw [if_pos e2,if_pos (by omega),if_pos e2,if_pos (by omega)];omega
   ·rw [if_neg e2,if_neg (by omega),if_neg e2,if_neg (by omega)];omega
theorem put_sums {e X : Eng} {C : Nat → Page} {B : Nat} (h : Inv e C B) {tx : Int} {p k : Nat} (hp : p < 5) (hk : k < 3) (h0 : iv (pg e.mem p).vals k = 0) (hx : Ko e tx p k 6 = (X,true)) :
  cP X.mem (pg e.mem p).owner 5 = cP e.mem (pg e.mem p).owner 5 + 1 ∧ sP X.mem (pg e.mem p).owner 5 = sP e.mem (pg e.mem p).owner 5 + 6:=by
 have hpn : ((p : Nat) : Int).toNat = p:=by omega
 have hX : X = e.app (Mq e tx p k 6):=by
  rw [Ko,Bp] at hx
  split at hx
  ·injection hx with hx _;exact hx.symm
  ·injection hx with _ hx;cases hx
 have hpk:=(Cv.1 h.FT).2 p hp
 have h3:=(Cj.1 hpk).2.2.2.2.1
 have hm : ∀ q : Nat,pg X.mem q = if q = p then ⟨(e.log.length + 1 : Nat),(pg e.mem p).owner,(pg e.mem p).vals.set k 6⟩ else pg e.mem q:=fun q => by
  rw [hX,H7 h.mlen (fun _ => by show (0 : Int) ≤ p ∧ (p : Int) ≤ 4;omega)]
  by_cases e1 : q = p
  ·subst e1
   rw [if_pos ⟨rfl,rfl⟩,if_pos rfl]
   show (⟨_,(Bg (pg e.mem q) (Mq e tx q k 6)).owner,(Bg (pg e.mem q) (Mq e tx q k 6)).vals⟩ : Page) = _
   have : (0 : Int) ≤ (k : Int):=by omega
   simp [Bg,Mq]
  ·rw [if_neg (fun x => e1 (by have : ((p : Nat) : Int) = q:=x.2;omega)),if_neg e1]
 have hs:=sums_put (ps:=e.mem) (qs:=X.mem) hk h3 h0 (by rw [hm,if_pos rfl]) (by rw [hm,if_pos rfl]) (fun q hq => by rw [hm,if_neg hq]) 5
 rw [if_pos hp,if_pos hp] at hs
 exact hs
set_option maxRecDepth 100000 in
set_option maxHeartbeats 16000000 in
theorem EngineSum_calls {w0 w : World} {e : Eng} {C : Nat → Page} {B : Nat} {Ad Am Al : Option Addr} {cd cm cl : Nat} (t : Int) (hi : Inv e C B) (h1 : 1 ≤ t) (h3 : t ≤ 3) (hcl : e.log.length ≤ cl) (hb : Below w0.heap.size w0 w) (hr : DC w0 e Ad Am Al) : Calls Tryz.prog 29 #[e.val Ad Am Al cd cm cl, .int .i64 t] w fun x w' => x = .returned (.tuple #[.int .i64 (cP e.mem t 5), .int .i64 (sP e.mem t 5)]) ∧ Below w.heap.size w w':=by
 have HR:=As (hr.up hb)
 have HI:=As hi
 have HT:=As (show inB t 1 3 = true from DK.2 ⟨h1,h3⟩)
 have HM:=As hi.mlen
 have HP:=As (Cv.1 hi.FT).2
 clear hr hb hi
 have K0 : True:=trivial
 go_enter Tryz.func29,Tryz.ntmps29
 go_wp2_with (first
  | (clear K0;refine Ag (vd:=.slice Ad e.disk.length cd) (vm:=.slice Am e.mem.length cm) (vl:=.slice Al e.log.length cl) e ?_;intro w1 hb1 hz1 hq1;have HB1:=As hb1;have HQ1:=As hq1;have x0:=hq1.c0;have x1:=hq1.c1;have x2:=hq1.c2;have x3:=hq1.c3;have x4:=hq1.c4;clear hb1 hz1 hq1;have K1 : True:=trivial)
  | (clear K1;go_at_call 43;refine (Aw (b:=true) HI.out.ok hcl HB1.out HR.out).mono ?_;rintro x w2 ⟨rfl,hb2⟩;have HB2:=As (bj HB1.out hb2);replace x1:=bc hb2 x1;clear hb2 x0 x2 x3 x4;have K2 : True:=trivial)
  | (clear K2;go_at_call 50;refine (Cn t 1 3 _).mono ?_;rw [HT.out];rintro x w' ⟨rfl,rfl⟩))
 go_loopw [6,7,23] (fun m s j wr => ∃ J : Nat,J ≤ 5 ∧ j = .int .i64 (J : Int) ∧ m = .int .i64 (cP e.mem t J) ∧ s = .int .i64 (sP e.mem t J) ∧ Aa (Below w.heap.size w wr)) (fun _ _ j _ => (5 - intOf j).toNat)
 case atStart => exact ⟨0,by decide,rfl,rfl,rfl,HB2⟩
 case round =>
  obtain ⟨J,hJ,rfl,rfl,rfl,HW⟩:=hrel
  by_cases hlt : J < 5
  ·have hJm : (J : Int) < (e.mem.length : Int):=by rw [HM.out];omega
   obtain ⟨ad,A2,c2,rfl,QP, -,hv⟩:=Di (HR.out.up HW.out).m J (by rw [HM.out];exact hlt)
   obtain ⟨m0,m1,m2⟩:=QP
   obtain ⟨p,hp⟩ : ∃ p,pg e.mem J = p:=⟨_,rfl⟩
   have hpk:=HP.out J hlt
   rw [hp] at m0 m1 m2 hv hpk
   have HV:=As hv
   have HPK:=As hpk
   have HP':=As hp
   have hl3:=(Cj.1 hpk).2.2.2.2.1
   have HL3:=As hl3
   clear hv hpk hp hl3
   go_wp2
   obtain ⟨w5,hw5⟩ : ∃ w5,wr.alloc (Obj.cells #[.int .i64 p.lsn, .int .i64 p.owner, .slice A2 p.vals.length c2] 41) = w5:=⟨_,rfl⟩
   rw [hw5]
   have HB5 : Aa (Below wr.heap.size wr w5):=⟨by rw [← hw5];exact Ab (Below.refl _ _) _⟩
   have HQ5 : Aa (AU w5 wr.heap.size p (.slice A2 p.vals.length c2)):=⟨by rw [← hw5];exact AU.mk1 _ _ _⟩
   clear m0 m1 m2 hw5
   go_loopw [6,7,30] (fun m s k w6 => ∃ K : Nat,K ≤ 3 ∧ k = .int .i64 (K : Int) ∧ m = .int .i64 (cP e.mem t J + cS p t K) ∧ s = .int .i64 (sP e.mem t J + sS p t K) ∧ Aa (Below w5.heap.size w5 w6)) (fun _ _ k _ => (3 - intOf k).toNat)
   case atStart => exact ⟨0,by decide,rfl,by simp [cS],by simp [sS],⟨Below.refl _ _⟩⟩
   case round =>
    obtain ⟨K,hK,rfl,rfl,rfl,HX⟩:=hrel
    by_cases hk3 : K < 3
    ·have hKp : (K : Int) < (p.vals.length : Int):=by rw [HL3.out];omega
     obtain ⟨vd,rfl,u0⟩:=Dj (BA HV.out (bj HB5.out HX.out)) K (by rw [HL3.out];exact hk3)
     have r1:=cP_range e.mem t J
     have r2:=cS_range p t K
     have r3:=sP_range HP.out t J hJ
     have r4:=sS_range HPK.out t K hK
     have r5:=WH HPK.out (k:=K) hk3
     have hw1 : IntKind.i64.wrap (cP e.mem t J + cS p t K + 1) = cP e.mem t J + cS p t K + 1:=by simp (disch:=omega) only [IntWalk.i64_in]
     have hw2 : IntKind.i64.wrap (sP e.mem t J + sS p t K + iv p.vals K) = sP e.mem t J + sS p t K + iv p.vals K:=by simp (disch:=omega) only [IntWalk.i64_in]
     clear r1 r2 r3 r4 r5
     have q0:=(HQ5.out.up HX.out).c0;have q1:=(HQ5.out.up HX.out).c1;have q2:=(HQ5.out.up HX.out).c2
     rcases BQ p.owner t with ⟨e1,b1,c1⟩ | ⟨e1,b1,c1⟩
     ·rcases BQ (iv p.vals K) 0 with ⟨e2,b2,c2⟩ | ⟨e2,b2,c2⟩
      ·have hh : hitS p t K = false:=by rw [hitS,c2,Bool.and_false]
       go_wp2
       go_roundw
       case rel => exact ⟨K + 1,by omega,by go_num,by simp [cS,hh],by simp [sS,hh],HX⟩
       case measure => simp [intOf];omega
      ·have hh : hitS p t K = true:=by rw [hitS,b1,c2];rfl
       go_wp2
       go_roundw
       case rel => exact ⟨K + 1,by omega,by go_num,by simp [cS,hh,Int.add_assoc],by simp [sS,hh,Int.add_assoc],HX⟩
       case measure => simp [intOf];omega
     ·have hh : hitS p t K = false:=by rw [hitS,b1,Bool.false_and]
      go_wp2
      go_roundw
      case rel => exact ⟨K + 1,by omega,by go_num,by simp [cS,hh],by simp [sS,hh],HX⟩
      case measure => simp [intOf];omega
    ·obtain rfl : K = 3:=by omega
     have hKp : ¬ ((3 : Nat) : Int) < (p.vals.length : Int):=by rw [HL3.out];decide
     go_wp2
     go_roundw
     case rel => exact ⟨J + 1,by omega,by go_num,by rw [cP,HP'.out],by rw [sP,HP'.out],⟨bj HW.out (bj HB5.out HX.out)⟩⟩
     case measure => simp [intOf];omega
  ·obtain rfl : J = 5:=by omega
   have hJm : ¬ ((5 : Nat) : Int) < (e.mem.length : Int):=by rw [HM.out];decide
   go_wp2
   go_ret2
   exact ⟨rfl,HW.out⟩
def Eng.on (e : Eng) (d : List Page) (s : Int) : Eng:={ e with disk:=d,safe:=s }
theorem undoK_on (tx : Int) : ∀ (k : Nat) (e : Eng) (d : List Page) (s : Int),GK tx k (e.on d s) = (GK tx k e).on d s
 | 0,_,_,_ => rfl
 | k + 1,e,d,s => undoK_on tx k (Be e tx) d s
theorem undoK_down (tx : Int) : ∀ (k : Nat) (e : Eng),(GK tx k e).down = e.down
 | 0,_ => rfl
 | k + 1,e => undoK_down tx k (Be e tx)
theorem change_on {e x : Eng} {ok : Bool} {d : List Page} {s : Int} : (Bp (e.on d s) ok (x.on d s)).1 = (Bp e ok x).1.on d s:=by
 unfold Bp
 split
 ·rename_i h
  rw [if_pos (show ok = true ∧ Jj x.log = true from h)]
 ·rename_i h
  rw [if_neg (show ¬ (ok = true ∧ Jj x.log = true) from h)]
theorem change_down {e x : Eng} {ok : Bool} (h : x.down = e.down) : (Bp e ok x).1.down = e.down:=by
 unfold Bp
 split
 ·exact h
 ·rfl
theorem play_on {e : Eng} (hup : e.down = false) (d : List Page) (s : Int) (v : Evt) (h8 : v.kind ≠ 8) : (∃ d' s',Az (e.on d s) v = (Az e v).on d' s') ∧ (Az e v).down = false:=by
 unfold Az
 by_cases k1 : v.kind = 1
 ·rw [if_pos k1,if_pos k1]
  exact ⟨⟨d,s,change_on (e:=e) (x:=e.app (Mq e v.tx v.page v.slot v.n)) (ok:=OT e v.tx v.page v.slot v.n)⟩,(change_down (e:=e) (x:=e.app (Mq e v.tx v.page v.slot v.n)) (ok:=OT e v.tx v.page v.slot v.n) rfl).trans hup⟩
 rw [if_neg k1,if_neg k1]
 by_cases k2 : v.kind = 2
 ·rw [if_pos k2,if_pos k2]
  exact ⟨⟨d,s,change_on (e:=e) (x:=e.app (Le e v.tx v.page v.n)) (ok:=ownB e v.tx v.page v.n)⟩,(change_down (e:=e) (x:=e.app (Le e v.tx v.page v.n)) (ok:=ownB e v.tx v.page v.n) rfl).trans hup⟩
 rw [if_neg k2,if_neg k2]
 by_cases k3 : v.kind = 3
 ·rw [if_pos k3,if_pos k3]
  exact ⟨⟨d,s,change_on (e:=e) (x:=KE e v.tx v.page v.vals) (ok:=Lr e v.tx v.page v.vals)⟩,(change_down (e:=e) (x:=KE e v.tx v.page v.vals) (ok:=Lr e v.tx v.page v.vals) rfl).trans hup⟩
 rw [if_neg k3,if_neg k3]
 by_cases k4 : v.kind = 4
 ·rw [if_pos k4,if_pos k4]
  cases ho : Ia e v.tx
  ·rw [if_neg (show ¬ (Ia (e.on d s) v.tx = true) by rw [show Ia (e.on d s) v.tx = Ia e v.tx from rfl,ho];simp),if_neg (by simp)]
   exact ⟨⟨d,s,rfl⟩,hup⟩
  ·rw [if_pos (show Ia (e.on d s) v.tx = true from ho),if_pos rfl]
   exact ⟨⟨_,_,rfl⟩,hup⟩
 rw [if_neg k4,if_neg k4]
 by_cases k5 : v.kind = 5
 ·rw [if_pos k5,if_pos k5]
  cases ho : Ia e v.tx
  ·rw [if_neg (show ¬ (Ia (e.on d s) v.tx = true) by rw [show Ia (e.on d s) v.tx = Ia e v.tx from rfl,ho];simp),if_neg (by simp)]
   exact ⟨⟨d,s,rfl⟩,hup⟩
  ·rw [if_pos (show Ia (e.on d s) v.tx = true from ho),if_pos rfl]
   have h0 : lastT e v.tx ≠ 0:=(Dz.1 ho).2.2
   rw [DF,DF,if_neg (show ¬ lastT (e.on d s) v.tx = 0 from h0),if_neg h0]
   exact ⟨⟨d,s,undoK_on v.tx _ e d s⟩,(undoK_down _ _ _).trans hup⟩
 rw [if_neg k5,if_neg k5]
 by_cases k6 : v.kind = 6
 ·rw [if_pos k6,if_pos k6]
  by_cases hc : e.down = false ∧ inB v.page 0 4 = true
  ·rw [if_pos (show (e.on d s).down = false ∧ inB v.page 0 4 = true from hc),if_pos hc]
   exact ⟨⟨_,_,rfl⟩,hup⟩
  ·rw [if_neg (show ¬ ((e.on d s).down = false ∧ inB v.page 0 4 = true) from hc),if_neg hc]
   exact ⟨⟨d,s,rfl⟩,hup⟩
 rw [if_neg k6,if_neg k6]
 by_cases k7 : v.kind = 7
 ·rw [if_pos k7,if_pos k7,if_pos (show (e.on d s).down = false from hup),if_pos hup]
  exact ⟨⟨_,_,rfl⟩,hup⟩
 rw [if_neg k7,if_neg k7,if_neg h8,if_neg h8]
 by_cases k9 : v.kind = 9
 ·rw [if_pos k9,if_pos k9,if_neg (show ¬ ((e.on d s).down = true ∧ 0 ≤ v.n) from fun h => by have : e.down = true:=h.1;rw [hup] at this;cases this),if_neg (fun h => by rw [hup] at h;cases h.1)]
  exact ⟨⟨d,s,rfl⟩,hup⟩
 ·rw [if_neg k9,if_neg k9]
  exact ⟨⟨d,s,rfl⟩,hup⟩
theorem play_quiet {e : Eng} (hup : e.down = false) {v : Evt} (h : v.kind = 6 ∨ v.kind = 7) : ∃ d s,Az e v = e.on d s:=by
 rcases h with h | h
 ·have hp : Az e v = if e.down = false ∧ inB v.page 0 4 = true then D7 e v.page.toNat else e:=by simp [Az,h]
  rw [hp]
  split
  ·exact ⟨_,_,rfl⟩
  ·exact ⟨e.disk,e.safe,rfl⟩
 ·have hp : Az e v = GI e:=by simp [Az,h,hup]
  rw [hp]
  exact ⟨_,_,rfl⟩
def quietB (v : Evt) : Bool:=v.kind == 6 || v.kind == 7
theorem trueR_quiet : ∀ (vs : List Evt) (e : Eng) (d : List Page) (s : Int) (C : Nat → Page),e.down = false → (∀ v ∈ vs,v.kind ≠ 8) → FJ (e.on d s) C (vs.filter fun v => !quietB v) = FJ e C vs
 | [],_,_,_,_,_,_ => rfl
 | v :: vs,e,d,s,C,hup,h8 => by
  have hv8:=h8 v (by simp)
  have hr : ∀ u ∈ vs,u.kind ≠ 8:=fun u hu => h8 u (by simp [hu])
  cases hq : quietB v
  ·rw [List.filter_cons,hq]
   obtain ⟨⟨d',s',h1⟩,h2⟩:=play_on hup d s v hv8
   show FJ (Az (e.on d s) v) (trueE (e.on d s) v C) (vs.filter fun v => !quietB v) = FJ (Az e v) (trueE e v C) vs
   rw [h1,show trueE (e.on d s) v C = trueE e v C from rfl]
   exact trueR_quiet vs (Az e v) d' s' (trueE e v C) h2 hr
  ·rw [List.filter_cons,hq]
   have hk : v.kind = 6 ∨ v.kind = 7:=by simpa [quietB] using hq
   obtain ⟨d',s',h1⟩:=play_quiet hup hk
   show FJ (e.on d s) C (vs.filter fun v => !quietB v) = FJ (Az e v) (trueE e v C) vs
   rw [h1,Vb (by omega)]
   exact trueR_quiet vs (e.on d' s') d s C hup hr
theorem trueC_quiet {vs : List Evt} (h8 : ∀ v ∈ vs,v.kind ≠ 8) : OE (vs.filter fun v => !quietB v) = OE vs:=trueR_quiet vs newE newE.disk newE.safe _ rfl h8
theorem trueC_none {vs : List Evt} : OE (vs.filter fun v => v.kind != 4) = fun _ => newP:=OC _ _ _ (fun v hv => by simpa using (List.mem_filter.1 hv).2)
abbrev EvI:=Evt × (Option Addr × Nat)
def evI (p : EvI) : List Value := [.int .i64 p.1.kind, .int .i64 p.1.tx, .int .i64 p.1.page, .int .i64 p.1.slot, .int .i64 p.1.n, .slice p.2.1 p.1.vals.length p.2.2]
theorem evI_K (w : World) (p : EvI) (h1 : p.1.vals.length ≤ p.2.2) (h : (Kd.int .i64).C w p.2.1 p.1.vals.length p.1.vals) : kEvt.K w p.1 (evI p):=
 ⟨[.int .i64 p.1.kind], [.int .i64 p.1.tx, .int .i64 p.1.page, .int .i64 p.1.slot, .int .i64 p.1.n, .slice p.2.1 p.1.vals.length p.2.2],rfl,rfl,⟨[.int .i64 p.1.tx], [.int .i64 p.1.page, .int .i64 p.1.slot, .int .i64 p.1.n, .slice p.2.1 p.1.vals.length p.2.2],rfl,rfl,⟨[.int .i64 p.1.page], [.int .i64 p.1.slot, .int .i64 p.1.n, .slice p.2.1 p.1.vals.length p.2.2],rfl,rfl,⟨[.int .i64 p.1.slot], [.int .i64 p.1.n, .slice p.2.1 p.1.vals.length p.2.2],rfl,rfl,⟨[.int .i64 p.1.n], [.slice p.2.1 p.1.vals.length p.2.2],rfl,rfl,⟨p.2.1,p.2.2,rfl,h1,h⟩⟩⟩⟩⟩⟩
theorem flatI : ∀ (vs : List EvI) (i k : Nat) (p : EvI),vs[i]? = some p → k < 6 → (vs.flatMap evI)[i * 6 + k]? = (evI p)[k]?
 | [],i,k,p,h,_ => by simp at h
 | v :: vs,0,k,p,h,hk => by
  obtain rfl : v = p:=by simpa using h
  rw [List.flatMap_cons,Nat.zero_mul,Nat.zero_add,List.getElem?_append_left (by simpa [evI] using hk)]
 | v :: vs,i + 1,k,p,h,hk => by
  rw [List.flatMap_cons,List.getElem?_append_right (by simp [evI];omega)]
  rw [show (i + 1) * 6 + k - (evI v).length = i * 6 + k by simp [evI];omega]
  exact flatI vs i k p (by simpa using h) hk
structure Less (wB w : World) (v : Value) (us : List Evt) : Prop where
 ex : ∃ ps : List EvI,ps.map Prod.fst = us ∧ (∀ p ∈ ps,p.1.vals.length ≤ p.2.2 ∧ (Kd.int .i64).C wB p.2.1 p.1.vals.length p.1.vals) ∧ w.ownsRow wB.heap.size 36 6 v us.length (ps.flatMap evI)
 bel : Below wB.heap.size wB w
theorem Less.nil {wB W : World} (h : Below wB.heap.size wB W) : Less wB (W.alloc (.cells #[] 36)) (.slice (some ⟨W.heap.size,0,none⟩) 0 0) []:=
 ⟨⟨[],rfl,fun _ hp => by simp at hp,own_none' _ 6 rfl h.size⟩,Ab h _⟩
theorem Less.reads {wB w : World} {v : Value} {us : List Evt} (h : Less wB w v us) (hl : us.length ≤ 1000) : ∃ A c,v = .slice A us.length c ∧ us.length ≤ c ∧ Kd.C kEvt w A us.length us:=by
 obtain ⟨⟨ps,h1,h2,h3,h4⟩,hb⟩:=h
 have hpl : ps.length = us.length:=by rw [← h1,List.length_map]
 rcases h4 with ⟨h4,h5⟩ | ⟨g,cap,cur,rfl,hg,hc,hn,hm,hs,ht⟩
 ·have : us = []:=List.eq_nil_of_length_eq_zero h5
  subst this
  exact ⟨none,0,h4,Nat.le_refl _,rfl,by simp,fun h0 => by simp at h0⟩
 ·refine ⟨_,cap,rfl,hn,rfl,by omega,fun _ => ⟨_,rfl,fun i p hp => ?_⟩⟩
  obtain ⟨q,hq,hqp⟩ : ∃ q,ps[i]? = some q ∧ q.1 = p:=by
   rw [← h1,List.getElem?_map] at hp
   cases hx : ps[i]? with
   | none => rw [hx] at hp;cases hp
   | some q => rw [hx] at hp;exact ⟨q,rfl,by simpa using hp⟩
  subst hqp
  have hok:=h2 q (List.mem_of_getElem? hq)
  refine ⟨evI q,rfl,evI_K w q hok.1 (BA hok.2 hb),fun k u hu => ?_⟩
  have hk : k < 6:=by have:=(List.getElem?_eq_some_iff.1 hu).1;simpa [evI] using this
  have hf:=flatI ps i k q hq hk
  have hz : kEvt.sz = 6:=by kernel_rfl
  rw [hz]
  have ha : (⟨g,0,none⟩ : Addr).add (i * 6 + k) = ⟨g,0 + (i * 6 + k),none⟩:=by simp [Addr.add];omega
  rw [ha,Nat.zero_add]
  have hil : i < ps.length:=(List.getElem?_eq_some_iff.1 hq).1
  have hcur : cur[i * 6 + k]? = some u:=by
   rw [← Array.getElem?_toList]
   have : (cur.toList.take (us.length * 6))[i * 6 + k]? = cur.toList[i * 6 + k]?:=List.getElem?_take_of_lt (by omega)
   rw [← this,ht,hf,hu]
  unfold World.cell?
  rw [hc]
  exact hcur
section
variable {ops : Array Oper} {rest : List Oper} {o : Oper} {a : Act} {Q : Exit → Act → World → Prop}
theorem less_append {wB W : World} {v : Value} {us : List Evt} (q : EvI) (hgd : o.guard = none) (s x : Operand)
  (ho : o.op = .call { callee:=.builtin .append,args:=#[s,x],argTypes:=#[23,23] }) (hs : a.eval s = v) (hx : a.eval x = .slice (some ⟨W.heap.size,0,none⟩) 1 1)
  (hq : q.1.vals.length ≤ q.2.2 ∧ (Kd.int .i64).C wB q.2.1 q.1.vals.length q.1.vals) (HO : Less wB W v us) (hl : us.length + 1 ≤ 1000)
  (h : ∀ v1 w1,Less wB w1 v1 (us ++ [q.1]) → wpList Tryz.prog ops Q rest (a.put o.dst v1) w1) :
  wpList Tryz.prog ops Q (o :: rest) a (W.alloc (.cells #[.int .i64 q.1.kind, .int .i64 q.1.tx, .int .i64 q.1.page, .int .i64 q.1.slot, .int .i64 q.1.n, .slice q.2.1 q.1.vals.length q.2.2] 36)):=by
 obtain ⟨⟨ps,h1,h2,h3⟩,hb⟩:=HO
 refine I8 (w0:=wB) wB.heap.size hgd s x 23 36 _ 6 64 ho Te WJ rfl (by decide) (by decide) v us.length (ps.flatMap evI) (evI q) hs hx rfl (fun u hu => ?_) h3 hb hb.size (by omega) (fun v1 w1 h4 h5 _ _ => h v1 w1 ⟨⟨ps ++ [q],by rw [List.map_append,h1];rfl,fun p hp => ?_,?_⟩,h5⟩)
 ·simp only [evI,List.mem_cons,List.not_mem_nil,or_false] at hu
  rcases hu with rfl | rfl | rfl | rfl | rfl | rfl <;> rfl
 ·rcases List.mem_append.1 hp with hp | hp
  ·exact h2 p hp
  ·obtain rfl : p = q:=by simpa using hp
   exact hq
 ·rw [List.length_append,List.flatMap_append]
  simpa using h4
end
end Go.Proofs.YtofgeajaajfiaaaGreat
