/- A part of the proof: what the last text of the claim says leans on this one. -/
import Derived.Test.YtjeodgfkilhkhaaGreatZV1
import Derived.Test.YtjeodgfkilhkhaaGreatZN2
import Derived.Test.YtjeodgfkilhkhaaGreatZI1
import Derived.Test.YtjeodgfkilhkhaaGreatZN1
set_option linter.unusedVariables false
set_option linter.unusedSimpArgs false
namespace Go.Proofs.YtjeodgfkilhkhaaGreat
open Go.RowKit Go.Proofs.YtjeodgfkilhkhaaGreatW.PrintWords Go.Proofs.YtjeodgfkilhkhaaGreatW.PrintLast Go.Proofs.YtjeodgfkilhkhaaGreatW.PrintMore
theorem AA.kept {w w1 : World} {b : Nat} {v : Value} {xs : List Int} {S : Nat → Prop} (h : AA w b v xs) (hk : Kept w w1 S) (hS : ∀ k,S k → k < b) : AA w1 b v xs:=by
 have h1 : RI w b (fun k => b ≤ k) v xs:=Kd.EN h (fun k hk => BN h k hk)
 have h2 : RI w1 b (fun k => b ≤ k) v xs:=Kd.Ih h1 hk (fun k hb hs => by have:=hS k hs;omega)
 exact Kd.I4 h2
theorem Qi (W : World) (a b c : Int) : AA (W.alloc (.cells #[.int .i64 a, .int .i64 b, .int .i64 c] 3)) W.heap.size (.slice (some ⟨W.heap.size,0,none⟩) 3 3) [a,b,c]:=⟨rfl, .inr ⟨W.heap.size,3,#[.int .i64 a, .int .i64 b, .int .i64 c],rfl,Nat.le_refl _,(by show (W.heap.push _)[W.heap.size]? = _;simp),Nat.le_refl _,(by decide),rfl,rfl⟩⟩
theorem PS {P : Program} {ops : Array Oper} {l : List Oper} {Q : Exit → Act → World → Prop} {act : Act} {W : World} (a b c : Int) (h : ∀ w1,Below W.heap.size W w1 → AA w1 W.heap.size (.slice (some ⟨W.heap.size,0,none⟩) 3 3) [a,b,c] → wpList P ops Q l act w1) : wpList P ops Q l act (W.alloc (.cells #[.int .i64 a, .int .i64 b, .int .i64 c] 3)):=
 h _ ((Below.refl _ _).alloc (Nat.le_refl _) _) ⟨rfl, .inr ⟨W.heap.size,3,#[.int .i64 a, .int .i64 b, .int .i64 c],rfl,Nat.le_refl _,(by show (W.heap.push _)[W.heap.size]? = _;simp),Nat.le_refl _,(by decide),rfl,rfl⟩⟩
theorem EvB.all {w : World} {g : Nat} {v : Evt} {u : Value} (h : EvB w g v u) : w.cell? ⟨g,0,none⟩ = some (.int .i64 v.kind) ∧ w.cell? ⟨g,1,none⟩ = some (.int .i64 v.tx) ∧ w.cell? ⟨g,2,none⟩ = some (.int .i64 v.page) ∧ w.cell? ⟨g,3,none⟩ = some (.int .i64 v.slot) ∧ w.cell? ⟨g,4,none⟩ = some (.int .i64 v.n) ∧ w.cell? ⟨g,5,none⟩ = some u:=⟨h.c0,h.c1,h.c2,h.c3,h.c4,h.c5⟩
structure Dr (wB w wk : World) (g b : Nat) (A : Option Addr) (n c : Nat) (p : Int) (e : Eng) (vd vm vl : Value) : Prop where
 rd : BZ wk g A n c p
 eg : Ab wk w.heap.size e vd vm vl
 ev : EvB wk (w.heap.size + 1) v0 (.slice none 0 0)
 own : Aw wk b vd vm vl e
 bel : Below wB.heap.size wB wk
 wr : Wrote w wk (fun j => j = g)
 hgb : g < b
 hBg : wB.heap.size ≤ g
 hgw : g < w.heap.size
section
variable {wB w wk w1 : World} {g b n c : Nat} {A : Option Addr} {p : Int} {e : Eng} {vd vm vl : Value}
theorem Dr.facts (h : Dr wB w wk g b A n c p e vd vm vl) : wk.cell? ⟨w.heap.size,0,none⟩ = some vd ∧ wk.cell? ⟨w.heap.size,1,none⟩ = some vm ∧ wk.cell? ⟨w.heap.size,2,none⟩ = some vl ∧ wk.cell? ⟨w.heap.size,3,none⟩ = some (.int .i64 e.safe) ∧ wk.cell? ⟨w.heap.size,4,none⟩ = some (.bool e.down) ∧ wk.cell? ⟨w.heap.size + 1,0,none⟩ = some (.int .i64 v0.kind) ∧ wk.cell? ⟨w.heap.size + 1,1,none⟩ = some (.int .i64 v0.tx) ∧ wk.cell? ⟨w.heap.size + 1,2,none⟩ = some (.int .i64 v0.page) ∧ wk.cell? ⟨w.heap.size + 1,3,none⟩ = some (.int .i64 v0.slot) ∧ wk.cell? ⟨w.heap.size + 1,4,none⟩ = some (.int .i64 v0.n) ∧ wk.cell? ⟨w.heap.size + 1,5,none⟩ = some (.slice none 0 0) ∧ wk.frozen? ⟨w.heap.size + 1,0,none⟩ = false ∧ wk.frozen? ⟨w.heap.size + 1,1,none⟩ = false ∧ wk.frozen? ⟨w.heap.size + 1,2,none⟩ = false ∧ wk.frozen? ⟨w.heap.size + 1,3,none⟩ = false ∧ wk.frozen? ⟨w.heap.size + 1,4,none⟩ = false ∧ wk.frozen? ⟨w.heap.size + 1,5,none⟩ = false:=⟨h.eg.c0,h.eg.c1,h.eg.c2,h.eg.c3,h.eg.c4,h.ev.c0,h.ev.c1,h.ev.c2,h.ev.c3,h.ev.c4,h.ev.c5,h.ev.frz 0,h.ev.frz 1,h.ev.frz 2,h.ev.frz 3,h.ev.frz 4,h.ev.frz 5⟩
theorem Dr.below (h : Dr wB w wk g b A n c p e vd vm vl) (hb : Below wk.heap.size wk w1) : Dr wB w w1 g b A n c p e vd vm vl:=
 ⟨h.rd.up hb,h.eg.up hb,h.ev.up hb,h.own.below hb,bj h.bel hb,h.wr.Ce (Wrote.of_below hb (fun j => j = g)) (fun _ h => .inl h),h.hgb,h.hBg,h.hgw⟩
theorem Dr.pick {p' : Int} (h : Dr wB w wk g b A n c p e vd vm vl) (hr : BZ w1 g A n c p') (hw : Wrote wk w1 (fun j => j = g)) : Dr wB w w1 g b A n c p' e vd vm vl:=by
 have hgw:=h.hgw
 have h1 : Below wB.heap.size wB w1:=h.bel.trans (hw.bel (fun k hk => by have:=h.hBg;omega) h.bel.size)
 exact ⟨hr,(hw.kept.2 _ h.eg.lt (by omega)).trans h.eg,(hw.kept.2 _ h.ev.lt (by omega)).trans h.ev,(h.own.toK.kept hw.kept (fun k hk e => by have:=h.hgb;omega)).E,h1,h.wr.Ce hw (fun _ h => .inl h),h.hgb,h.hBg,h.hgw⟩
theorem Dr.call {xs : List Int} {q m : Int} (h : Dr wB w wk g b A xs.length c p e vd vm vl) (hc : (0 ≤ q ∧ q ≤ 900000) ∧ xs.length ≤ 2000 ∧ Bytes xs ∧ Kd.C (Kd.int .u8) wB A xs.length xs) (hq : q ≤ p ∧ p ≤ q + 12) (hm : 1 ≤ m ∧ m ≤ 1000) : Calls Tryz.prog 33 #[.pointer (some ⟨g,0,none⟩), .int .i64 m] wk fun x w' => ∃ k : Nat,x = .returned (.int .i64 (k : Int)) ∧ (k : Int) < m ∧ Dr wB w w' g b A xs.length c (p + 1) e vd vm vl ∧ Wrote wk w' (fun j => j = g):=by
 refine (Hw (wB:=wB) (by omega) (by omega) hm.1 hm.2 hc.2.1 hc.2.2.1 h.bel h.hBg hc.2.2.2 h.rd).mono ?_
 rintro x w' ⟨k,rfl,hk,hrd,hw⟩
 obtain ⟨hk0,hk1⟩:=hk hm.1
 obtain ⟨k,rfl⟩:=Int.eq_ofNat_of_zero_le hk0
 exact ⟨k,rfl,hk1,h.pick hrd hw,hw⟩
def Vt (w : World) (g : Nat) (A : Option Addr) (n c : Nat) (p : Int) (x : Ending) (w' : World) : Prop := ∃ (v : Evt) (u : Value),x = .returned (v.own u) ∧ AA w' w.heap.size u v.vals ∧ v.vals.length ≤ 3 ∧ (∃ p',p ≤ p' ∧ p' ≤ p + 12 ∧ BZ w' g A n c p') ∧ Wrote w w' (fun j => j = g)
theorem Dr.size (h : Dr wB w wk g b A n c p e vd vm vl) : w.heap.size + 2 ≤ wk.heap.size:=h.ev.lt
theorem Dr.mem {ad : Addr} {cm m : Nat} {ud ul : Value} {j : Nat} (h : Dr wB w wk g b A n c p e ud (.slice (some ad) m cm) ul) (hj : j < e.mem.length) : wk.cell? ⟨(ad.add (j * 3)).block,(ad.add (j * 3)).off + 1,none⟩ = some (.int .i64 (pg e.mem j).owner):=by
 obtain ⟨_,_,Am,_,_,_, -,h2, -, -,hc⟩:=h.own.reads
 injection h2 with h2
 subst h2
 obtain ⟨_,_,_,h3,hP, -⟩:=DT hc.m j hj
 injection h3 with h3
 subst h3
 exact hP.c1
theorem Wrote.F5 {w W : World} {S : Nat → Prop} {h : Nat} (hw : Wrote w W S) (hp : S h ∨ w.heap.size ≤ h) (v : Evt) (u : Value) : Wrote w (Go.Proofs.YtjeodgfkilhkhaaGreat.F5 W h v u) S:=(((((hw.setCell (p:=⟨h,0,none⟩) hp _).setCell (p:=⟨h,1,none⟩) hp _).setCell (p:=⟨h,2,none⟩) hp _).setCell (p:=⟨h,3,none⟩) hp _).setCell (p:=⟨h,4,none⟩) hp _).setCell (p:=⟨h,5,none⟩) hp _
theorem BZ.far {h : Nat} (hq : BZ wk g A n c p) (hne : g ≠ h) (j : Nat) (u : Value) : BZ (wk.setCell ⟨h,j,none⟩ u) g A n c p:=(Below.heap_setCell wk ⟨h,j,none⟩ u g hne).trans hq
theorem BZ.F5 {h : Nat} (hq : BZ wk g A n c p) (hne : g ≠ h) (v : Evt) (u : Value) : BZ (Go.Proofs.YtjeodgfkilhkhaaGreat.F5 wk h v u) g A n c p:=(((((hq.far hne _ _).far hne _ _).far hne _ _).far hne _ _).far hne _ _).far hne _ _
theorem Dr.done {q : Int} (h : Dr wB w wk g b A n c p e vd vm vl) (v : Evt) {u : Value} (hu : AA wk (w.heap.size + 2) u v.vals) (hl : v.vals.length ≤ 3) (h0 : q ≤ p) (h1 : p ≤ q + 12) : Vt w g A n c q (.returned (v.own u)) (Go.Proofs.YtjeodgfkilhkhaaGreat.F5 wk (w.heap.size + 1) v u):=by
 have hgw:=h.hgw
 exact ⟨v,u,rfl,(hu.F5 (by omega) v u).lower (by omega),hl,⟨p,h0,h1,h.rd.F5 (by omega) v u⟩,h.wr.F5 (.inr (by omega)) v u⟩
end
def Cd (wB w : World) (g b : Nat) (A : Option Addr) (n c : Nat) (p Q : Int) (e : Eng) (vd vm vl : Value) (wx : World) : Prop := ∃ q,p ≤ q ∧ q ≤ Q ∧ Dr wB w wx g b A n c q e vd vm vl
section
variable {wB w wk w1 : World} {g b n c : Nat} {A : Option Addr} {p Q Q' : Int} {e : Eng} {vd vm vl : Value}
theorem Cd.below (h : Cd wB w g b A n c p Q e vd vm vl wk) (hb : Below wk.heap.size wk w1) : Cd wB w g b A n c p Q e vd vm vl w1:=by
 obtain ⟨q,h0,h1,h2⟩:=h
 exact ⟨q,h0,h1,h2.below hb⟩
theorem Cd.mono (h : Cd wB w g b A n c p Q e vd vm vl wk) (hq : Q ≤ Q') : Cd wB w g b A n c p Q' e vd vm vl wk:=by
 obtain ⟨q,h0,h1,h2⟩:=h
 exact ⟨q,h0,by omega,h2⟩
theorem Cd.call {xs : List Int} {m : Int} (h : Cd wB w g b A xs.length c p Q e vd vm vl wk) (hp : 0 ≤ p ∧ Q ≤ 1000000) (hm0 : 1 ≤ m) (hm1 : m ≤ 1000) (hn : xs.length ≤ 2000) (hx : Bytes xs) (hr : Kd.C (Kd.int .u8) wB A xs.length xs) : Calls Tryz.prog 33 #[.pointer (some ⟨g,0,none⟩), .int .i64 m] wk fun x w' => ∃ k : Nat,x = .returned (.int .i64 (k : Int)) ∧ (k : Int) < m ∧ Cd wB w g b A xs.length c p (Q + 1) e vd vm vl w' ∧ Wrote wk w' (fun j => j = g):=by
 obtain ⟨q,h0,h1,h2⟩:=h
 refine (Hw (wB:=wB) (by omega) (by omega) hm0 hm1 hn hx h2.bel h2.hBg hr h2.rd).mono ?_
 rintro x w' ⟨k,rfl,hk,hrd,hw⟩
 obtain ⟨hk0,hk1⟩:=hk hm0
 obtain ⟨k,rfl⟩:=Int.eq_ofNat_of_zero_le hk0
 exact ⟨k,rfl,hk1,⟨q + 1,by omega,by omega,h2.pick hrd hw⟩,hw⟩
end
set_option maxRecDepth 100000 in
set_option maxHeartbeats 16000000 in
theorem Nv {wB w : World} {g b c : Nat} {A : Option Addr} {xs : List Int} {p : Int} {e : Eng} {vd vm vl : Value} (hp0 : 0 ≤ p) (hp1 : p ≤ 900000) (hn : xs.length ≤ 2000) (hx : Bytes xs) (hb : Below wB.heap.size wB w) (hg : wB.heap.size ≤ g) (hr : Kd.C (Kd.int .u8) wB A xs.length xs) (hq : BZ w g A xs.length c p) (ho : Aw w b vd vm vl e) (hgb : g < b) (hm : e.mem.length = 5) (hlog : Au e.log = true) : Calls Tryz.prog 124 #[.pointer (some ⟨g,0,none⟩),e.ag vd vm vl] w (Vt w g A xs.length c p):=by
 have HP:=As (And.intro hp0 hp1)
 have HC:=As (And.intro (And.intro hp0 hp1) (And.intro hn (And.intro hx hr)))
 have HN:=As hn
 have HXS:=As hx
 have HR:=As hr
 have HM:=As hm
 have HLOG:=As hlog
 obtain ⟨Ad,cd,Am,cm,Al,cl,rfl,rfl,rfl, -,hrd⟩:=ho.reads
 obtain ⟨ad, -, -,rfl, -⟩:=DT hrd.m 0 (by omega)
 obtain ⟨w1,hw1⟩ : ∃ w1,w.alloc (e.obox (.slice Ad e.disk.length cd) (.slice (some ad) e.mem.length cm) (.slice Al e.log.length cl)) = w1:=⟨_,rfl⟩
 obtain ⟨w2,hw2⟩ : ∃ w2,w1.alloc (Obj.cells #[.int .i64 0, .int .i64 0, .int .i64 0, .int .i64 0, .int .i64 0, .slice none 0 0] 114) = w2:=⟨_,rfl⟩
 have HW2 : A7 ((w.alloc (e.obox (.slice Ad e.disk.length cd) (.slice (some ad) e.mem.length cm) (.slice Al e.log.length cl))).alloc (Obj.cells #[.int .i64 0, .int .i64 0, .int .i64 0, .int .i64 0, .int .i64 0, .slice none 0 0] 114) = w2):=⟨by rw [hw1,hw2]⟩
 have hb1 : Below w.heap.size w w1:=by rw [← hw1];exact Aa (Below.refl _ _) _
 have hb2 : Below w1.heap.size w1 w2:=by rw [← hw2];exact Aa (Below.refl _ _) _
 have hz1 : w1.heap.size = w.heap.size + 1:=by rw [← hw1,BD]
 have hb12:=bj hb1 hb2
 have hq1 : Ab w2 w.heap.size e (.slice Ad e.disk.length cd) (.slice (some ad) e.mem.length cm) (.slice Al e.log.length cl):=(show Ab w1 w.heap.size e _ _ _ by rw [← hw1];exact Ab.mk1 _ _ _ _ _).up hb2
 have hv1 : EvB w2 (w.heap.size + 1) v0 (.slice none 0 0):=by rw [← hw2, ← hz1];exact EvB.mk1 w1 v0 (.slice none 0 0)
 have HS : A7 (Dr wB w w2 g b A xs.length c p e (.slice Ad e.disk.length cd) (.slice (some ad) e.mem.length cm) (.slice Al e.log.length cl)):=⟨⟨hq.up hb12,hq1,hv1,ho.below hb12,bj hb hb12,Wrote.of_below hb12 _,hgb,hg,hq.lt⟩⟩
 obtain ⟨x0,x1,x2,x3,x4,y0,y1,y2,y3,y4,y5,f0,f1,f2,f3,f4,f5⟩:=HS.out.facts
 clear hn hx hr hm hlog hrd hw1 hw2 hb1 hb2 hz1 hb12 hq1 hv1 hb hq ho
 have H1 : True:=trivial
 have H2 : True:=trivial
 have H3 : True:=trivial
 have H4 : True:=trivial
 have H5 : True:=trivial
 cases hd : e.down
 all_goals
  have HD:=As hd
  clear hd
 rotate_left
 ·go_enter Tryz.func124,Tryz.ntmps124
  go_wp2_with (first | (clear H1;rw [HW2.out];go_at_call 33;refine (HS.out.call HC.out (by omega) (by decide)).mono ?_;rintro x wk ⟨tx,rfl,hk1,hs,hw⟩;have HS:=As hs;clear hs hw;clear x0 x1 x2 x3 x4 y0 y1 y2 y3 y4 y5 f0 f1 f2 f3 f4 f5;obtain ⟨x0,x1,x2,x3,x4,y0,y1,y2,y3,y4,y5,f0,f1,f2,f3,f4,f5⟩:=HS.out.facts) | (clear H2;go_at_call 33;refine (HS.out.call HC.out (by omega) (by decide)).mono ?_;rintro x wk ⟨j,rfl,hk1,hs,hw⟩;have HS:=As hs;clear hs hw;clear x0 x1 x2 x3 x4 y0 y1 y2 y3 y4 y5 f0 f1 f2 f3 f4 f5;obtain ⟨x0,x1,x2,x3,x4,y0,y1,y2,y3,y4,y5,f0,f1,f2,f3,f4,f5⟩:=HS.out.facts;have hj : j < e.mem.length:=(by have:=HM.out;omega);have hjm : (j : Int) < (e.mem.length : Int):=(by omega);have p1:=HS.out.mem hj;rw [HD.out] at x4) | (clear H4;go_at_call 33;refine (HS.out.call HC.out (by omega) (by decide)).mono ?_;rintro x wk ⟨k2,rfl,hk1,hs,hw⟩;have HROW:=As (HROW.out.kept hw.kept (fun m hm => by have hm : m = g:=hm;have:=HRN.out;have:=HS.out.hgw;omega));have HS:=As hs;clear hs hw;clear x0 x1 x2 x3 x4 y0 y1 y2 y3 y4 y5 f0 f1 f2 f3 f4 f5;obtain ⟨x0,x1,x2,x3,x4,y0,y1,y2,y3,y4,y5,f0,f1,f2,f3,f4,f5⟩:=HS.out.facts;clear p1;have p1:=HS.out.mem hj;have hc0:=(HROW.out.at ((k2 : Nat) : Int) (by omega) (by show ((k2 : Nat) : Int) < 3;omega)).1;rw [Int.toNat_natCast] at hc0;have hc:=(Exists.intro (p:=fun z => wk.cell? ⟨_,k2,none⟩ = some (.int .i64 z)) _ hc0);clear hc0;obtain ⟨zz,hc⟩:=hc) | (with_reducible refine PS 99 99 _ ?_;intro wz hbz hoz;have HROW:=As hoz;have HRN:=As HS.out.size;have HS:=As (HS.out.below hbz);clear hbz hoz;clear x0 x1 x2 x3 x4 y0 y1 y2 y3 y4 y5 f0 f1 f2 f3 f4 f5;obtain ⟨x0,x1,x2,x3,x4,y0,y1,y2,y3,y4,y5,f0,f1,f2,f3,f4,f5⟩:=HS.out.facts;clear p1;have p1:=HS.out.mem hj) | (clear H3;go_at_call 33;refine (HS.out.call HC.out (by omega) (by decide)).mono ?_;rintro x wk ⟨k1,rfl,hk1,hs,hw⟩;have HS:=As hs;clear hs hw;clear x0 x1 x2 x3 x4 y0 y1 y2 y3 y4 y5 f0 f1 f2 f3 f4 f5;obtain ⟨x0,x1,x2,x3,x4,y0,y1,y2,y3,y4,y5,f0,f1,f2,f3,f4,f5⟩:=HS.out.facts;clear p1;have p1:=HS.out.mem hj))
  obtain ⟨z0,z1,z2,z3,z4,z5⟩:=(HS.out.ev.F5 ⟨9,0,0,0,zz, []⟩ (.slice none 0 0)).all
  exact bodyPost_ret (v:=Evt.own ⟨9,0,0,0,zz, []⟩ (.slice none 0 0)) (by simp [results,Tryz.results124,go_sem,z0,z1,z2,z3,z4,z5]) rfl (HS.out.done (q:=p) _ (AA.nil _ _) (by simp) (by omega) (by omega))
 ·go_enter Tryz.func124,Tryz.ntmps124
  go_wp2_with (first | (clear H1;rw [HW2.out];go_at_call 33;refine (HS.out.call HC.out (by omega) (by decide)).mono ?_;rintro x wk ⟨tx,rfl,hk1,hs,hw⟩;have HS:=As hs;clear hs hw;clear x0 x1 x2 x3 x4 y0 y1 y2 y3 y4 y5 f0 f1 f2 f3 f4 f5;obtain ⟨x0,x1,x2,x3,x4,y0,y1,y2,y3,y4,y5,f0,f1,f2,f3,f4,f5⟩:=HS.out.facts) | (clear H2;go_at_call 33;refine (HS.out.call HC.out (by omega) (by decide)).mono ?_;rintro x wk ⟨j,rfl,hk1,hs,hw⟩;have HS:=As hs;clear hs hw;clear x0 x1 x2 x3 x4 y0 y1 y2 y3 y4 y5 f0 f1 f2 f3 f4 f5;obtain ⟨x0,x1,x2,x3,x4,y0,y1,y2,y3,y4,y5,f0,f1,f2,f3,f4,f5⟩:=HS.out.facts;have hj : j < e.mem.length:=(by have:=HM.out;omega);have hjm : (j : Int) < (e.mem.length : Int):=(by omega);have p1:=HS.out.mem hj;rw [HD.out] at x4))
  go_at_call 33
  refine (HS.out.call HC.out (by omega) (by decide)).mono ?_
  rintro x wk ⟨s,rfl,hk1,hs,hw⟩
  have HS:=As hs
  clear hs hw
  clear x0 x1 x2 x3 x4 y0 y1 y2 y3 y4 y5 f0 f1 f2 f3 f4 f5
  obtain ⟨x0,x1,x2,x3,x4,y0,y1,y2,y3,y4,y5,f0,f1,f2,f3,f4,f5⟩:=HS.out.facts
  clear p1
  have p1:=HS.out.mem hj
  obtain ⟨s,hs⟩ : ∃ s0 : Int,s0 = (s : Int):=⟨_,rfl⟩
  rw [← hs]
  have hs0 : 0 ≤ s:=by omega
  have hs1 : s < 16:=by omega
  clear hs hk1
  have hcs : s = 0 ∨ s = 1 ∨ s = 2 ∨ s = 3 ∨ s = 4 ∨ s = 5 ∨ s = 6 ∨ s = 7 ∨ s = 8 ∨ s = 9 ∨ 10 ≤ s:=by omega
  clear hs0 hs1
  rcases hcs with rfl | rfl | rfl | rfl | rfl | rfl | rfl | rfl | rfl | rfl | hs
  rotate_right
  ·
   have n0 : (s == 0) = false:=by rw [beq_eq_false_iff_ne];omega
   have n1 : (s == 1) = false:=by rw [beq_eq_false_iff_ne];omega
   have n2 : (s == 2) = false:=by rw [beq_eq_false_iff_ne];omega
   have n3 : (s == 3) = false:=by rw [beq_eq_false_iff_ne];omega
   have n4 : (s == 4) = false:=by rw [beq_eq_false_iff_ne];omega
   have n5 : (s == 5) = false:=by rw [beq_eq_false_iff_ne];omega
   have n6 : (s == 6) = false:=by rw [beq_eq_false_iff_ne];omega
   have n7 : (s == 7) = false:=by rw [beq_eq_false_iff_ne];omega
   have n8 : (s == 8) = false:=by rw [beq_eq_false_iff_ne];omega
   have n9 : (s == 9) = false:=by rw [beq_eq_false_iff_ne];omega
   go_wp2
   go_loopw [8,6] (fun i pv wr => ∃ (k j : Nat) (q : Int),k ≤ 4 ∧ i = .int .i64 (k : Int) ∧ j < e.mem.length ∧ pv = .int .i64 (j : Int) ∧ p ≤ q ∧ q ≤ p + 3 + k ∧ A7 (Dr wB w wr g b A xs.length c q e (.slice Ad e.disk.length cd) (.slice (some ad) e.mem.length cm) (.slice Al e.log.length cl))) (fun i _ _ => (4 - intOf i).toNat)
   case atStart => exact ⟨0,j,p + 1 + 1 + 1,by decide,rfl,hj,rfl,by omega,by omega,HS⟩
   case round =>
    clear p1 hj hjm x0 x1 x2 x3 x4 y0 y1 y2 y3 y4 y5 f0 f1 f2 f3 f4 f5 HS
    obtain ⟨k,j,q,hk,rfl,hj,rfl,hq0,hq1,HS⟩:=hrel
    obtain ⟨x0,x1,x2,x3,x4,y0,y1,y2,y3,y4,y5,f0,f1,f2,f3,f4,f5⟩:=HS.out.facts
    have p1:=HS.out.mem hj
    have hjm : (j : Int) < (e.mem.length : Int):=by omega
    by_cases hlt : k < 4
    rotate_left
    have hki : ¬ (k : Int) < 4:=by omega
    rotate_left
    have hki : (k : Int) < 4:=by omega
    rcases BS (pg e.mem j).owner 0 with ⟨e9,b9,c9⟩ | ⟨e9,b9,c9⟩
    ·go_wp2_with (first | (go_at_call 33;refine (HS.out.call HC.out (by omega) (by decide)).mono ?_;rintro x wk ⟨jn,rfl,hk1,hs,hw⟩;have HS:=As hs;clear hs hw;clear x0 x1 x2 x3 x4 y0 y1 y2 y3 y4 y5 f0 f1 f2 f3 f4 f5;obtain ⟨x0,x1,x2,x3,x4,y0,y1,y2,y3,y4,y5,f0,f1,f2,f3,f4,f5⟩:=HS.out.facts;clear p1;have p1:=HS.out.mem hj))
     go_roundw
     case rel => exact ⟨k + 1,jn,q + 1,by omega,by go_num,by (have:=HM.out;omega),rfl,by omega,by omega,HS⟩
     case measure => simp [intOf];omega
    all_goals
     rcases lts 0 (Gv e.log (j : Int)) with ⟨e8,b8,c8⟩ | ⟨e8,b8,c8⟩
     ·go_wp2_with (first | (go_at_call 135;refine (F9 (cd:=cd) (cm:=cm) (cl:=cl) (j : Int) HLOG.out (Below.refl _ _) (Aw.reads' HS.out.own)).mono ?_;rintro x wk ⟨rfl,hb⟩;have HS:=As (HS.out.below hb);clear hb;clear x0 x1 x2 x3 x4 y0 y1 y2 y3 y4 y5 f0 f1 f2 f3 f4 f5;obtain ⟨x0,x1,x2,x3,x4,y0,y1,y2,y3,y4,y5,f0,f1,f2,f3,f4,f5⟩:=HS.out.facts;clear p1;have p1:=HS.out.mem hj))
      go_at_call 33
      refine (HS.out.call HC.out (by omega) (by decide)).mono ?_
      rintro x wk ⟨k8,rfl,hk1,hs,hw⟩
      have HS:=As hs
      clear hs hw
      clear x0 x1 x2 x3 x4 y0 y1 y2 y3 y4 y5 f0 f1 f2 f3 f4 f5
      obtain ⟨x0,x1,x2,x3,x4,y0,y1,y2,y3,y4,y5,f0,f1,f2,f3,f4,f5⟩:=HS.out.facts
      clear p1
      have p1:=HS.out.mem hj
      obtain ⟨k8,hk8⟩ : ∃ z : Int,z = (k8 : Int):=⟨_,rfl⟩
      rw [← hk8]
      clear hk8
      rcases lts 0 k8 with ⟨e10,b10,c10⟩ | ⟨e10,b10,c10⟩
      ·go_wp2_with (first | (go_at_call 135;refine (F9 (cd:=cd) (cm:=cm) (cl:=cl) (j : Int) HLOG.out (Below.refl _ _) (Aw.reads' HS.out.own)).mono ?_;rintro x wk ⟨rfl,hb⟩;have HS:=As (HS.out.below hb);clear hb;clear x0 x1 x2 x3 x4 y0 y1 y2 y3 y4 y5 f0 f1 f2 f3 f4 f5;obtain ⟨x0,x1,x2,x3,x4,y0,y1,y2,y3,y4,y5,f0,f1,f2,f3,f4,f5⟩:=HS.out.facts;clear p1;have p1:=HS.out.mem hj) | (clear H3;go_at_call 33;refine (HS.out.call HC.out (by omega) (by decide)).mono ?_;rintro x wk ⟨ka,rfl,hk1,hs,hw⟩;have HS:=As hs;clear hs hw;clear x0 x1 x2 x3 x4 y0 y1 y2 y3 y4 y5 f0 f1 f2 f3 f4 f5;obtain ⟨x0,x1,x2,x3,x4,y0,y1,y2,y3,y4,y5,f0,f1,f2,f3,f4,f5⟩:=HS.out.facts;clear p1;have p1:=HS.out.mem hj) | (clear H4;go_at_call 33;refine (HS.out.call HC.out (by omega) (by decide)).mono ?_;rintro x wk ⟨kb,rfl,hk1,hs,hw⟩;have HS:=As hs;clear hs hw;clear x0 x1 x2 x3 x4 y0 y1 y2 y3 y4 y5 f0 f1 f2 f3 f4 f5;obtain ⟨x0,x1,x2,x3,x4,y0,y1,y2,y3,y4,y5,f0,f1,f2,f3,f4,f5⟩:=HS.out.facts;clear p1;have p1:=HS.out.mem hj) | (clear H5;go_at_call 33;refine (HS.out.call HC.out (by omega) (by decide)).mono ?_;rintro x wk ⟨kc,rfl,hk1,hs,hw⟩;have HS:=As hs;clear hs hw;clear x0 x1 x2 x3 x4 y0 y1 y2 y3 y4 y5 f0 f1 f2 f3 f4 f5;obtain ⟨x0,x1,x2,x3,x4,y0,y1,y2,y3,y4,y5,f0,f1,f2,f3,f4,f5⟩:=HS.out.facts;clear p1;have p1:=HS.out.mem hj))
       obtain ⟨z0,z1,z2,z3,z4,z5⟩:=(HS.out.ev.F5 ⟨1,Gv e.log (j : Int),(j : Int),(ka : Int),(wrap64 ((wrap64 ((kb : Int) * ((kc : Int) + 2))).tdiv 4)).tmod 10, []⟩ (.slice none 0 0)).all
       exact bodyPost_ret (v:=Evt.own ⟨1,Gv e.log (j : Int),(j : Int),(ka : Int),(wrap64 ((wrap64 ((kb : Int) * ((kc : Int) + 2))).tdiv 4)).tmod 10, []⟩ (.slice none 0 0)) (by simp [results,Tryz.results124,go_sem,z0,z1,z2,z3,z4,z5]) rfl (HS.out.done (q:=p) _ (AA.nil _ _) (by simp) (by omega) (by omega))
      ·go_wp2_with (first | (clear H3;go_at_call 33;refine (HS.out.call HC.out (by omega) (by decide)).mono ?_;rintro x wk ⟨ka,rfl,hk1,hs,hw⟩;have HS:=As hs;clear hs hw;clear x0 x1 x2 x3 x4 y0 y1 y2 y3 y4 y5 f0 f1 f2 f3 f4 f5;obtain ⟨x0,x1,x2,x3,x4,y0,y1,y2,y3,y4,y5,f0,f1,f2,f3,f4,f5⟩:=HS.out.facts;clear p1;have p1:=HS.out.mem hj) | (clear H4;go_at_call 33;refine (HS.out.call HC.out (by omega) (by decide)).mono ?_;rintro x wk ⟨kb,rfl,hk1,hs,hw⟩;have HS:=As hs;clear hs hw;clear x0 x1 x2 x3 x4 y0 y1 y2 y3 y4 y5 f0 f1 f2 f3 f4 f5;obtain ⟨x0,x1,x2,x3,x4,y0,y1,y2,y3,y4,y5,f0,f1,f2,f3,f4,f5⟩:=HS.out.facts;clear p1;have p1:=HS.out.mem hj) | (clear H5;go_at_call 33;refine (HS.out.call HC.out (by omega) (by decide)).mono ?_;rintro x wk ⟨kc,rfl,hk1,hs,hw⟩;have HS:=As hs;clear hs hw;clear x0 x1 x2 x3 x4 y0 y1 y2 y3 y4 y5 f0 f1 f2 f3 f4 f5;obtain ⟨x0,x1,x2,x3,x4,y0,y1,y2,y3,y4,y5,f0,f1,f2,f3,f4,f5⟩:=HS.out.facts;clear p1;have p1:=HS.out.mem hj))
       obtain ⟨z0,z1,z2,z3,z4,z5⟩:=(HS.out.ev.F5 ⟨1,1 + (tx : Int),(j : Int),(ka : Int),(wrap64 ((wrap64 ((kb : Int) * ((kc : Int) + 2))).tdiv 4)).tmod 10, []⟩ (.slice none 0 0)).all
       exact bodyPost_ret (v:=Evt.own ⟨1,1 + (tx : Int),(j : Int),(ka : Int),(wrap64 ((wrap64 ((kb : Int) * ((kc : Int) + 2))).tdiv 4)).tmod 10, []⟩ (.slice none 0 0)) (by simp [results,Tryz.results124,go_sem,z0,z1,z2,z3,z4,z5]) rfl (HS.out.done (q:=p) _ (AA.nil _ _) (by simp) (by omega) (by omega))
     ·go_wp2_with (first | (go_at_call 135;refine (F9 (cd:=cd) (cm:=cm) (cl:=cl) (j : Int) HLOG.out (Below.refl _ _) (Aw.reads' HS.out.own)).mono ?_;rintro x wk ⟨rfl,hb⟩;have HS:=As (HS.out.below hb);clear hb;clear x0 x1 x2 x3 x4 y0 y1 y2 y3 y4 y5 f0 f1 f2 f3 f4 f5;obtain ⟨x0,x1,x2,x3,x4,y0,y1,y2,y3,y4,y5,f0,f1,f2,f3,f4,f5⟩:=HS.out.facts;clear p1;have p1:=HS.out.mem hj) | (clear H3;go_at_call 33;refine (HS.out.call HC.out (by omega) (by decide)).mono ?_;rintro x wk ⟨ka,rfl,hk1,hs,hw⟩;have HS:=As hs;clear hs hw;clear x0 x1 x2 x3 x4 y0 y1 y2 y3 y4 y5 f0 f1 f2 f3 f4 f5;obtain ⟨x0,x1,x2,x3,x4,y0,y1,y2,y3,y4,y5,f0,f1,f2,f3,f4,f5⟩:=HS.out.facts;clear p1;have p1:=HS.out.mem hj) | (clear H4;go_at_call 33;refine (HS.out.call HC.out (by omega) (by decide)).mono ?_;rintro x wk ⟨kb,rfl,hk1,hs,hw⟩;have HS:=As hs;clear hs hw;clear x0 x1 x2 x3 x4 y0 y1 y2 y3 y4 y5 f0 f1 f2 f3 f4 f5;obtain ⟨x0,x1,x2,x3,x4,y0,y1,y2,y3,y4,y5,f0,f1,f2,f3,f4,f5⟩:=HS.out.facts;clear p1;have p1:=HS.out.mem hj) | (clear H5;go_at_call 33;refine (HS.out.call HC.out (by omega) (by decide)).mono ?_;rintro x wk ⟨kc,rfl,hk1,hs,hw⟩;have HS:=As hs;clear hs hw;clear x0 x1 x2 x3 x4 y0 y1 y2 y3 y4 y5 f0 f1 f2 f3 f4 f5;obtain ⟨x0,x1,x2,x3,x4,y0,y1,y2,y3,y4,y5,f0,f1,f2,f3,f4,f5⟩:=HS.out.facts;clear p1;have p1:=HS.out.mem hj))
      obtain ⟨z0,z1,z2,z3,z4,z5⟩:=(HS.out.ev.F5 ⟨1,1 + (tx : Int),(j : Int),(ka : Int),(wrap64 ((wrap64 ((kb : Int) * ((kc : Int) + 2))).tdiv 4)).tmod 10, []⟩ (.slice none 0 0)).all
      exact bodyPost_ret (v:=Evt.own ⟨1,1 + (tx : Int),(j : Int),(ka : Int),(wrap64 ((wrap64 ((kb : Int) * ((kc : Int) + 2))).tdiv 4)).tmod 10, []⟩ (.slice none 0 0)) (by simp [results,Tryz.results124,go_sem,z0,z1,z2,z3,z4,z5]) rfl (HS.out.done (q:=p) _ (AA.nil _ _) (by simp) (by omega) (by omega))
  rotate_left 3
  ·
   go_wp2_with (first | (go_at_call 135;refine (F9 (cd:=cd) (cm:=cm) (cl:=cl) (j : Int) HLOG.out (Below.refl _ _) (Aw.reads' HS.out.own)).mono ?_;rintro x wk ⟨rfl,hb⟩;have HS:=As (HS.out.below hb);clear hb;clear x0 x1 x2 x3 x4 y0 y1 y2 y3 y4 y5 f0 f1 f2 f3 f4 f5;obtain ⟨x0,x1,x2,x3,x4,y0,y1,y2,y3,y4,y5,f0,f1,f2,f3,f4,f5⟩:=HS.out.facts;clear p1;have p1:=HS.out.mem hj) | (with_reducible refine PS _ _ _ ?_;intro wz hbz hoz;have HROW:=As hoz;have HRN:=As HS.out.size;have HS:=As (HS.out.below hbz);clear hbz hoz;clear x0 x1 x2 x3 x4 y0 y1 y2 y3 y4 y5 f0 f1 f2 f3 f4 f5;obtain ⟨x0,x1,x2,x3,x4,y0,y1,y2,y3,y4,y5,f0,f1,f2,f3,f4,f5⟩:=HS.out.facts;clear p1;have p1:=HS.out.mem hj) | (clear H3;go_at_call 33;refine (HS.out.call HC.out (by omega) (by decide)).mono ?_;rintro x wk ⟨ka,rfl,hk1,hs,hw⟩;have HS:=As hs;clear hs hw;clear x0 x1 x2 x3 x4 y0 y1 y2 y3 y4 y5 f0 f1 f2 f3 f4 f5;obtain ⟨x0,x1,x2,x3,x4,y0,y1,y2,y3,y4,y5,f0,f1,f2,f3,f4,f5⟩:=HS.out.facts;clear p1;have p1:=HS.out.mem hj) | (clear H4;go_at_call 33;refine (HS.out.call HC.out (by omega) (by decide)).mono ?_;rintro x wk ⟨kb,rfl,hk1,hs,hw⟩;have HS:=As hs;clear hs hw;clear x0 x1 x2 x3 x4 y0 y1 y2 y3 y4 y5 f0 f1 f2 f3 f4 f5;obtain ⟨x0,x1,x2,x3,x4,y0,y1,y2,y3,y4,y5,f0,f1,f2,f3,f4,f5⟩:=HS.out.facts;clear p1;have p1:=HS.out.mem hj) | (clear H5;go_at_call 33;refine (HS.out.call HC.out (by omega) (by decide)).mono ?_;rintro x wk ⟨kc,rfl,hk1,hs,hw⟩;have HS:=As hs;clear hs hw;clear x0 x1 x2 x3 x4 y0 y1 y2 y3 y4 y5 f0 f1 f2 f3 f4 f5;obtain ⟨x0,x1,x2,x3,x4,y0,y1,y2,y3,y4,y5,f0,f1,f2,f3,f4,f5⟩:=HS.out.facts;clear p1;have p1:=HS.out.mem hj))
   obtain ⟨z0,z1,z2,z3,z4,z5⟩:=(HS.out.ev.F5 ⟨3,max (Gv e.log (j : Int)) 1,(j : Int),0,0, [1 + (ka : Int),(kb : Int),(kc : Int)]⟩ (.slice (some ⟨wk.heap.size,0,none⟩) 3 3)).all
   exact bodyPost_ret (v:=Evt.own ⟨3,max (Gv e.log (j : Int)) 1,(j : Int),0,0, [1 + (ka : Int),(kb : Int),(kc : Int)]⟩ (.slice (some ⟨wk.heap.size,0,none⟩) 3 3)) (by simp [results,Tryz.results124,go_sem,z0,z1,z2,z3,z4,z5]) rfl (HS.out.done (q:=p) _ (DI HROW.out HRN.out) (by simp) (by omega) (by omega))
  ·
   go_wp2
   obtain ⟨z0,z1,z2,z3,z4,z5⟩:=(HS.out.ev.F5 ⟨4,1 + (tx : Int),0,0,0, []⟩ (.slice none 0 0)).all
   exact bodyPost_ret (v:=Evt.own ⟨4,1 + (tx : Int),0,0,0, []⟩ (.slice none 0 0)) (by simp [results,Tryz.results124,go_sem,z0,z1,z2,z3,z4,z5]) rfl (HS.out.done (q:=p) _ (AA.nil _ _) (by simp) (by omega) (by omega))
  ·
   go_wp2
   obtain ⟨z0,z1,z2,z3,z4,z5⟩:=(HS.out.ev.F5 ⟨4,1 + (tx : Int),0,0,0, []⟩ (.slice none 0 0)).all
   exact bodyPost_ret (v:=Evt.own ⟨4,1 + (tx : Int),0,0,0, []⟩ (.slice none 0 0)) (by simp [results,Tryz.results124,go_sem,z0,z1,z2,z3,z4,z5]) rfl (HS.out.done (q:=p) _ (AA.nil _ _) (by simp) (by omega) (by omega))
  ·
   go_wp2
   obtain ⟨z0,z1,z2,z3,z4,z5⟩:=(HS.out.ev.F5 ⟨5,1 + (tx : Int),0,0,0, []⟩ (.slice none 0 0)).all
   exact bodyPost_ret (v:=Evt.own ⟨5,1 + (tx : Int),0,0,0, []⟩ (.slice none 0 0)) (by simp [results,Tryz.results124,go_sem,z0,z1,z2,z3,z4,z5]) rfl (HS.out.done (q:=p) _ (AA.nil _ _) (by simp) (by omega) (by omega))
  ·
   go_wp2
   obtain ⟨z0,z1,z2,z3,z4,z5⟩:=(HS.out.ev.F5 ⟨6,0,(j : Int),0,0, []⟩ (.slice none 0 0)).all
   exact bodyPost_ret (v:=Evt.own ⟨6,0,(j : Int),0,0, []⟩ (.slice none 0 0)) (by simp [results,Tryz.results124,go_sem,z0,z1,z2,z3,z4,z5]) rfl (HS.out.done (q:=p) _ (AA.nil _ _) (by simp) (by omega) (by omega))
  ·
   go_wp2
   obtain ⟨z0,z1,z2,z3,z4,z5⟩:=(HS.out.ev.F5 ⟨6,0,(j : Int),0,0, []⟩ (.slice none 0 0)).all
   exact bodyPost_ret (v:=Evt.own ⟨6,0,(j : Int),0,0, []⟩ (.slice none 0 0)) (by simp [results,Tryz.results124,go_sem,z0,z1,z2,z3,z4,z5]) rfl (HS.out.done (q:=p) _ (AA.nil _ _) (by simp) (by omega) (by omega))
  ·
   go_wp2_with fail
   go_at_call 33
   refine (HS.out.call HC.out (by omega) (by decide)).mono ?_
   rintro x wk ⟨k9,rfl,hk1,hs,hw⟩
   have HS:=As hs
   clear hs hw
   clear x0 x1 x2 x3 x4 y0 y1 y2 y3 y4 y5 f0 f1 f2 f3 f4 f5
   obtain ⟨x0,x1,x2,x3,x4,y0,y1,y2,y3,y4,y5,f0,f1,f2,f3,f4,f5⟩:=HS.out.facts
   clear p1
   have p1:=HS.out.mem hj
   rcases BS (k9 : Int) 0 with ⟨e9,b9,c9⟩ | ⟨e9,b9,c9⟩
   ·go_wp2
    obtain ⟨z0,z1,z2,z3,z4,z5⟩:=(HS.out.ev.F5 ⟨7,0,0,0,0, []⟩ (.slice none 0 0)).all
    exact bodyPost_ret (v:=Evt.own ⟨7,0,0,0,0, []⟩ (.slice none 0 0)) (by simp [results,Tryz.results124,go_sem,z0,z1,z2,z3,z4,z5]) rfl (HS.out.done (q:=p) _ (AA.nil _ _) (by simp) (by omega) (by omega))
   ·have HCD : A7 (Cd wB w g b A xs.length c p (p + 4) e (.slice Ad e.disk.length cd) (.slice (some ad) e.mem.length cm) (.slice Al e.log.length cl) wk):=⟨⟨_,by omega,by omega,HS.out⟩⟩
    clear x0 x1 x2 x3 x4 y0 y1 y2 y3 y4 y5 f0 f1 f2 f3 f4 f5 p1
    go_wp2
    refine Bo (fun lx a wx => Cd wB w g b A xs.length c p (p + 6) e (.slice Ad e.disk.length cd) (.slice (some ad) e.mem.length cm) (.slice Al e.log.length cl) wx ∧ (Un 9 (Cd wB w g b A xs.length c p (p + 5) e (.slice Ad e.disk.length cd) (.slice (some ad) e.mem.length cm) (.slice Al e.log.length cl)) lx a wx ∧ (Un 4 (Cd wB w g b A xs.length c p (p + 4) e (.slice Ad e.disk.length cd) (.slice (some ad) e.mem.length cm) (.slice Al e.log.length cl)) lx a wx ∧ Sl 7 92 (fun v wx => ∃ (B : Nat) (z : Int),v = .slice (some ⟨B,0,none⟩) 3 3 ∧ w.heap.size + 2 ≤ B ∧ AA wx B v [0,99,z]) lx a wx))) 13 rfl (by kernel_rfl) (⟨(HCD.out.below (Ac (Below.refl _ _))).mono (by omega),fun _ => (HCD.out.below (Ac (Below.refl _ _))).mono (by omega),fun _ => HCD.out.below (Ac (Below.refl _ _)),Bp⟩) (fun HT => ?_)
    refine Bw [0,1,2,3,8] ?_
    iterate 5 (refine Bq (v:=?_) HT rfl (by kernel_rfl) rfl (kA Ah (kA (Bj rfl) (kA (Bj rfl) (Ak rfl rfl)))) (by rfl) (fun _ _ _ h => h) (fun lx ax wx hS => ?_) ?_;rotate_left;(obtain ⟨q, -, -,HD⟩:=hS.1;have x2:=HD.eg.c2;go_simp;with_reducible rfl);rotate_left;simp only [sc0,sc1])
    refine Bv ?_
    refine Cr (i:=4) (f:=33) (args:=#[.pointer (some ⟨g,0,none⟩), .int .i64 4]) (fun v => ∃ k : Nat,v = .int .i64 (k : Int) ∧ (k : Int) < 4) rfl (by kernel_rfl) rfl Tryz.func33 (by kernel_rfl) rfl rfl (by rfl) (by simp only [List.map_toArray,List.map_cons,List.map_nil];rfl) (fun wx hS => (Cd.call (hS.2.2.1 (by kernel_rfl)) (by have:=HP.out;omega) (by decide) (by decide) HN.out HXS.out HR.out).mono (by rintro y w6 ⟨k,rfl,hk,hc,hw⟩;exact ⟨_,rfl,⟨k,rfl,hk⟩,hc.mono (by omega),fun _ => hc.mono (by omega),fun h => (Ao (by kernel_rfl) h).elim,fun h => (Ao h (by kernel_rfl)).elim⟩)) (fun vx hg => ?_);simp only [sc0,sc1]
    obtain ⟨k4,rfl,hk4⟩:=hg
    refine Bw [5,6] ?_
    iterate 2 (refine Bq (v:=?_) HT rfl (by kernel_rfl) rfl (kA Ah (kA (Bj rfl) (kA (Bj rfl) (Ak rfl rfl)))) (by rfl) (fun _ _ _ h => h) (fun lx ax wx hS => ?_) ?_;rotate_left;(go_simp;with_reducible rfl);rotate_left;simp only [sc0,sc1])
    refine Bv ?_
    refine AJ [7,9] (by kernel_rfl) (fun i hi w4 hS => ?_)
    rcases List.mem_cons.1 hi with rfl | hi
    ·clear hi
     refine BG (w1:=?_) (.slice (some ⟨w4.heap.size,0,none⟩) 3 3) rfl rfl (by rfl) ?_ ?_
     rotate_left
     ·go_simp
      with_reducible rfl
     refine ⟨⟨hS.1.below (Aa (Below.refl _ _) _),fun _ => (hS.2.1 (by kernel_rfl)).below (Aa (Below.refl _ _) _),fun h => (Ao (by kernel_rfl) h).elim,fun _ => ⟨w4.heap.size,_,rfl,(by obtain ⟨q, -, -,HD⟩:=hS.1;exact HD.size),Qi _ _ _ _⟩⟩,?_⟩
     simp only [sc0,sc1]
     refine AJ [9] (by kernel_rfl) (fun i hi w5 hS => ?_)
     obtain rfl:=List.mem_singleton.1 hi
     refine Cz (f:=33) (args:=#[.pointer (some ⟨g,0,none⟩), .int .i64 3]) rfl rfl Tryz.func33 (by kernel_rfl) rfl rfl (by rfl) (by simp only [List.map_toArray,List.map_cons,List.map_nil];rfl) ((Cd.call (hS.2.1 (by kernel_rfl)) (by have:=HP.out;omega) (by decide) (by decide) HN.out HXS.out HR.out).mono ?_)
     rintro y w6 ⟨k,rfl,hk,hc,hw⟩
     refine ⟨_,rfl,⟨hc.mono (by omega),fun h => (Ao (by kernel_rfl) h).elim,fun h => (Ao (by kernel_rfl) h).elim,fun _ => ?_⟩,?_⟩
     ·obtain ⟨B,z,hB,hBn,hown⟩:=hS.2.2.2 (by kernel_rfl)
      obtain ⟨q, -, -,HD⟩:=hS.1
      exact ⟨B,z,hB,hBn,hown.kept hw.kept (fun m hm => by have hm : m = g:=hm;have:=HD.hgw;omega)⟩
     simp only [sc0,sc1]
     refine CZ (i:=10) (v:=?_) HT rfl (by kernel_rfl) rfl (kA Ah (kA (Bj rfl) (kA (Bj rfl) (Ak rfl rfl)))) (by rfl) (fun _ _ _ h => h) (fun lx ax wx hS => ?_) ?_;rotate_left;(go_simp;with_reducible rfl);rotate_left;simp only [sc0,sc1]
     refine AJ [11] (by kernel_rfl) (fun i hi w7 hS => ?_)
     obtain rfl:=List.mem_singleton.1 hi
     obtain ⟨B,z,hB,hBn,hown⟩:=hS.2.2.2 (by kernel_rfl)
     have hB : Value.slice (some ⟨w4.heap.size,0,none⟩) 3 3 = .slice (some ⟨B,0,none⟩) 3 3:=hB
     injection hB with hB
     injection hB with hB
     injection hB with hB
     subst hB
     have hc0:=(hown.at (k : Int) (by omega) (by show (k : Int) < 3;exact hk)).1
     rw [Int.toNat_natCast] at hc0
     have hc:=(Exists.intro (p:=fun z => w7.cell? ⟨w4.heap.size,k,none⟩ = some (.int .i64 z)) _ hc0)
     clear hc0 hown
     obtain ⟨zz,hc⟩:=hc
     refine BG (w1:=?_) (.int .i64 zz) rfl rfl (by rfl) ?_ ?_
     rotate_left
     ·go_simp
      with_reducible rfl
     refine ⟨⟨hS.1,fun h => (Ao (by kernel_rfl) h).elim,fun h => (Ao (by kernel_rfl) h).elim,fun _ => hS.2.2.2 (by kernel_rfl)⟩,?_⟩
     simp only [sc0,sc1]
     refine CZ (i:=12) (v:=?_) HT rfl (by kernel_rfl) rfl (kA Ah (kA (Bj rfl) (kA (Bj rfl) (Ak rfl rfl)))) (by rfl) (fun _ _ _ h => h) (fun lx ax wx hS => ?_) ?_;rotate_left;(go_simp;with_reducible rfl);rotate_left;simp only [sc0,sc1]
     refine Cb (i:=13) (by kernel_rfl) rfl (fun w8 hS => ?_)
     obtain ⟨q,hq0,hq1,HD⟩:=hS.1
     have HS:=As HD
     obtain ⟨-, -, -, -, -,y0,y1,y2,y3,y4,y5,f0,f1,f2,f3,f4,f5⟩:=HS.out.facts
     clear hS hc HD
     refine BH (w1:=?_) rfl (by rfl) ?_ ?_
     rotate_left
     ·go_simp
      with_reducible rfl
     refine BM (by kernel_rfl) ?_
     go_wp2
     obtain ⟨z0,z1,z2,z3,z4,z5⟩:=(HS.out.ev.F5 ⟨8,0,0,0,zz, []⟩ (.slice none 0 0)).all
     exact bodyPost_ret (v:=Evt.own ⟨8,0,0,0,zz, []⟩ (.slice none 0 0)) (by simp [results,Tryz.results124,go_sem,z0,z1,z2,z3,z4,z5]) rfl (HS.out.done (q:=p) _ (AA.nil _ _) (by simp) (by omega) (by omega))
    ·obtain rfl:=List.mem_singleton.1 hi
     refine Cz (f:=33) (args:=#[.pointer (some ⟨g,0,none⟩), .int .i64 3]) rfl rfl Tryz.func33 (by kernel_rfl) rfl rfl (by rfl) (by simp only [List.map_toArray,List.map_cons,List.map_nil];rfl) ((Cd.call (hS.2.1 (by kernel_rfl)) (by have:=HP.out;omega) (by decide) (by decide) HN.out HXS.out HR.out).mono ?_)
     rintro y w6 ⟨k,rfl,hk,hc,hw⟩
     refine ⟨_,rfl,⟨hc.mono (by omega),fun h => (Ao (by kernel_rfl) h).elim,fun h => (Ao (by kernel_rfl) h).elim,fun h => (Ao h (by kernel_rfl)).elim⟩,?_⟩
     simp only [sc0,sc1]
     refine AJ [7] (by kernel_rfl) (fun i hi w5 hS => ?_)
     obtain rfl:=List.mem_singleton.1 hi
     refine BG (w1:=?_) (.slice (some ⟨w5.heap.size,0,none⟩) 3 3) rfl rfl (by rfl) ?_ ?_
     rotate_left
     ·go_simp
      with_reducible rfl
     refine ⟨⟨hS.1.below (Aa (Below.refl _ _) _),fun h => (Ao (by kernel_rfl) h).elim,fun h => (Ao (by kernel_rfl) h).elim,fun _ => ⟨w5.heap.size,_,rfl,(by obtain ⟨q, -, -,HD⟩:=hS.1;exact HD.size),Qi _ _ _ _⟩⟩,?_⟩
     simp only [sc0,sc1]
     refine CZ (i:=10) (v:=?_) HT rfl (by kernel_rfl) rfl (kA Ah (kA (Bj rfl) (kA (Bj rfl) (Ak rfl rfl)))) (by rfl) (fun _ _ _ h => h) (fun lx ax wx hS => ?_) ?_;rotate_left;(go_simp;with_reducible rfl);rotate_left;simp only [sc0,sc1]
     refine AJ [11] (by kernel_rfl) (fun i hi w7 hS => ?_)
     obtain rfl:=List.mem_singleton.1 hi
     obtain ⟨B,z,hB,hBn,hown⟩:=hS.2.2.2 (by kernel_rfl)
     have hB : Value.slice (some ⟨w5.heap.size,0,none⟩) 3 3 = .slice (some ⟨B,0,none⟩) 3 3:=hB
     injection hB with hB
     injection hB with hB
     injection hB with hB
     subst hB
     have hc0:=(hown.at (k : Int) (by omega) (by show (k : Int) < 3;exact hk)).1
     rw [Int.toNat_natCast] at hc0
     have hc:=(Exists.intro (p:=fun z => w7.cell? ⟨w5.heap.size,k,none⟩ = some (.int .i64 z)) _ hc0)
     clear hc0 hown
     obtain ⟨zz,hc⟩:=hc
     refine BG (w1:=?_) (.int .i64 zz) rfl rfl (by rfl) ?_ ?_
     rotate_left
     ·go_simp
      with_reducible rfl
     refine ⟨⟨hS.1,fun h => (Ao (by kernel_rfl) h).elim,fun h => (Ao (by kernel_rfl) h).elim,fun _ => hS.2.2.2 (by kernel_rfl)⟩,?_⟩
     simp only [sc0,sc1]
     refine CZ (i:=12) (v:=?_) HT rfl (by kernel_rfl) rfl (kA Ah (kA (Bj rfl) (kA (Bj rfl) (Ak rfl rfl)))) (by rfl) (fun _ _ _ h => h) (fun lx ax wx hS => ?_) ?_;rotate_left;(go_simp;with_reducible rfl);rotate_left;simp only [sc0,sc1]
     refine Cb (i:=13) (by kernel_rfl) rfl (fun w8 hS => ?_)
     obtain ⟨q,hq0,hq1,HD⟩:=hS.1
     have HS:=As HD
     obtain ⟨-, -, -, -, -,y0,y1,y2,y3,y4,y5,f0,f1,f2,f3,f4,f5⟩:=HS.out.facts
     clear hS hc HD
     refine BH (w1:=?_) rfl (by rfl) ?_ ?_
     rotate_left
     ·go_simp
      with_reducible rfl
     refine BM (by kernel_rfl) ?_
     go_wp2
     obtain ⟨z0,z1,z2,z3,z4,z5⟩:=(HS.out.ev.F5 ⟨8,0,0,0,zz, []⟩ (.slice none 0 0)).all
     exact bodyPost_ret (v:=Evt.own ⟨8,0,0,0,zz, []⟩ (.slice none 0 0)) (by simp [results,Tryz.results124,go_sem,z0,z1,z2,z3,z4,z5]) rfl (HS.out.done (q:=p) _ (AA.nil _ _) (by simp) (by omega) (by omega))
  all_goals
   go_wp2_with fail
   go_at_call 33
   refine (HS.out.call HC.out (by omega) (by decide)).mono ?_
   rintro x wk ⟨k7,rfl,hk1,hs,hw⟩
   have HS:=As hs
   clear hs hw
   clear x0 x1 x2 x3 x4 y0 y1 y2 y3 y4 y5 f0 f1 f2 f3 f4 f5
   obtain ⟨x0,x1,x2,x3,x4,y0,y1,y2,y3,y4,y5,f0,f1,f2,f3,f4,f5⟩:=HS.out.facts
   clear p1
   have p1:=HS.out.mem hj
   rcases lts 0 (pg e.mem j).owner with ⟨e9,b9,c9⟩ | ⟨e9,b9,c9⟩
   ·go_wp2_with fail
    go_at_call 33
    refine (HS.out.call HC.out (by omega) (by decide)).mono ?_
    rintro x wk ⟨k8,rfl,hk1,hs,hw⟩
    have HS:=As hs
    clear hs hw
    clear x0 x1 x2 x3 x4 y0 y1 y2 y3 y4 y5 f0 f1 f2 f3 f4 f5
    obtain ⟨x0,x1,x2,x3,x4,y0,y1,y2,y3,y4,y5,f0,f1,f2,f3,f4,f5⟩:=HS.out.facts
    clear p1
    have p1:=HS.out.mem hj
    obtain ⟨k8,hk8⟩ : ∃ z : Int,z = (k8 : Int):=⟨_,rfl⟩
    rw [← hk8]
    clear hk8
    rcases lts 0 k8 with ⟨e10,b10,c10⟩ | ⟨e10,b10,c10⟩
    ·go_wp2
     obtain ⟨z0,z1,z2,z3,z4,z5⟩:=(HS.out.ev.F5 ⟨2,1 + (tx : Int),(j : Int),0,0, []⟩ (.slice none 0 0)).all
     exact bodyPost_ret (v:=Evt.own ⟨2,1 + (tx : Int),(j : Int),0,0, []⟩ (.slice none 0 0)) (by simp [results,Tryz.results124,go_sem,z0,z1,z2,z3,z4,z5]) rfl (HS.out.done (q:=p) _ (AA.nil _ _) (by simp) (by omega) (by omega))
    ·go_wp2
     obtain ⟨z0,z1,z2,z3,z4,z5⟩:=(HS.out.ev.F5 ⟨2,1 + (tx : Int),(j : Int),0,1 + (k7 : Int), []⟩ (.slice none 0 0)).all
     exact bodyPost_ret (v:=Evt.own ⟨2,1 + (tx : Int),(j : Int),0,1 + (k7 : Int), []⟩ (.slice none 0 0)) (by simp [results,Tryz.results124,go_sem,z0,z1,z2,z3,z4,z5]) rfl (HS.out.done (q:=p) _ (AA.nil _ _) (by simp) (by omega) (by omega))
   ·go_wp2
    obtain ⟨z0,z1,z2,z3,z4,z5⟩:=(HS.out.ev.F5 ⟨2,1 + (tx : Int),(j : Int),0,1 + (k7 : Int), []⟩ (.slice none 0 0)).all
    exact bodyPost_ret (v:=Evt.own ⟨2,1 + (tx : Int),(j : Int),0,1 + (k7 : Int), []⟩ (.slice none 0 0)) (by simp [results,Tryz.results124,go_sem,z0,z1,z2,z3,z4,z5]) rfl (HS.out.done (q:=p) _ (AA.nil _ _) (by simp) (by omega) (by omega))
end Go.Proofs.YtjeodgfkilhkhaaGreat
