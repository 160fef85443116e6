/- A part of the proof: what the last text of the claim says leans on this one. -/
import Derived.Test.YtjeodgfkilhkhaaGreatZA1
import Derived.Test.YtjeodgfkilhkhaaGreatZD1
import Derived.Test.YtjeodgfkilhkhaaGreatZF1
import Derived.Test.YtjeodgfkilhkhaaGreatZO1
set_option linter.unusedVariables false
set_option linter.unusedSimpArgs false
namespace Go.Proofs.YtjeodgfkilhkhaaGreat
open Go.RowKit Go.Proofs.YtjeodgfkilhkhaaGreatW.PrintWords Go.Proofs.YtjeodgfkilhkhaaGreatW.PrintLast Go.Proofs.YtjeodgfkilhkhaaGreatW.PrintMore
theorem Ww (a : Addr) (m n : Nat) (hm : 0 < m) : (a.add m).add n = a.add (m + n):=by
 unfold Addr.add
 by_cases hn : n = 0
 ·subst hn
  simp
 ·rw [if_neg hn,if_neg (by omega),if_neg (by omega)]
  simp [Nat.add_assoc]
theorem Zd {α : Type} {d : Kd α} {w : World} {ad : Addr} {n : Nat} {xs : List α} (h : d.C w (some ad) n xs) (hsz : 0 < d.sz) : d.C w (some (ad.add d.sz)) (n - 1) (xs.drop 1):=by
 obtain ⟨h1,h2,h3⟩:=h
 refine ⟨by simp [h1],by omega,fun h0 => ?_⟩
 obtain ⟨a,ha,hf⟩:=h3 (by omega)
 injection ha with ha
 subst ha
 refine ⟨_,rfl,fun i p hp => ?_⟩
 obtain ⟨cs,hl,hK,hc⟩:=hf (i + 1) p (by simpa [Nat.add_comm] using hp)
 refine ⟨cs,hl,hK,fun k u hu => ?_⟩
 have:=hc k u hu
 rw [Ww _ _ _ hsz,show d.sz + (i * d.sz + k) = (i + 1) * d.sz + k by rw [Nat.add_mul];omega]
 exact this
theorem Z8 {α : Type} {d : Kd α} {w w1 : World} {ad : Addr} {n : Nat} {xs : List α} (h : d.C w (some ad) n xs) (i : Nat) (x : α) (cs : List Value) (hcs : cs.length = d.sz) (hK : d.K w1 x cs)
  (hnew : ∀ k u,cs[k]? = some u → w1.cell? (ad.add (i * d.sz + k)) = some u) (hold : ∀ (p : α) (c : List Value),d.K w p c → d.K w1 p c)
  (hcells : ∀ j k u,j ≠ i → k < d.sz → w.cell? (ad.add (j * d.sz + k)) = some u → w1.cell? (ad.add (j * d.sz + k)) = some u) : d.C w1 (some ad) n (xs.set i x):=by
 obtain ⟨h1,h2,h3⟩:=h
 refine ⟨by simp [h1],h2,fun h0 => ?_⟩
 obtain ⟨a,ha,hf⟩:=h3 h0
 injection ha with ha
 subst ha
 refine ⟨_,rfl,fun j p hp => ?_⟩
 by_cases e : j = i
 ·subst e
  have hx : x = p:=by
   rw [List.getElem?_set] at hp
   split at hp
   ·split at hp
    ·simpa using hp
    ·cases hp
   ·rename_i hn;exact absurd rfl hn
  subst hx
  exact ⟨cs,hcs,hK,hnew⟩
 ·rw [List.getElem?_set_ne (fun x => e x.symm)] at hp
  obtain ⟨c,hl,hk,hc⟩:=hf j p hp
  exact ⟨c,hl,hold p c hk,fun k u hu => hcells j k u e (by have:=(List.getElem?_eq_some_iff.1 hu).1;omega) (hc k u hu)⟩
theorem BZ.IQ {wk : World} {g n c h : Nat} {A : Option Addr} {p : Int} (hq : BZ wk g A n c p) (hne : g ≠ h) (j : Nat) (u : Value) : BZ (wk.setCell ⟨h,j,none⟩ u) g A n c p:=(Below.heap_setCell wk ⟨h,j,none⟩ u g hne).trans hq
structure Rd (wB w wk : World) (g : Nat) (A : Option Addr) (n c : Nat) (p q : Int) : Prop where
 rd : ∃ r,p ≤ r ∧ r ≤ q ∧ BZ wk g A n c r
 bel : Below wB.heap.size wB wk
 wr : Wrote w wk (fun j => j = g)
 hBg : wB.heap.size ≤ g
 hgw : g < w.heap.size
structure By (wB : World) (A : Option Addr) (xs : List Int) : Prop where
 few : xs.length ≤ 2000
 all : Bytes xs
 C : Kd.C (Kd.int .u8) wB A xs.length xs
section
variable {wB w wk w1 : World} {g c n : Nat} {A : Option Addr} {xs : List Int} {p q p' q' : Int}
theorem Rd.start (hb : Below wB.heap.size wB w) (hg : wB.heap.size ≤ g) (h : BZ w g A n c p) : Rd wB w w g A n c p p:=⟨⟨p,Int.le_refl _,Int.le_refl _,h⟩,hb,Wrote.refl _ _,hg,h.lt⟩
theorem Rd.more (h : Rd wB w wk g A n c p q) (h1 : p' ≤ p) (h2 : q ≤ q') : Rd wB w wk g A n c p' q':=by
 obtain ⟨⟨r,h3,h4,h5⟩,h6,h7,h8,h9⟩:=h
 exact ⟨⟨r,by omega,by omega,h5⟩,h6,h7,h8,h9⟩
theorem Rd.below (h : Rd wB w wk g A n c p q) (hb : Below wk.heap.size wk w1) : Rd wB w w1 g A n c p q:=by
 obtain ⟨⟨r,h3,h4,h5⟩,h6,h7,h8,h9⟩:=h
 exact ⟨⟨r,h3,h4,h5.up hb⟩,bj h6 hb,h7.Ce (Wrote.of_below hb (fun j => j = g)) (fun _ h => .inl h),h8,h9⟩
theorem Rd.setCell (h : Rd wB w wk g A n c p q) {k : Nat} (hk : w.heap.size ≤ k) (j : Nat) (u : Value) : Rd wB w (wk.setCell ⟨k,j,none⟩ u) g A n c p q:=by
 obtain ⟨⟨r,h3,h4,h5⟩,h6,h7,h8,h9⟩:=h
 exact ⟨⟨r,h3,h4,(Below.heap_setCell wk ⟨k,j,none⟩ u g (show g ≠ k by omega)).trans h5⟩,h6.setCell (p:=⟨k,j,none⟩) (by show wB.heap.size ≤ k;omega) u,h7.setCell (p:=⟨k,j,none⟩) (.inr hk) u,h8,h9⟩
theorem Rd.next (h : Rd wB w wk g A n c p q) (hr : ∃ r,p' ≤ r ∧ r ≤ q' ∧ BZ w1 g A n c r) (hw : Wrote wk w1 (fun j => j = g)) : Rd wB w w1 g A n c p' q':=by
 obtain ⟨_,h6,h7,h8,h9⟩:=h
 exact ⟨hr,h6.trans (hw.bel (fun k hk => by omega) h6.size),h7.Ce hw (fun _ h => .inl h),h8,h9⟩
theorem Rd.wrote {m : Nat} (h : Rd wB w wk g A n c p q) (hm : w.heap.size ≤ m) (hw : Wrote wk w1 (fun j => j = m)) : Rd wB w w1 g A n c p q:=by
 obtain ⟨⟨r,h3,h4,h5⟩,h6,h7,h8,h9⟩:=h
 exact ⟨⟨r,h3,h4,(hw.kept.2 g h5.lt (by omega)).trans h5⟩,h6.trans (hw.bel (fun k hk => by omega) h6.size),h7.Ce hw (fun k hk => .inr (by omega)),h8,h9⟩
theorem Rd.size (h : Rd wB w wk g A n c p q) : w.heap.size ≤ wk.heap.size:=h.wr.kept.1
theorem Rd.call {m : Int} (h : Rd wB w wk g A xs.length c p q) (hc : By wB A xs) (h0 : 0 ≤ p ∧ q ≤ 1000000) (hm : 1 ≤ m ∧ m ≤ 1000) : Calls Tryz.prog 33 #[.pointer (some ⟨g,0,none⟩), .int .i64 m] wk fun x w' => ∃ k : Nat,x = .returned (.int .i64 (k : Int)) ∧ (k : Int) < m ∧ Rd wB w w' g A xs.length c p (q + 1) ∧ Wrote wk w' (fun j => j = g):=by
 obtain ⟨r,h3,h4,h5⟩:=h.rd
 refine (Hw (wB:=wB) (by omega) (by omega) hm.1 hm.2 hc.few hc.all h.bel h.hBg hc.C h5).mono ?_
 rintro x w' ⟨k,rfl,hk,hrd,hw⟩
 obtain ⟨hk0,hk1⟩:=hk hm.1
 obtain ⟨k,rfl⟩:=Int.eq_ofNat_of_zero_le hk0
 exact ⟨k,rfl,hk1,h.next ⟨r + 1,by omega,by omega,hrd⟩ hw,hw⟩
end
theorem Ab.all {w : World} {g : Nat} {e : Eng} {vd vm vl : Value} (h : Ab w g e vd vm vl) : w.cell? ⟨g,0,none⟩ = some vd ∧ w.cell? ⟨g,1,none⟩ = some vm ∧ w.cell? ⟨g,2,none⟩ = some vl ∧ w.cell? ⟨g,3,none⟩ = some (.int .i64 e.safe) ∧ w.cell? ⟨g,4,none⟩ = some (.bool e.down):=⟨h.c0,h.c1,h.c2,h.c3,h.c4⟩
def Firm (w : World) (b : Nat) (R : World → Prop) : Prop := ∀ (w2 : World) (S : Nat → Prop),Kept w w2 S → (∀ k,S k → k < b ∨ ∃ d,w.heap[k]? = some (.cells d 26 (0,0))) → R w2
section
variable {w w1 : World} {b b' g : Nat} {R R' : World → Prop} {S : Nat → Prop}
theorem Firm.now (h : Firm w b R) : R w:=h w (fun _ => False) (Kept.refl _ _) (fun _ h => h.elim)
theorem Firm.mono (h : Firm w b R) (hi : ∀ w,R w → R' w) : Firm w b R':=fun w2 S hk hS => hi _ (h w2 S hk hS)
theorem Firm.lower (h : Firm w b R) (hb : b' ≤ b) : Firm w b' R:=fun w2 S hk hS => h w2 S hk (fun k hs => (hS k hs).imp (fun h => by omega) id)
theorem Firm.both (h : Firm w b R) (k : Firm w b R') : Firm w b (fun w => R w ∧ R' w):=fun w2 S hk hS => ⟨h w2 S hk hS,k w2 S hk hS⟩
theorem Firm.Ce (h : Firm w b R) (hk : Kept w w1 S) (hS : ∀ k,S k → k < b ∨ ∃ d,w.heap[k]? = some (.cells d 26 (0,0))) : Firm w1 b R:=fun w2 S2 hk2 hS2 => by
 refine h w2 (fun k => k < b ∨ ∃ d,w.heap[k]? = some (.cells d 26 (0,0))) ⟨Nat.le_trans hk.1 hk2.1,fun k hlt hn => ?_⟩ (fun _ h => h)
 have h1 : w1.heap[k]? = w.heap[k]?:=hk.2 k hlt (fun hs => hn (hS k hs))
 refine (hk2.2 k (Nat.lt_of_lt_of_le hlt hk.1) (fun hs => hn ?_)).trans h1
 rcases hS2 k hs with h2 | ⟨d,h2⟩
 ·exact .inl h2
 ·exact .inr ⟨d,h1.symm.trans h2⟩
theorem Firm.below (h : Firm w b R) (hb : Below w.heap.size w w1) : Firm w1 b R:=h.Ce (Kept.of_below hb (fun _ => False)) (fun _ h => h.elim)
theorem Firm.wrote (h : Firm w b R) (hw : Wrote w w1 (fun j => j = g)) (hg : g < b) : Firm w1 b R:=h.Ce hw.kept (fun k hk => .inl (by have hk : k = g:=hk;omega))
theorem Firm.Dy {q : Eng} {ud um ul : Value} (h : Firm w b R) (hq : Ab w g q ud um ul) (j : Nat) (u : Value) : Firm (w.setCell ⟨g,j,none⟩ u) b R:=h.Ce (Nz w g j u) (fun k hk => .inr (by have hk : k = g:=hk;subst hk;exact ⟨_,hq⟩))
theorem Firm.Ap {q : Eng} {ud um ul : Value} (h : Firm w b R) (hq : Ab w g q ud um ul) (f : Eng) (xd xm xl : Value) : Firm (Go.Proofs.YtjeodgfkilhkhaaGreat.Ap w g f xd xm xl) b R:=
 ((((h.Dy hq 0 xd).Dy (hq.set0 xd) 1 xm).Dy ((hq.set0 xd).set1 xm) 2 xl).Dy (((hq.set0 xd).set1 xm).set2 xl) 3 (.int .i64 f.safe)).Dy ((((hq.set0 xd).set1 xm).set2 xl).CK f.safe) 4 (.bool f.down)
end
section
variable {w w1 : World} {b : Nat} {vd vm vl : Value} {e : Eng} {S : Nat → Prop}
theorem Aw.WS (h : Aw w b vd vm vl e) (hk : Kept w w1 S) (hS : ∀ k,S k → k < b ∨ ∃ d,w.heap[k]? = some (.cells d 26 (0,0))) : Aw w1 b vd vm vl e:=by
 obtain ⟨⟨okd,okm,h1,h2,h3⟩,h4⟩:=h
 have key : ∀ k,b ≤ k → (∃ q,q ∈ 47 :: CJ.E ∧ ∃ cells,w.heap[k]? = some (.cells cells q (0,0))) → ¬ S k:=by
  rintro k hb ⟨q,hq,c,hc⟩ hs
  rcases hS k hs with h | ⟨d,hd⟩
  ·omega
  ·have:=Dx hc hd
   rcases Hu q hq with rfl | rfl <;> exact absurd this (by decide)
 refine ⟨⟨okd,okm,h1,Kd.Dt (Kd.Ie (Kd.Dg h2) hk (fun k ho => key k ho.2.1 ho.2.2.2)) (fun _ h => h.1),Kd.Dt (Kd.Ie (Kd.Dg h3) hk (fun k ho => key k ho.2.1 ho.2.2.2)) (fun _ h => h.1)⟩,Kd.DZ (Kd.Ih (Kd.IB rfl h4) hk (fun k ho hs => ?_)) (fun _ _ => trivial)⟩
 obtain ⟨inner,ho2⟩:=Kd.FZ h4
 obtain ⟨c,hc⟩:=Co ho2 k ho.symm
 have hb:=BN ho2 k ho.symm
 rcases hS k hs with h | ⟨d,hd⟩
 ·omega
 ·exact absurd (Dx hc hd) (by decide)
abbrev Ur (w : World) (b : Nat) (e : Eng) (B1 B2 B3 : Option Addr) : Prop:=Firm w b (fun w => Ff w e B1 B2 B3)
theorem Aw.firm {B1 B2 B3 : Option Addr} {n1 n2 n3 d1 d2 d3 : Nat} (h : Aw w b (.slice B1 n1 d1) (.slice B2 n2 d2) (.slice B3 n3 d3) e) : Ur w b e B1 B2 B3:=fun _ _ hk hS => (h.WS hk hS).reads'
end
structure Rw {α : Type} (d : Kd α) (t : TypeId) (w : World) (N : Nat) (B : Option Addr) (xs : List α) : Prop where
 c : d.C w B xs.length xs
 blk : xs = [] ∨ ∃ ad cells,B = some ad ∧ N ≤ ad.block ∧ w.heap[ad.block]? = some (.cells cells t (0,0))
section
variable {α : Type} {d : Kd α} {t : TypeId} {w w1 : World} {N N' : Nat} {B : Option Addr} {xs : List α} {S : Nat → Prop}
theorem add_block (a : Addr) (k : Nat) : (a.add k).block = a.block:=by
 unfold Addr.add
 split <;> rfl
theorem Vh {w w1 : World} {a : Addr} (h : w1.heap[a.block]? = w.heap[a.block]?) : w1.cell? a = w.cell? a:=by
 simp [World.cell?,h]
theorem Rw.lower (h : Rw d t w N B xs) (hN : N' ≤ N) : Rw d t w N' B xs:=⟨h.c,h.blk.imp id (fun ⟨ad,cells,h1,h2,h3⟩ => ⟨ad,cells,h1,by omega,h3⟩)⟩
theorem Rw.kept (hd : ∀ x cs,d.K w x cs → d.K w1 x cs) (h : Rw d t w N B xs) (hk : Kept w w1 S) (hS : ∀ k,S k → k < N ∨ ∃ e u,u ≠ t ∧ w.heap[k]? = some (.cells e u (0,0))) : Rw d t w1 N B xs:=by
 obtain ⟨⟨h1,h2,h3⟩,h4⟩:=h
 rcases h4 with rfl | ⟨ad,cells,rfl,hN,hc⟩
 ·exact ⟨⟨h1,h2,fun h0 => by simp at h0⟩, .inl rfl⟩
 ·have hlt : ad.block < w.heap.size:=(Array.getElem?_eq_some_iff.1 hc).1
  have hb : w1.heap[ad.block]? = w.heap[ad.block]?:=hk.2 _ hlt (fun hs => by
   rcases hS _ hs with h | ⟨e,u,hu,he⟩
   ·omega
   ·exact hu (Dx he hc))
  refine ⟨⟨h1,h2,fun h0 => ?_⟩, .inr ⟨ad,cells,rfl,hN,hb.trans hc⟩⟩
  obtain ⟨a,ha,hf⟩:=h3 h0
  refine ⟨a,ha,fun i p hp => ?_⟩
  obtain ⟨cs,hl,hK,hcl⟩:=hf i p hp
  injection ha with ha
  subst ha
  exact ⟨cs,hl,hd p cs hK,fun k u hu => (Vh (by rw [add_block];exact hb)).trans (hcl k u hu)⟩
end
theorem int_K (w w1 : World) (x : Int) (cs : List Value) (h : (Kd.int .i64).K w x cs) : (Kd.int .i64).K w1 x cs:=h
theorem WN (w w1 : World) (x : Rec) (cs : List Value) (h : kRec.K w x cs) : kRec.K w1 x cs:=h
abbrev RwI (w : World) (N : Nat) (B : Option Addr) (xs : List Int) : Prop:=Rw (Kd.int .i64) 3 w N B xs
abbrev RwR (w : World) (N : Nat) (B : Option Addr) (l : List Rec) : Prop:=Rw kRec 43 w N B l
section
variable {w w1 : World} {b : Nat} {v : Value}
theorem AA.rw' {A : Option Addr} {n c : Nat} {xs : List Int} (h : AA w b (.slice A n c) xs) : RwI w b A xs:=by
 obtain ⟨A2,c2,h1, -,h2⟩:=h.reads
 injection h1 with h1
 subst h1
 refine ⟨h2,?_⟩
 by_cases hx : xs = []
 ·exact .inl hx
 ·have hp : 0 < xs.length:=List.length_pos_iff.2 hx
  obtain ⟨g,cap,hv,hb,hg⟩:=h.Zq hp
  injection hv with hv
  subst hv
  obtain ⟨c,hc⟩:=Co h g rfl
  exact .inr ⟨_,c,rfl,hb,hc⟩
theorem OwnRs.rw' {A : Option Addr} {n c : Nat} {l : List Rec} (h : OwnRs w b (.slice A n c) l) : RwR w b A l:=by
 obtain ⟨A2,c2,h1, -,h2⟩:=Kd.D6 h
 injection h1 with h1 hn
 subst h1
 refine ⟨h2,?_⟩
 by_cases hx : l = []
 ·exact .inl hx
 ·have hp : 0 < l.length:=List.length_pos_iff.2 hx
  obtain ⟨inner,ho⟩:=Kd.FZ h
  rcases ho.2 with ⟨h3,h4⟩ | ⟨g,cap,cur,h3,hb,hh, -⟩
  ·omega
  ·injection h3 with h3
   subst h3
   exact .inr ⟨_,cur,rfl,hb,hh⟩
end
theorem RwR.firm {w : World} {N b : Nat} {B : Option Addr} {l : List Rec} (h : RwR w N B l) (hN : b ≤ N) : Firm w b (fun w => Kd.C kRec w B l.length l):=fun w2 S hk hS =>
 (h.kept (fun x cs => WN w w2 x cs) hk (fun k hs => (hS k hs).imp (fun h => by omega) (fun ⟨d,hd⟩ => ⟨d,_,by decide,hd⟩))).c
theorem add0 (g m : Nat) : (⟨g,0,none⟩ : Addr).add m = ⟨g,m,none⟩:=by
 unfold Addr.add
 split
 ·rename_i h;rw [h]
 ·simp
theorem VP {o : Oper} {a : Act} {W : World} {b g n cap N i dc : Nat} {ok : Nat → Prop} {ps : List Page} {q : Page} {B : Option Addr} {R : World → Prop} (s x : Operand) (ho : o.op = .store 47 s x)
  (haddr : a.eval s = .pointer (some ⟨g,i * 3,none⟩)) (hx : a.eval x = q.val B dc) (HO : Ci W b ok (.slice (some ⟨g,0,none⟩) n cap) ps) (hi : i < n) (hq : q.vals.length ≤ dc) (HQ : RwI W N B q.vals) (hN : b ≤ N)
  (hoth : ∀ (w2 : World) (S : Nat → Prop),Kept W w2 S → (∀ k,S k → k < b ∨ (∃ d,W.heap[k]? = some (.cells d 26 (0,0))) ∨ k = g) → R w2) :
  ∃ w1,(execOp a.eval o).run Tryz.prog W = .ok .skip w1 ∧ Wrote W w1 (fun k => k = g) ∧ b ≤ g ∧ Firm w1 b (fun w2 => R w2 ∧ Kd.C CJ w2 (some ⟨g,0,none⟩) n (ps.set i q)):=by
 have HR:=Kd.S_R HO
 obtain ⟨inner,hown⟩:=Kd.FZ HR
 obtain ⟨A0,c0,hv0,hcc,hC0⟩:=Kd.D6 HR
 have hn : n = ps.length:=by injection hv0
 subst hn
 rcases hown.2 with ⟨hv,_⟩ | ⟨g',cap',cur,hv,hb,hh,hnc,hcm,hcs,_⟩
 ·cases hv
 injection hv with ha _ hc
 injection ha with ha
 injection ha with hg'
 subst hg';subst hc
 have h3 : cur.size = cap * 3:=hcs
 have hrun : (Instr.storeAt 47 (.pointer (some ⟨g,i * 3,none⟩)) (q.val B dc)).run Tryz.prog W = .ok () (W.setCells g (i * 3) [.int .i64 q.lsn, .int .i64 q.owner, .slice B q.vals.length dc]):=
  IJ _ _ _ hh rfl (by kernel_rfl) (by simp;omega) (by simp [Value.oneCell'])
 have hw1 : Wrote W (W.setCells g (i * 3) [.int .i64 q.lsn, .int .i64 q.owner, .slice B q.vals.length dc]) (fun k => k = g):=by
  obtain ⟨s1,s2,s3,s4⟩:=II g [.int .i64 q.lsn, .int .i64 q.owner, .slice B q.vals.length dc] (i * 3) W
  exact ⟨s1,s2,s3,by rw [s4];exact Nat.le_refl _,fun k _ hk => FN _ _ k hk⟩
 have hh1 : (W.setCells g (i * 3) [.int .i64 q.lsn, .int .i64 q.owner, .slice B q.vals.length dc]).heap[g]? = some (.cells (((cur.setIfInBounds (i * 3) (.int .i64 q.lsn)).setIfInBounds (i * 3 + 1) (.int .i64 q.owner)).setIfInBounds (i * 3 + 1 + 1) (.slice B q.vals.length dc)) 47 (0,0)):=
  heap_setCell_same (heap_setCell_same (heap_setCell_same hh _) _) _
 generalize W.setCells g (i * 3) [.int .i64 q.lsn, .int .i64 q.owner, .slice B q.vals.length dc] = w1 at hrun hw1 hh1
 refine ⟨w1,?_,hw1,hb,fun w2 S hk hS => ?_⟩
 ·unfold execOp
  simp only [ho,haddr,hx,Sem.run_bind,Sem.run_pure]
  rw [hrun]
  rfl
 have hk2 : Kept W w2 (fun k => (S k ∨ k = g) ∧ k < W.heap.size):=⟨Nat.le_trans hw1.kept.1 hk.1,fun k hlt hn => (hk.2 k (Nat.lt_of_lt_of_le hlt hw1.kept.1) (fun hs => hn ⟨.inl hs,hlt⟩)).trans (hw1.kept.2 k hlt (fun he => hn ⟨.inr he,hlt⟩))⟩
 have hS2 : ∀ k,((S k ∨ k = g) ∧ k < W.heap.size) → k < b ∨ (∃ d,W.heap[k]? = some (.cells d 26 (0,0))) ∨ k = g:=by
  rintro k ⟨hs | rfl,hlt⟩
  ·by_cases hkg : k = g
   ·exact .inr (.inr hkg)
   ·rcases hS k hs with h | ⟨d,hd⟩
    ·exact .inl h
    ·exact .inr (.inl ⟨d,(hw1.kept.2 k hlt hkg).symm.trans hd⟩)
  ·exact .inr (.inr rfl)
 have hgs : ¬ S g:=fun hs => by
  rcases hS g hs with h | ⟨d,hd⟩
  ·omega
  ·exact absurd (Dx hh1 hd) (by decide)
 have hgW : g < W.heap.size:=(Array.getElem?_eq_some_iff.1 hh).1
 have hh2:=(hk.2 g (Nat.lt_of_lt_of_le hgW hw1.kept.1) hgs).trans hh1
 have hcell : ∀ m,w2.cell? ⟨g,m,none⟩ = (((cur.setIfInBounds (i * 3) (.int .i64 q.lsn)).setIfInBounds (i * 3 + 1) (.int .i64 q.owner)).setIfInBounds (i * 3 + 1 + 1) (.slice B q.vals.length dc))[m]?:=fun m => by simp [World.cell?,hh2]
 have hcellW : ∀ m,W.cell? ⟨g,m,none⟩ = cur[m]?:=fun m => by simp [World.cell?,hh]
 clear hh1 hh2
 obtain ⟨c1,c2,c3⟩:=hC0
 refine ⟨hoth w2 _ hk2 hS2,⟨by simp,c2,fun h0 => ⟨_,rfl,fun j p hp => ?_⟩⟩⟩
 by_cases hji : j = i
 ·subst hji
  have hqp : q = p:=by
   rw [List.getElem?_set_self hi] at hp
   exact Option.some.inj hp
  subst hqp
  refine ⟨[.int .i64 q.lsn, .int .i64 q.owner, .slice B q.vals.length dc],rfl,QI w2 q hq (HQ.kept (fun x cs => int_K W w2 x cs) hk2 (fun k hs => ?_)).c,fun k u hu => ?_⟩
  ·rcases hS2 k hs with h | ⟨d,hd⟩ | rfl
   ·exact .inl (by omega)
   ·exact .inr ⟨d,_,by decide,hd⟩
   ·exact .inr ⟨_,_,by decide,hh⟩
  ·rw [add0,hcell]
   show _[j * 3 + k]? = _
   have hz : j * 3 + 2 < cur.size:=by omega
   match k,hu with
   | 0,hu =>
    obtain rfl:=Option.some.inj hu
    rw [Array.getElem?_setIfInBounds_ne (by omega),Array.getElem?_setIfInBounds_ne (by omega)]
    exact Array.getElem?_setIfInBounds_self_of_lt (by omega)
   | 1,hu =>
    obtain rfl:=Option.some.inj hu
    rw [Array.getElem?_setIfInBounds_ne (by omega)]
    exact Array.getElem?_setIfInBounds_self_of_lt (by rw [Array.size_setIfInBounds];omega)
   | 2,hu =>
    obtain rfl:=Option.some.inj hu
    exact Array.getElem?_setIfInBounds_self_of_lt (by rw [Array.size_setIfInBounds,Array.size_setIfInBounds];omega)
 ·rw [List.getElem?_set_ne (fun x => hji x.symm)] at hp
  have hjl : j < ps.length:=(List.getElem?_eq_some_iff.1 hp).1
  obtain ⟨c,hl,hM,hc,hf⟩:=Kd.JW HR z0 (j : Int) (by omega) (by omega)
  have hpj : pg ps j = p:=by simp [pg,List.getD_eq_getElem?_getD,hp]
  have hM : CJ.M W b (fun k => ok k ∧ k ≠ g) (pg ps j) c:=hM
  rw [hpj] at hM
  obtain ⟨v,rfl,hv⟩:=JS hM
  obtain ⟨inner2,ho2⟩:=Kd.FZ hv
  have hv2:=Kd.Ih (Kd.IB rfl hv) hk2 (fun k hk hs => by
   obtain ⟨c9,hc9⟩:=Co ho2 k hk.symm
   have hb9:=BN ho2 k hk.symm
   rcases hS2 k hs with h | ⟨d,hd⟩ | rfl
   ·omega
   ·exact absurd (Dx hc9 hd) (by decide)
   ·exact absurd (Dx hc9 hh) (by decide))
  obtain ⟨A2,c22,rfl,hle,hC2⟩:=Kd.D6 hv2
  refine ⟨_,hl,QI w2 p hle hC2,fun k u hu => ?_⟩
  have hk3 : k < 3:=(List.getElem?_eq_some_iff.1 hu).1
  have h1:=hc k u hu
  rw [Int.toNat_natCast] at h1
  have h1 : W.cell? ⟨g,j * 3 + k,none⟩ = some u:=h1
  rw [hcellW] at h1
  rw [add0,hcell]
  show _[j * 3 + k]? = _
  rw [Array.getElem?_setIfInBounds_ne (by omega),Array.getElem?_setIfInBounds_ne (by omega),Array.getElem?_setIfInBounds_ne (by omega)]
  exact h1
section
variable {w : World} {b g n1 n3 d1 cap d3 : Nat} {B1 B3 : Option Addr} {e : Eng}
theorem Aw.XG (h : Aw w b (.slice B1 n1 d1) (.slice (some ⟨g,0,none⟩) e.mem.length cap) (.slice B3 n3 d3) e) : ∃ ok,Ci w b ok (.slice (some ⟨g,0,none⟩) e.mem.length cap) e.mem ∧ ∀ (w2 : World) (S : Nat → Prop),Kept w w2 S → (∀ k,S k → k < b ∨ (∃ d,w.heap[k]? = some (.cells d 26 (0,0))) ∨ k = g) → Kd.C CJ w2 B1 e.disk.length e.disk ∧ Kd.C kRec w2 B3 e.log.length e.log:=by
 obtain ⟨⟨okd,okm,h1,h2,h3⟩,h4⟩:=h
 refine ⟨okm,h3,fun w2 S hk hS => ⟨?_,?_⟩⟩
 ·have h5:=Kd.Ie (Kd.Dg h2) hk (fun k ho hs => by
   rcases hS k hs with h | ⟨d,hd⟩ | rfl
   ·have:=ho.2.1;omega
   ·obtain ⟨q,hq,c,hc⟩:=ho.2.2.2
    have:=Dx hc hd
    rcases Hu q hq with rfl | rfl <;> exact absurd this (by decide)
   ·exact h1 _ ho.1 (Kr h3 _ rfl))
  obtain ⟨A,c,hv, -,hC⟩:=Kd.CV h5
  injection hv with hv
  subst hv
  exact hC
 ·obtain ⟨q,hq,c,hc⟩:=(Kr (Kd.Dg h3) g rfl).2.2.2
  have h5:=Kd.Ih (Kd.IB rfl h4) hk (fun k ho hs => by
   obtain ⟨inner,ho2⟩:=Kd.FZ h4
   obtain ⟨c9,hc9⟩:=Co ho2 k ho.symm
   have hb:=BN ho2 k ho.symm
   rcases hS k hs with h | ⟨d,hd⟩ | rfl
   ·omega
   ·exact absurd (Dx hc9 hd) (by decide)
   ·have:=Dx hc hc9
    rcases Hu q hq with rfl | rfl <;> exact absurd this (by decide))
  obtain ⟨A,c,hv, -,hC⟩:=Kd.D6 h5
  injection hv with hv
  subst hv
  exact hC
end
section
variable {w : World} {b g n2 n3 d2 cap d3 : Nat} {B2 B3 : Option Addr} {e : Eng}
theorem Aw.Zc (h : Aw w b (.slice (some ⟨g,0,none⟩) e.disk.length cap) (.slice B2 n2 d2) (.slice B3 n3 d3) e) : ∃ ok,Ci w b ok (.slice (some ⟨g,0,none⟩) e.disk.length cap) e.disk ∧ ∀ (w2 : World) (S : Nat → Prop),Kept w w2 S → (∀ k,S k → k < b ∨ (∃ d,w.heap[k]? = some (.cells d 26 (0,0))) ∨ k = g) → Kd.C CJ w2 B2 e.mem.length e.mem ∧ Kd.C kRec w2 B3 e.log.length e.log:=by
 obtain ⟨⟨okd,okm,h1,h2,h3⟩,h4⟩:=h
 exact Aw.XG (e:=⟨e.mem,e.disk,e.log,e.safe,e.down⟩) ⟨⟨okm,okd,fun k x y => h1 k y x,h3,h2⟩,h4⟩
end
end Go.Proofs.YtjeodgfkilhkhaaGreat
namespace Go.Proofs.YtjeodgfkilhkhaaGreat
open Go.RowKit Go.Proofs.YtjeodgfkilhkhaaGreatW.PrintWords Go.Proofs.YtjeodgfkilhkhaaGreatW.PrintLast Go.Proofs.YtjeodgfkilhkhaaGreatW.PrintMore
theorem AU.lt {w : World} {g : Nat} {p : Page} {v : Value} (h : AU w g p v) : g < w.heap.size:=(Array.getElem?_eq_some_iff.1 h).1
structure Pgs (wB w wk : World) (g : Nat) (A : Option Addr) (n c : Nat) (p q : Int) (b gv cap : Nat) : Prop where
 rd : Rd wB w wk g A n c p q
 z : AU wk w.heap.size zp (.slice none 0 0)
 pg : ∃ P : Page,P.vals.length = 3 ∧ AU wk b P (.slice (some ⟨gv,0,none⟩) 3 cap) ∧ AA wk (w.heap.size + 1) (.slice (some ⟨gv,0,none⟩) 3 cap) P.vals
 hb : w.heap.size < b
 hv : w.heap.size < gv
section
variable {wB w wk w1 : World} {g c n b gv cap : Nat} {A : Option Addr} {xs : List Int} {p q p' q' : Int}
theorem Pgs.facts (h : Pgs wB w wk g A n c p q b gv cap) : ∃ P : Page,AU wk b P (.slice (some ⟨gv,0,none⟩) 3 cap) ∧ P.vals.length = 3 ∧ AA wk (w.heap.size + 1) (.slice (some ⟨gv,0,none⟩) 3 cap) P.vals ∧ wk.cell? ⟨b,0,none⟩ = some (.int .i64 P.lsn) ∧ wk.cell? ⟨b,1,none⟩ = some (.int .i64 P.owner) ∧ wk.cell? ⟨b,2,none⟩ = some (.slice (some ⟨gv,0,none⟩) 3 cap) ∧ wk.frozen? ⟨b,0,none⟩ = false ∧ wk.frozen? ⟨b,1,none⟩ = false ∧ wk.frozen? ⟨b,2,none⟩ = false ∧ wk.cell? ⟨w.heap.size,0,none⟩ = some (.int .i64 0) ∧ wk.cell? ⟨w.heap.size,1,none⟩ = some (.int .i64 0) ∧ wk.cell? ⟨w.heap.size,2,none⟩ = some (.slice none 0 0) ∧ wk.frozen? ⟨w.heap.size,0,none⟩ = false ∧ wk.frozen? ⟨w.heap.size,1,none⟩ = false ∧ wk.frozen? ⟨w.heap.size,2,none⟩ = false:=by
 obtain ⟨P,hl,hp,ho⟩:=h.pg
 exact ⟨P,hp,hl,ho,hp.c0,hp.c1,hp.c2,hp.frz 0,hp.frz 1,hp.frz 2,h.z.c0,h.z.c1,h.z.c2,h.z.frz 0,h.z.frz 1,h.z.frz 2⟩
theorem Pgs.val (h : Pgs wB w wk g A n c p q b gv cap) {k : Nat} (hk : (k : Int) < 3) : ∃ x,wk.cell? ⟨gv,k,none⟩ = some (.int .i64 x) ∧ wk.frozen? ⟨gv,k,none⟩ = false:=by
 obtain ⟨P,hl,hp,ho⟩:=h.pg
 have ho2 : AA wk (w.heap.size + 1) (.slice (some ⟨gv,0,none⟩) P.vals.length cap) P.vals:=by rw [hl];exact ho
 have h1:=ho2.at (k : Int) (by omega) (by omega)
 rw [Int.toNat_natCast] at h1
 exact ⟨_,h1⟩
theorem Pgs.set0 (h : Pgs wB w wk g A n c p q b gv cap) (x : Int) : Pgs wB w (wk.setCell ⟨b,0,none⟩ (.int .i64 x)) g A n c p q b gv cap:=by
 obtain ⟨P,hl,hp,ho⟩:=h.pg
 have hb:=h.hb
 exact ⟨h.rd.setCell (by omega) 0 _,h.z.far (by omega) 0 _,⟨⟨x,P.owner,P.vals⟩,hl,hp.set0 x,ho.far (DJ ho hp) _ 0⟩,hb,h.hv⟩
theorem Pgs.set1 (h : Pgs wB w wk g A n c p q b gv cap) (x : Int) : Pgs wB w (wk.setCell ⟨b,1,none⟩ (.int .i64 x)) g A n c p q b gv cap:=by
 obtain ⟨P,hl,hp,ho⟩:=h.pg
 have hb:=h.hb
 exact ⟨h.rd.setCell (by omega) 1 _,h.z.far (by omega) 1 _,⟨⟨P.lsn,x,P.vals⟩,hl,hp.set1 x,ho.far (DJ ho hp) _ 1⟩,hb,h.hv⟩
theorem Pgs.setV (h : Pgs wB w wk g A n c p q b gv cap) (k : Nat) (x : Int) : Pgs wB w (wk.setCell ⟨gv,k,none⟩ (.int .i64 x)) g A n c p q b gv cap:=by
 obtain ⟨P,hl,hp,ho⟩:=h.pg
 have hv:=h.hv
 have hne:=DJ ho hp gv rfl
 have ho2 : AA wk (w.heap.size + 1) (.slice (some ⟨gv,0,none⟩) P.vals.length cap) P.vals:=by rw [hl];exact ho
 have h1:=ho2.put (k : Int) x
 rw [Int.toNat_natCast,hl] at h1
 exact ⟨h.rd.setCell (by omega) k _,h.z.far (by omega) k _,⟨⟨P.lsn,P.owner,P.vals.set k x⟩,by simp [hl],hp.far (Ne.symm (fun e => hne e.symm)) k _,h1⟩,h.hb,hv⟩
theorem Pgs.call {m : Int} (h : Pgs wB w wk g A xs.length c p q b gv cap) (hc : By wB A xs) (h0 : 0 ≤ p ∧ q ≤ 1000000) (hm : 1 ≤ m ∧ m ≤ 1000) : Calls Tryz.prog 33 #[.pointer (some ⟨g,0,none⟩), .int .i64 m] wk fun x w' => ∃ k : Nat,x = .returned (.int .i64 (k : Int)) ∧ (k : Int) < m ∧ Pgs wB w w' g A xs.length c p (q + 1) b gv cap:=by
 refine (h.rd.call hc h0 hm).mono ?_
 rintro x w' ⟨k,rfl,hk,hr,hw⟩
 have hgw:=h.rd.hgw
 have hb:=h.hb
 have hv:=h.hv
 obtain ⟨P,hl,hp,ho⟩:=h.pg
 exact ⟨k,rfl,hk,hr,(hw.kept.2 _ h.z.lt (by omega)).trans h.z,⟨P,hl,(hw.kept.2 _ hp.lt (by omega)).trans hp,ho.kept hw.kept (fun k hk => by have hk : k = g:=hk;omega)⟩,hb,hv⟩
theorem Pgs.nes (h : Pgs wB w wk g A n c p q b gv cap) : ¬ b = w.heap.size ∧ ¬ w.heap.size = b ∧ ¬ gv = w.heap.size ∧ ¬ w.heap.size = gv ∧ ¬ b = gv ∧ ¬ gv = b:=by
 obtain ⟨P,hl,hp,ho⟩:=h.pg
 have hne:=DJ ho hp gv rfl
 have hb:=h.hb
 have hv:=h.hv
 exact ⟨by omega,by omega,by omega,by omega,fun e => hne e.symm,hne⟩
theorem Pgs.more (h : Pgs wB w wk g A n c p q b gv cap) (h1 : p' ≤ p) (h2 : q ≤ q') : Pgs wB w wk g A n c p' q' b gv cap:=⟨h.rd.more h1 h2,h.z,h.pg,h.hb,h.hv⟩
theorem Pgs.below (h : Pgs wB w wk g A n c p q b gv cap) (hb : Below wk.heap.size wk w1) : Pgs wB w w1 g A n c p q b gv cap:=by
 obtain ⟨P,hl,hp,ho⟩:=h.pg
 exact ⟨h.rd.below hb,h.z.up hb,⟨P,hl,hp.up hb,ho.below hb⟩,h.hb,h.hv⟩
end
def YV (w : World) (g : Nat) (A : Option Addr) (n c : Nat) (p : Int) (x : Ending) (w' : World) : Prop := ∃ (q : Page) (B : Option Addr) (m d : Nat),x = .returned (q.own (.slice B m d)) ∧ m = q.vals.length ∧ m ≤ d ∧ RwI w' w.heap.size B q.vals ∧ (∃ r,p ≤ r ∧ r ≤ p + 14 ∧ BZ w' g A n c r) ∧ Wrote w w' (fun j => j = g)
theorem RwI.UC {w : World} {N b : Nat} {B : Option Addr} {xs : List Int} {q : Page} {u : Value} (h : RwI w N B xs) (hq : AU w b q u) (j : Nat) (v : Value) : RwI (w.setCell ⟨b,j,none⟩ v) N B xs:=
 h.kept (fun x cs => int_K _ _ x cs) (Nz w b j v) (fun k hk => .inr (by have hk : k = b:=hk;subst hk;exact ⟨_,_,by decide,hq⟩))
theorem RwI.CK {w : World} {N b : Nat} {B : Option Addr} {xs : List Int} {q : Page} {u : Value} (h : RwI w N B xs) (hq : AU w b q u) (p : Page) (v : Value) : RwI (Go.Proofs.YtjeodgfkilhkhaaGreat.CK w b p v) N B xs:=
 ((h.UC hq 0 _).UC (hq.set0 p.lsn) 1 _).UC ((hq.set0 p.lsn).set1 p.owner) 2 _
theorem RwI.drop1 {w : World} {N gv : Nat} {xs : List Int} (h : RwI w N (some ⟨gv,0,none⟩) xs) : RwI w N (some ⟨gv,1,none⟩) (xs.drop 1):=by
 refine ⟨?_,?_⟩
 ·have h1 : (Kd.int .i64).C w (some ((⟨gv,0,none⟩ : Addr).add 1)) (xs.length - 1) (xs.drop 1):=Zd h.c (by decide)
  rw [show xs.length - 1 = (xs.drop 1).length by simp,add0] at h1
  exact h1
 ·rcases h.blk with rfl | ⟨ad,cells,hB,hN,hc⟩
  ·exact .inl rfl
  ·injection hB with hB
   subst hB
   exact .inr ⟨_,cells,rfl,hN,hc⟩
section
variable {wB w wk : World} {g c n b gv cap : Nat} {A : Option Addr} {p q : Int}
theorem Pgs.done (h : Rd wB w wk g A n c p q) (hz : AU wk w.heap.size zp (.slice none 0 0)) (hq : q ≤ p + 14) (l o : Int) {vals : List Int} {B : Option Addr} {m d : Nat} (hm : m = vals.length) (hd : m ≤ d) (hP : RwI wk w.heap.size B vals) : YV w g A n c p (.returned (.agg #[.int .i64 l, .int .i64 o, .slice B m d])) (Go.Proofs.YtjeodgfkilhkhaaGreat.CK wk w.heap.size ⟨l,o, []⟩ (.slice B m d)):=by
 obtain ⟨s,h1,h2,h3⟩:=h.rd
 have hne : g ≠ w.heap.size:=by have:=h.hgw;omega
 have hp : (fun j => j = g) w.heap.size ∨ w.heap.size ≤ w.heap.size:=.inr (Nat.le_refl _)
 exact ⟨⟨l,o,vals⟩,B,m,d,rfl,hm,hd,hP.CK hz _ _,⟨s,h1,by omega,((h3.IQ hne _ _).IQ hne _ _).IQ hne _ _⟩,((h.wr.setCell (p:=⟨w.heap.size,0,none⟩) hp _).setCell (p:=⟨w.heap.size,1,none⟩) hp _).setCell (p:=⟨w.heap.size,2,none⟩) hp _⟩
theorem VZ {w : World} {b : Nat} {A : Option Addr} {m d : Nat} {xs : List Int} (h : AA w b (.slice A m d) xs) : m ≤ d:=by
 obtain ⟨A2,c2,h1,h2, -⟩:=h.reads
 injection h1 with _ h3 h4
 omega
theorem Pgs.done0 (h : Pgs wB w wk g A n c p q b gv cap) (hq : q ≤ p + 14) (l o : Int) : YV w g A n c p (.returned (.agg #[.int .i64 l, .int .i64 o, .slice (some ⟨gv,0,none⟩) 3 cap])) (Go.Proofs.YtjeodgfkilhkhaaGreat.CK wk w.heap.size ⟨l,o, []⟩ (.slice (some ⟨gv,0,none⟩) 3 cap)):=by
 obtain ⟨P,hl,hp,ho⟩:=h.pg
 exact Pgs.done h.rd h.z hq l o (vals:=P.vals) hl.symm (VZ ho) ((ho.lower (Nat.le_succ _)).rw')
theorem Pgs.done1 (h : Pgs wB w wk g A n c p q b gv cap) (hq : q ≤ p + 14) (l o : Int) : YV w g A n c p (.returned (.agg #[.int .i64 l, .int .i64 o, .slice (some ⟨gv,1,none⟩) 2 (cap - 1)])) (Go.Proofs.YtjeodgfkilhkhaaGreat.CK (wk.setCell ⟨b,2,none⟩ (.slice (some ⟨gv,1,none⟩) 2 (cap - 1))) w.heap.size ⟨l,o, []⟩ (.slice (some ⟨gv,1,none⟩) 2 (cap - 1))):=by
 obtain ⟨P,hl,hp,ho⟩:=h.pg
 have hb:=h.hb
 have hcap:=VZ ho
 exact Pgs.done (h.rd.setCell (by omega) 2 _) (h.z.far (by omega) 2 _) hq l o (vals:=P.vals.drop 1) (by simp [hl]) (by omega) ((ho.lower (Nat.le_succ _)).rw'.drop1.UC hp 2 _)
end
set_option maxRecDepth 100000 in
set_option maxHeartbeats 16000000 in
theorem l71Page_calls {wB w : World} {g c : Nat} {A : Option Addr} {xs : List Int} {p : Int} (hp : 0 ≤ p ∧ p ≤ 900000) (hc : By wB A xs) (hb : Below wB.heap.size wB w) (hg : wB.heap.size ≤ g) (hq : BZ w g A xs.length c p) : Calls Tryz.prog 103 #[.pointer (some ⟨g,0,none⟩)] w (YV w g A xs.length c p):=by
 have HP:=As hp
 have HC:=As hc
 have HR0:=As (Rd.start hb hg hq)
 have K0 : True:=trivial
 clear hp hc hb hg hq
 go_enter Tryz.func103,Tryz.ntmps103
 go_wp2_with (first | (clear K0;refine G9 (v:=.slice none 0 0) zp ?_;intro w1 hb1 hz1 hq1;have HR:=As (HR0.out.below hb1);have HZ:=As hq1;have HN:=As hz1;clear hb1 hz1 hq1;have K1 : True:=trivial) | (clear K1;go_at_call 126;refine (L6 w1).mono ?_;rintro x w2 ⟨v,rfl,ho,hb2⟩;obtain ⟨gv,cap,rfl,hgb, -⟩:=ho.Zq (by decide);have HO:=As ho;have HGB:=As hgb;have HB2:=As hb2;clear ho hb2 hgb;have K2 : True:=trivial) | (clear K2;refine G9 (v:=.slice (some ⟨gv,0,none⟩) 3 cap) newP ?_;intro w3 hb3 hz3 hq3;have HS : A7 (Pgs wB w w3 g A xs.length c p p w2.heap.size gv cap):=⟨by have h1:=HN.out;have h2:=HB2.out.size;have h3:=HGB.out;exact ⟨(HR.out.below HB2.out).below hb3,(HZ.out.up HB2.out).up hb3,⟨newP,rfl,hq3,(HO.out.lower (by omega)).below hb3⟩,by omega,by omega⟩⟩;clear hb3 hz3 hq3;obtain ⟨n1,n2,n3,n4,n5,n6⟩:=HS.out.nes;obtain ⟨P,hPB,hPL,hPO,x0,x1,x2,f0,f1,f2,z0,z1,z2,g0,g1,g2⟩:=HS.out.facts;have HPB:=As hPB;have HPO:=As (And.intro hPL hPO);clear hPB hPL hPO;have K3 : True:=trivial) | (clear K3;go_at_call 33;refine (HS.out.call HC.out (by have:=HP.out;omega) (by decide)).mono ?_;rintro x wk ⟨k1,rfl,hk_k1,hs⟩;have HS:=As hs;clear hs;clear x0 x1 x2 f0 f1 f2 z0 z1 z2 g0 g1 g2 HPB HPO P;obtain ⟨P,hPB,hPL,hPO,x0,x1,x2,f0,f1,f2,z0,z1,z2,g0,g1,g2⟩:=HS.out.facts;have HPB:=As hPB;have HPO:=As (And.intro hPL hPO);clear hPB hPL hPO;have K4 : True:=trivial))
 have HS:=As (HS.out.set0 (k1 : Int))
 clear x0 x1 x2 f0 f1 f2 z0 z1 z2 g0 g1 g2 HPB HPO P
 obtain ⟨P,hPB,hPL,hPO,x0,x1,x2,f0,f1,f2,z0,z1,z2,g0,g1,g2⟩:=HS.out.facts
 have HPB:=As hPB
 have HPO:=As (And.intro hPL hPO)
 clear hPB hPL hPO
 go_at_call 33
 refine (HS.out.call HC.out (by have:=HP.out;omega) (by decide)).mono ?_
 rintro x wk ⟨k2,rfl,hk_k2,hs⟩
 have HS:=As hs
 clear hs
 clear x0 x1 x2 f0 f1 f2 z0 z1 z2 g0 g1 g2 HPB HPO P
 obtain ⟨P,hPB,hPL,hPO,x0,x1,x2,f0,f1,f2,z0,z1,z2,g0,g1,g2⟩:=HS.out.facts
 have HPB:=As hPB
 have HPO:=As (And.intro hPL hPO)
 clear hPB hPL hPO
 obtain ⟨s1,hs1⟩ : ∃ s : Int,s = (k2 : Int):=⟨_,rfl⟩
 rw [← hs1]
 have hs0 : 0 ≤ s1:=by omega
 clear hs1 hk_k2 k2
 rcases lts 0 s1 with ⟨e1,b1,c1⟩ | ⟨e1,b1,c1⟩
 ·go_wp2_with (first | (go_at_call 33;refine (HS.out.call HC.out (by have:=HP.out;omega) (by decide)).mono ?_;rintro x wk ⟨k3,rfl,hk_k3,hs⟩;have HS:=As hs;clear hs;clear x0 x1 x2 f0 f1 f2 z0 z1 z2 g0 g1 g2 HPB HPO P;obtain ⟨P,hPB,hPL,hPO,x0,x1,x2,f0,f1,f2,z0,z1,z2,g0,g1,g2⟩:=HS.out.facts;have HPB:=As hPB;have HPO:=As (And.intro hPL hPO);clear hPB hPL hPO))
  have HS:=As (HS.out.set1 (1 + (k3 : Int)))
  go_loopw [4] (fun i wr => ∃ k : Nat,k ≤ 3 ∧ i = .int .i64 (k : Int) ∧ A7 (Pgs wB w wr g A xs.length c p (p + 3 + 2 * (k : Int)) w2.heap.size gv cap)) (fun i _ => (3 - intOf i).toNat)
  case atStart => exact ⟨0,by decide,rfl,⟨HS.out.more (Int.le_refl _) (by omega)⟩⟩
  case round =>
   clear x0 x1 x2 f0 f1 f2 z0 z1 z2 g0 g1 g2 HPB HPO P HS
   obtain ⟨k,hk,rfl,HS⟩:=hrel
   obtain ⟨P,hPB,hPL,hPO,x0,x1,x2,f0,f1,f2,z0,z1,z2,g0,g1,g2⟩:=HS.out.facts
   have HPB:=As hPB
   have HPO:=As (And.intro hPL hPO)
   clear hPB hPL hPO
   by_cases hlt : k < 3
   ·have hki : (k : Int) < 3:=by omega
    go_wp2_with fail
    go_at_call 33
    refine (HS.out.call HC.out (by have:=HP.out;omega) (by decide)).mono ?_
    rintro x wk ⟨k5,rfl,hk_k5,hs⟩
    have HS:=As hs
    clear hs
    clear x0 x1 x2 f0 f1 f2 z0 z1 z2 g0 g1 g2 HPB HPO P
    obtain ⟨P,hPB,hPL,hPO,x0,x1,x2,f0,f1,f2,z0,z1,z2,g0,g1,g2⟩:=HS.out.facts
    have HPB:=As hPB
    have HPO:=As (And.intro hPL hPO)
    clear hPB hPL hPO
    obtain ⟨s5,hs5⟩ : ∃ s : Int,s = (k5 : Int):=⟨_,rfl⟩
    rw [← hs5]
    clear hs5 hk_k5 k5
    rcases lts 0 s5 with ⟨e5,b5,c5⟩ | ⟨e5,b5,c5⟩
    ·have HCD:=HS
     clear x0 x1 x2 f0 f1 f2 z0 z1 z2 g0 g1 g2 HPB HPO P HS
     go_wp2
     refine Bo (fun lx a wx => Pgs wB w wx g A xs.length c p (p + 3 + 2 * (k : Int) + 1 + 1) w2.heap.size gv cap ∧ Un 4 (fun wx => Pgs wB w wx g A xs.length c p (p + 3 + 2 * (k : Int) + 1) w2.heap.size gv cap) lx a wx) 6 rfl (by kernel_rfl) (⟨(HCD.out.below (Ac (Below.refl _ _))).more (Int.le_refl _) (by omega),fun _ => HCD.out.below (Ac (Below.refl _ _))⟩) (fun HT => ?_)
     refine Bw [0,1,2,3] ?_
     iterate 4 (refine Bq (v:=?_) HT rfl (by kernel_rfl) rfl (kA Ah (Bj rfl)) (by rfl) (fun _ _ _ h => h) (fun lx ax wx hS => ?_) ?_;rotate_left;(obtain ⟨P, -, -, -,x0,x1,x2, -⟩:=hS.1.facts;go_simp;with_reducible rfl);rotate_left;simp only [sc0,sc1])
     refine Bv ?_
     refine Cr (i:=4) (f:=33) (args:=#[.pointer (some ⟨g,0,none⟩), .int .i64 10]) (fun v => ∃ k : Nat,v = .int .i64 (k : Int) ∧ (k : Int) < 10) rfl (by kernel_rfl) rfl Tryz.func33 (by kernel_rfl) rfl rfl (by rfl) (by simp only [List.map_toArray,List.map_cons,List.map_nil];rfl) (fun wx hS => ((hS.2 (by kernel_rfl)).call HC.out (by have:=HP.out;omega) (by decide)).mono (by rintro y w6 ⟨k,rfl,hk,hc⟩;exact ⟨_,rfl,⟨k,rfl,hk⟩,hc,fun h => (Ao (by kernel_rfl) h).elim⟩)) (fun vx hg => ?_);simp only [sc0,sc1]
     obtain ⟨k6,rfl,hk6⟩:=hg
     refine CZ (i:=5) (v:=?_) HT rfl (by kernel_rfl) rfl (kA Ah (Bj rfl)) (by rfl) (fun _ _ _ h => h) (fun lx ax wx hS => ?_) ?_;rotate_left;(go_simp;with_reducible rfl);rotate_left;simp only [sc0,sc1]
     refine Cb (i:=6) (by kernel_rfl) rfl (fun wx hS => ?_)
     obtain ⟨_,hv0,hv1⟩:=hS.1.val hki
     refine BH (w1:=?_) rfl (by rfl) ?_ ?_
     rotate_left
     ·go_simp
      with_reducible rfl
     refine BM (by kernel_rfl) ?_
     have HT:=As (hS.1.setV k (k6 : Int))
     clear hS hv0 hv1
     go_wp2
     go_roundw
     case rel => exact ⟨k + 1,by omega,by go_num,⟨HT.out.more (Int.le_refl _) (by push_cast;omega)⟩⟩
     case measure => simp [intOf];omega
    ·go_wp2
     go_roundw
     case rel => exact ⟨k + 1,by omega,by go_num,⟨HS.out.more (Int.le_refl _) (by push_cast;omega)⟩⟩
     case measure => simp [intOf];omega
   ·have hki : ¬ (k : Int) < 3:=by omega
    have HS:=As (HS.out.more (p':=p) (q':=p + 9) (Int.le_refl _) (by omega))
    go_wp2_with fail
    go_at_call 33
    refine (HS.out.call HC.out (by have:=HP.out;omega) (by decide)).mono ?_
    rintro x wk ⟨k9,rfl,hk_k9,hs⟩
    have HS:=As hs
    clear hs
    clear x0 x1 x2 f0 f1 f2 z0 z1 z2 g0 g1 g2 HPB HPO P
    obtain ⟨P,hPB,hPL,hPO,x0,x1,x2,f0,f1,f2,z0,z1,z2,g0,g1,g2⟩:=HS.out.facts
    have HPB:=As hPB
    have HPO:=As (And.intro hPL hPO)
    clear hPB hPL hPO
    obtain ⟨s2,hs2⟩ : ∃ s : Int,s = (k9 : Int):=⟨_,rfl⟩
    rw [← hs2]
    have hcs : s2 = 0 ∨ s2 = 1 ∨ s2 = 2 ∨ 3 ≤ s2:=by omega
    clear hs2 hk_k9 k9
    rcases hcs with rfl | rfl | rfl | h4
    ·go_wp2_with (first | (go_at_call 33;refine (HS.out.call HC.out (by have:=HP.out;omega) (by decide)).mono ?_;rintro x wk ⟨k8,rfl,hk_k8,hs⟩;have HS:=As hs;clear hs;clear x0 x1 x2 f0 f1 f2 z0 z1 z2 g0 g1 g2 HPB HPO P;obtain ⟨P,hPB,hPL,hPO,x0,x1,x2,f0,f1,f2,z0,z1,z2,g0,g1,g2⟩:=HS.out.facts;have HPB:=As hPB;have HPO:=As (And.intro hPL hPO);clear hPB hPL hPO))
     have hy:=((HS.out.set1 ((k8 : Int) - 1)).z).CK ⟨P.lsn,((k8 : Int) - 1), []⟩ (.slice (some ⟨gv,0,none⟩) 3 cap)
     have y0:=hy.c0
     have y1:=hy.c1
     have y2:=hy.c2
     exact bodyPost_ret (v:=.agg #[.int .i64 P.lsn, .int .i64 ((k8 : Int) - 1),(.slice (some ⟨gv,0,none⟩) 3 cap)]) (by simp [results,Tryz.results103,go_sem,y0,y1,y2]) rfl ((HS.out.set1 ((k8 : Int) - 1)).done0 (by omega) P.lsn ((k8 : Int) - 1))
    ·have HCD:=HS
     clear x0 x1 x2 f0 f1 f2 z0 z1 z2 g0 g1 g2 HPB HPO P HS
     go_wp2
     refine Bo (fun lx a wx => Pgs wB w wx g A xs.length c p (p + 9 + 1 + 1 + 1) w2.heap.size gv cap ∧ (Un 8 (fun wx => Pgs wB w wx g A xs.length c p (p + 9 + 1 + 1) w2.heap.size gv cap) lx a wx ∧ Un 6 (fun wx => Pgs wB w wx g A xs.length c p (p + 9 + 1) w2.heap.size gv cap) lx a wx)) 11 rfl (by kernel_rfl) (⟨(HCD.out.below (Ac (Below.refl _ _))).more (Int.le_refl _) (by omega),fun _ => (HCD.out.below (Ac (Below.refl _ _))).more (Int.le_refl _) (by omega),fun _ => HCD.out.below (Ac (Below.refl _ _))⟩) (fun HT => ?_)
     refine Bw [0,1,2,3,4,5,7] ?_
     iterate 7 (refine Bq (v:=?_) HT rfl (by kernel_rfl) rfl (kA Ah (kA (Bj rfl) (Bj rfl))) (by rfl) (fun _ _ _ h => h) (fun lx ax wx hS => ?_) ?_;rotate_left;(obtain ⟨P, -, -, -,x0,x1,x2, -⟩:=hS.1.facts;go_simp;with_reducible rfl);rotate_left;simp only [sc0,sc1])
     refine Bv ?_
     refine Cr (i:=6) (f:=33) (args:=#[.pointer (some ⟨g,0,none⟩), .int .i64 3]) (fun v => ∃ k : Nat,v = .int .i64 (k : Int) ∧ (k : Int) < 3) rfl (by kernel_rfl) rfl Tryz.func33 (by kernel_rfl) rfl rfl (by rfl) (by simp only [List.map_toArray,List.map_cons,List.map_nil];rfl) (fun wx hS => ((hS.2.2 (by kernel_rfl)).call HC.out (by have:=HP.out;omega) (by decide)).mono (by rintro y w6 ⟨k,rfl,hk,hc⟩;exact ⟨_,rfl,⟨k,rfl,hk⟩,hc.more (Int.le_refl _) (by omega),fun _ => hc,fun h => (Ao (by kernel_rfl) h).elim⟩)) (fun vx hg => ?_);simp only [sc0,sc1]
     obtain ⟨k6,rfl,hk6⟩:=hg
     refine Cr (i:=8) (f:=33) (args:=#[.pointer (some ⟨g,0,none⟩), .int .i64 13]) (fun v => ∃ k : Nat,v = .int .i64 (k : Int) ∧ (k : Int) < 13) rfl (by kernel_rfl) rfl Tryz.func33 (by kernel_rfl) rfl rfl (by rfl) (by simp only [List.map_toArray,List.map_cons,List.map_nil];rfl) (fun wx hS => ((hS.2.1 (by kernel_rfl)).call HC.out (by have:=HP.out;omega) (by decide)).mono (by rintro y w6 ⟨k,rfl,hk,hc⟩;exact ⟨_,rfl,⟨k,rfl,hk⟩,hc,fun h => (Ao (by kernel_rfl) h).elim,fun h => (Ao (by kernel_rfl) h).elim⟩)) (fun vx hg => ?_);simp only [sc0,sc1]
     obtain ⟨k7,rfl,hk7⟩:=hg
     refine Bw [9,10] ?_
     iterate 2 (refine Bq (v:=?_) HT rfl (by kernel_rfl) rfl (kA Ah (kA (Bj rfl) (Bj rfl))) (by rfl) (fun _ _ _ h => h) (fun lx ax wx hS => ?_) ?_;rotate_left;(go_simp;with_reducible rfl);rotate_left;simp only [sc0,sc1])
     refine Bv ?_
     refine Cb (i:=11) (by kernel_rfl) rfl (fun wx hS => ?_)
     obtain ⟨_,hv0,hv1⟩:=hS.1.val hk6
     refine BH (w1:=?_) rfl (by rfl) ?_ ?_
     rotate_left
     ·go_simp
      with_reducible rfl
     refine BM (by kernel_rfl) ?_
     have HS:=As hS.1
     clear hS hv0 hv1
     obtain ⟨P,hPB,hPL,hPO,x0,x1,x2,f0,f1,f2,z0,z1,z2,g0,g1,g2⟩:=HS.out.facts
     have HPB:=As hPB
     have HPO:=As (And.intro hPL hPO)
     clear hPB hPL hPO
     have HT:=As (HS.out.setV k6 ((k7 : Int) - 1))
     go_wp2
     have hy:=(HT.out.z).CK ⟨P.lsn,P.owner, []⟩ (.slice (some ⟨gv,0,none⟩) 3 cap)
     have y0:=hy.c0
     have y1:=hy.c1
     have y2:=hy.c2
     exact bodyPost_ret (v:=.agg #[.int .i64 P.lsn, .int .i64 P.owner,(.slice (some ⟨gv,0,none⟩) 3 cap)]) (by simp [results,Tryz.results103,go_sem,y0,y1,y2]) rfl (HT.out.done0 (by omega) P.lsn P.owner)
    ·have hcap:=VZ HPO.out.2
     go_wp2
     have hy:=(HS.out.z.far (h:=w2.heap.size) (Nat.ne_of_gt HS.out.hb) 2 (.slice (some ⟨gv,1,none⟩) 2 (cap - 1))).CK ⟨P.lsn,P.owner, []⟩ (.slice (some ⟨gv,1,none⟩) 2 (cap - 1))
     have y0:=hy.c0
     have y1:=hy.c1
     have y2:=hy.c2
     exact bodyPost_ret (v:=.agg #[.int .i64 P.lsn, .int .i64 P.owner,(.slice (some ⟨gv,1,none⟩) 2 (cap - 1))]) (by simp [results,Tryz.results103,go_sem,y0,y1,y2]) rfl (HS.out.done1 (by omega) P.lsn P.owner)
    ·have n0 : (s2 == 0) = false:=by rw [beq_eq_false_iff_ne];omega
     have n1 : (s2 == 1) = false:=by rw [beq_eq_false_iff_ne];omega
     have n2 : (s2 == 2) = false:=by rw [beq_eq_false_iff_ne];omega
     go_wp2
     have hy:=(HS.out.z).CK ⟨P.lsn,P.owner, []⟩ (.slice (some ⟨gv,0,none⟩) 3 cap)
     have y0:=hy.c0
     have y1:=hy.c1
     have y2:=hy.c2
     exact bodyPost_ret (v:=.agg #[.int .i64 P.lsn, .int .i64 P.owner,(.slice (some ⟨gv,0,none⟩) 3 cap)]) (by simp [results,Tryz.results103,go_sem,y0,y1,y2]) rfl (HS.out.done0 (by omega) P.lsn P.owner)
 ·go_wp2_with fail
  go_at_call 33
  refine (HS.out.call HC.out (by have:=HP.out;omega) (by decide)).mono ?_
  rintro x wk ⟨k9,rfl,hk_k9,hs⟩
  have HS:=As hs
  clear hs
  clear x0 x1 x2 f0 f1 f2 z0 z1 z2 g0 g1 g2 HPB HPO P
  obtain ⟨P,hPB,hPL,hPO,x0,x1,x2,f0,f1,f2,z0,z1,z2,g0,g1,g2⟩:=HS.out.facts
  have HPB:=As hPB
  have HPO:=As (And.intro hPL hPO)
  clear hPB hPL hPO
  obtain ⟨s2,hs2⟩ : ∃ s : Int,s = (k9 : Int):=⟨_,rfl⟩
  rw [← hs2]
  have hcs : s2 = 0 ∨ s2 = 1 ∨ s2 = 2 ∨ 3 ≤ s2:=by omega
  clear hs2 hk_k9 k9
  rcases hcs with rfl | rfl | rfl | h4
  ·go_wp2_with (first | (go_at_call 33;refine (HS.out.call HC.out (by have:=HP.out;omega) (by decide)).mono ?_;rintro x wk ⟨k8,rfl,hk_k8,hs⟩;have HS:=As hs;clear hs;clear x0 x1 x2 f0 f1 f2 z0 z1 z2 g0 g1 g2 HPB HPO P;obtain ⟨P,hPB,hPL,hPO,x0,x1,x2,f0,f1,f2,z0,z1,z2,g0,g1,g2⟩:=HS.out.facts;have HPB:=As hPB;have HPO:=As (And.intro hPL hPO);clear hPB hPL hPO))
   have hy:=((HS.out.set1 ((k8 : Int) - 1)).z).CK ⟨P.lsn,((k8 : Int) - 1), []⟩ (.slice (some ⟨gv,0,none⟩) 3 cap)
   have y0:=hy.c0
   have y1:=hy.c1
   have y2:=hy.c2
   exact bodyPost_ret (v:=.agg #[.int .i64 P.lsn, .int .i64 ((k8 : Int) - 1),(.slice (some ⟨gv,0,none⟩) 3 cap)]) (by simp [results,Tryz.results103,go_sem,y0,y1,y2]) rfl ((HS.out.set1 ((k8 : Int) - 1)).done0 (by omega) P.lsn ((k8 : Int) - 1))
  ·have HCD:=HS
   clear x0 x1 x2 f0 f1 f2 z0 z1 z2 g0 g1 g2 HPB HPO P HS
   go_wp2
   refine Bo (fun lx a wx => Pgs wB w wx g A xs.length c p (p + 1 + 1 + 1 + 1 + 1) w2.heap.size gv cap ∧ (Un 8 (fun wx => Pgs wB w wx g A xs.length c p (p + 1 + 1 + 1 + 1) w2.heap.size gv cap) lx a wx ∧ Un 6 (fun wx => Pgs wB w wx g A xs.length c p (p + 1 + 1 + 1) w2.heap.size gv cap) lx a wx)) 11 rfl (by kernel_rfl) (⟨(HCD.out.below (Ac (Below.refl _ _))).more (Int.le_refl _) (by omega),fun _ => (HCD.out.below (Ac (Below.refl _ _))).more (Int.le_refl _) (by omega),fun _ => HCD.out.below (Ac (Below.refl _ _))⟩) (fun HT => ?_)
   refine Bw [0,1,2,3,4,5,7] ?_
   iterate 7 (refine Bq (v:=?_) HT rfl (by kernel_rfl) rfl (kA Ah (kA (Bj rfl) (Bj rfl))) (by rfl) (fun _ _ _ h => h) (fun lx ax wx hS => ?_) ?_;rotate_left;(obtain ⟨P, -, -, -,x0,x1,x2, -⟩:=hS.1.facts;go_simp;with_reducible rfl);rotate_left;simp only [sc0,sc1])
   refine Bv ?_
   refine Cr (i:=6) (f:=33) (args:=#[.pointer (some ⟨g,0,none⟩), .int .i64 3]) (fun v => ∃ k : Nat,v = .int .i64 (k : Int) ∧ (k : Int) < 3) rfl (by kernel_rfl) rfl Tryz.func33 (by kernel_rfl) rfl rfl (by rfl) (by simp only [List.map_toArray,List.map_cons,List.map_nil];rfl) (fun wx hS => ((hS.2.2 (by kernel_rfl)).call HC.out (by have:=HP.out;omega) (by decide)).mono (by rintro y w6 ⟨k,rfl,hk,hc⟩;exact ⟨_,rfl,⟨k,rfl,hk⟩,hc.more (Int.le_refl _) (by omega),fun _ => hc,fun h => (Ao (by kernel_rfl) h).elim⟩)) (fun vx hg => ?_);simp only [sc0,sc1]
   obtain ⟨k6,rfl,hk6⟩:=hg
   refine Cr (i:=8) (f:=33) (args:=#[.pointer (some ⟨g,0,none⟩), .int .i64 13]) (fun v => ∃ k : Nat,v = .int .i64 (k : Int) ∧ (k : Int) < 13) rfl (by kernel_rfl) rfl Tryz.func33 (by kernel_rfl) rfl rfl (by rfl) (by simp only [List.map_toArray,List.map_cons,List.map_nil];rfl) (fun wx hS => ((hS.2.1 (by kernel_rfl)).call HC.out (by have:=HP.out;omega) (by decide)).mono (by rintro y w6 ⟨k,rfl,hk,hc⟩;exact ⟨_,rfl,⟨k,rfl,hk⟩,hc,fun h => (Ao (by kernel_rfl) h).elim,fun h => (Ao (by kernel_rfl) h).elim⟩)) (fun vx hg => ?_);simp only [sc0,sc1]
   obtain ⟨k7,rfl,hk7⟩:=hg
   refine Bw [9,10] ?_
   iterate 2 (refine Bq (v:=?_) HT rfl (by kernel_rfl) rfl (kA Ah (kA (Bj rfl) (Bj rfl))) (by rfl) (fun _ _ _ h => h) (fun lx ax wx hS => ?_) ?_;rotate_left;(go_simp;with_reducible rfl);rotate_left;simp only [sc0,sc1])
   refine Bv ?_
   refine Cb (i:=11) (by kernel_rfl) rfl (fun wx hS => ?_)
   obtain ⟨_,hv0,hv1⟩:=hS.1.val hk6
   refine BH (w1:=?_) rfl (by rfl) ?_ ?_
   rotate_left
   ·go_simp
    with_reducible rfl
   refine BM (by kernel_rfl) ?_
   have HS:=As hS.1
   clear hS hv0 hv1
   obtain ⟨P,hPB,hPL,hPO,x0,x1,x2,f0,f1,f2,z0,z1,z2,g0,g1,g2⟩:=HS.out.facts
   have HPB:=As hPB
   have HPO:=As (And.intro hPL hPO)
   clear hPB hPL hPO
   have HT:=As (HS.out.setV k6 ((k7 : Int) - 1))
   go_wp2
   have hy:=(HT.out.z).CK ⟨P.lsn,P.owner, []⟩ (.slice (some ⟨gv,0,none⟩) 3 cap)
   have y0:=hy.c0
   have y1:=hy.c1
   have y2:=hy.c2
   exact bodyPost_ret (v:=.agg #[.int .i64 P.lsn, .int .i64 P.owner,(.slice (some ⟨gv,0,none⟩) 3 cap)]) (by simp [results,Tryz.results103,go_sem,y0,y1,y2]) rfl (HT.out.done0 (by omega) P.lsn P.owner)
  ·have hcap:=VZ HPO.out.2
   go_wp2
   have hy:=(HS.out.z.far (h:=w2.heap.size) (Nat.ne_of_gt HS.out.hb) 2 (.slice (some ⟨gv,1,none⟩) 2 (cap - 1))).CK ⟨P.lsn,P.owner, []⟩ (.slice (some ⟨gv,1,none⟩) 2 (cap - 1))
   have y0:=hy.c0
   have y1:=hy.c1
   have y2:=hy.c2
   exact bodyPost_ret (v:=.agg #[.int .i64 P.lsn, .int .i64 P.owner,(.slice (some ⟨gv,1,none⟩) 2 (cap - 1))]) (by simp [results,Tryz.results103,go_sem,y0,y1,y2]) rfl (HS.out.done1 (by omega) P.lsn P.owner)
  ·have n0 : (s2 == 0) = false:=by rw [beq_eq_false_iff_ne];omega
   have n1 : (s2 == 1) = false:=by rw [beq_eq_false_iff_ne];omega
   have n2 : (s2 == 2) = false:=by rw [beq_eq_false_iff_ne];omega
   go_wp2
   have hy:=(HS.out.z).CK ⟨P.lsn,P.owner, []⟩ (.slice (some ⟨gv,0,none⟩) 3 cap)
   have y0:=hy.c0
   have y1:=hy.c1
   have y2:=hy.c2
   exact bodyPost_ret (v:=.agg #[.int .i64 P.lsn, .int .i64 P.owner,(.slice (some ⟨gv,0,none⟩) 3 cap)]) (by simp [results,Tryz.results103,go_sem,y0,y1,y2]) rfl (HS.out.done0 (by omega) P.lsn P.owner)
end Go.Proofs.YtjeodgfkilhkhaaGreat
