/- A part of the proof: what the last text of the claim says leans on this one. -/
import Derived.Test.YtjeodgfkilhkhaaGreatZR1
import Derived.Test.YtjeodgfkilhkhaaGreatZF1
import Derived.Test.YtjeodgfkilhkhaaGreatZQ1
import Derived.Test.YtjeodgfkilhkhaaGreatZV2
set_option linter.unusedVariables false
set_option linter.unusedSimpArgs false
namespace Go.Proofs.YtjeodgfkilhkhaaGreat
open Go.RowKit Go.Proofs.YtjeodgfkilhkhaaGreatW.PrintWords Go.Proofs.YtjeodgfkilhkhaaGreatW.PrintLast Go.Proofs.YtjeodgfkilhkhaaGreatW.PrintMore
def RetLog (w : World) (g : Nat) (A : Option Addr) (n c : Nat) (p : Int) (x : Ending) (w' : World) : Prop := ∃ (l : List Rec) (B : Option Addr) (m d : Nat),x = .returned (.slice B m d) ∧ m = l.length ∧ m ≤ d ∧ Rh l ∧ l.length ≤ 151 ∧ RwR w' w.heap.size B l ∧ (∃ r,0 ≤ r ∧ r ≤ p + 1020 ∧ BZ w' g A n c r) ∧ Wrote w w' (fun j => j = g)
theorem RwR.YO {w w1 : World} {N g : Nat} {B : Option Addr} {l : List Rec} (h : RwR w N B l) (hw : Wrote w w1 (fun j => j = g)) (hg : g < N) : RwR w1 N B l:=
 h.kept (fun x cs => WN _ _ x cs) hw.kept (fun k hk => .inl (by have hk : k = g:=hk;omega))
theorem RwR.drop1 {w : World} {N gv : Nat} {l : List Rec} (h : RwR w N (some ⟨gv,0,none⟩) l) : RwR w N (some ⟨gv,8,none⟩) (l.drop 1):=by
 refine ⟨?_,?_⟩
 ·have h1 : kRec.C w (some ((⟨gv,0,none⟩ : Addr).add 8)) (l.length - 1) (l.drop 1):=Zd h.c (by decide)
  rw [show l.length - 1 = (l.drop 1).length by simp,add0] at h1
  exact h1
 ·rcases h.blk with rfl | ⟨ad,cells,hB,hN,hc⟩
  ·exact .inl rfl
  ·injection hB with hB
   subst hB
   exact .inr ⟨_,cells,rfl,hN,hc⟩
theorem TM (w : World) (r : Rec) : kRec.K w r r.cells:=by
 obtain ⟨c1,c2,h⟩:=Lp w 0 (fun _ => True) r
 exact ⟨c1,c2,h⟩
theorem RwR.prev {w : World} {N gv k : Nat} {l : List Rec} (h : RwR w N (some ⟨gv,0,none⟩) l) (hk : k < l.length) (x : Int) : RwR (w.setCell ⟨gv,k * 8 + 6,none⟩ (.int .i64 x)) N (some ⟨gv,0,none⟩) (l.set k { rc l k with prev:=x }):=by
 have hb:=h.blk
 rcases hb with rfl | ⟨ad,cells,hB,hN,hc⟩
 ·simp at hk
 injection hB with hB
 subst hB
 have hc2:=heap_setCell_same (j:=k * 8 + 6) hc (.int .i64 x)
 have hcell : ∀ m,(w.setCell ⟨gv,k * 8 + 6,none⟩ (.int .i64 x)).cell? ⟨gv,m,none⟩ = (cells.setIfInBounds (k * 8 + 6) (.int .i64 x))[m]?:=fun m => by simp only [World.cell?,hc2];simp
 have hcellW : ∀ m,w.cell? ⟨gv,m,none⟩ = cells[m]?:=fun m => by simp [World.cell?,hc]
 obtain ⟨c1,c2,c3⟩:=h.c
 obtain ⟨ad2,hB2,hf⟩:=c3 (by omega)
 injection hB2 with hB2
 subst hB2
 refine ⟨?_, .inr ⟨_,_,rfl,hN,hc2⟩⟩
 rw [List.length_set]
 refine Z8 h.c k _ (Rec.cells { rc l k with prev:=x }) rfl (TM _ _) (fun j u hu => ?_) (fun p c hp => hp) (fun j i u hji hi hu => ?_)
 ·have hp : l[k]? = some (rc l k):=by simp [rc,List.getD_eq_getElem?_getD,hk]
  obtain ⟨cs,hl,hK,hcs⟩:=hf k _ hp
  obtain rfl:=Kb hK
  have hj : j < 8:=(List.getElem?_eq_some_iff.1 hu).1
  have hold:=fun u hu => hcs j u hu
  rw [add0,hcell]
  show (cells.setIfInBounds (k * 8 + 6) (.int .i64 x))[k * 8 + j]? = some u
  have hsz : k * 8 + 6 < cells.size:=by
   have h6:=hcs 6 _ rfl
   rw [add0,hcellW] at h6
   exact (Array.getElem?_eq_some_iff.1 h6).1
  by_cases h6 : j = 6
  ·subst h6
   have : Value.int .i64 x = u:=Option.some.inj hu
   rw [Array.getElem?_setIfInBounds_self_of_lt hsz,this]
  ·rw [Array.getElem?_setIfInBounds_ne (by omega), ← hcellW]
   have hu2 : (rc l k).cells[j]? = some u:=by
    rw [← hu]
    match j,hj,h6 with
    | 0,_,_ => rfl
    | 1,_,_ => rfl
    | 2,_,_ => rfl
    | 3,_,_ => rfl
    | 4,_,_ => rfl
    | 5,_,_ => rfl
    | 7,_,_ => rfl
   have:=hold u hu2
   rw [add0] at this
   exact this
 ·have hi : i < 8:=hi
  have hu : w.cell? ((⟨gv,0,none⟩ : Addr).add (j * 8 + i)) = some u:=hu
  show (w.setCell ⟨gv,k * 8 + 6,none⟩ (.int .i64 x)).cell? ((⟨gv,0,none⟩ : Addr).add (j * 8 + i)) = some u
  rw [add0] at hu ⊢
  rw [hcell,Array.getElem?_setIfInBounds_ne (by omega), ← hcellW]
  exact hu
theorem VF {ops : Array Oper} {rest : List Oper} {o : Oper} {a : Act} {Q : Exit → Act → World → Prop} {W : World} {b : Nat} {v : Value} {xs : List Rec} {r : Rec} (hgd : o.guard = none) (s x : Operand)
  (ho : o.op = .call { callee:=.builtin .append,args:=#[s,x],argTypes:=#[24,24] }) (hs : a.eval s = v) (hx : a.eval x = .slice (some ⟨W.heap.size,0,none⟩) 1 1)
  (HO : OwnRs W b v xs) (hb : b ≤ W.heap.size) (hl : xs.length ≤ 1000)
  (h : ∀ v1 w1,OwnRs w1 b v1 (xs ++ [r]) → Below b W w1 → W.grownBy w1 v.ownBlock → wpList Tryz.prog ops Q rest (a.put o.dst v1) w1) :
  wpList Tryz.prog ops Q (o :: rest) a (W.alloc (.cells #[.int .i64 r.kind, .int .i64 r.tx, .int .i64 r.page, .int .i64 r.slot, .int .i64 r.old, .int .i64 r.new, .int .i64 r.prev, .int .i64 r.next] 43)):=by
 obtain ⟨w0,hz,hb0⟩:=base_of W hb
 subst hz
 exact Q9 (w0:=w0) hgd s x ho hs hx HO hb0 hl (fun v1 w1 h1 h2 h3 => h v1 w1 h1 ⟨h2.os.trans hb0.os.symm,h2.tape.trans hb0.tape.symm,h2.output.trans hb0.output.symm,h3.size,fun k hk => (h2.block k hk).trans (hb0.block k hk).symm⟩ h3)
theorem OwnRs.YO {w w1 : World} {b g : Nat} {v : Value} {l : List Rec} (h : OwnRs w b v l) (hw : Wrote w w1 (fun j => j = g)) (hg : g < b) : OwnRs w1 b v l:=
 Kd.DZ (Kd.Ih (Kd.IB rfl h) hw.kept (fun k ho hs => by
  obtain ⟨inner,ho2⟩:=Kd.FZ h
  have h1:=BN ho2 k ho.symm
  have hs : k = g:=hs
  omega)) (fun _ _ => trivial)
theorem Rd.over {wB w wk w1 : World} {g n c : Nat} {A : Option Addr} {p q : Int} (h : Rd wB w wk g A n c p q) (hb : Below w.heap.size wk w1) : Rd wB w w1 g A n c p q:=by
 obtain ⟨⟨r,h3,h4,h5⟩,h6,h7,h8,h9⟩:=h
 exact ⟨⟨r,h3,h4,(hb.block g h9).trans h5⟩,h6.trans (hb.mono (by omega)),⟨hb.os.trans h7.os,hb.tape.trans h7.tape,hb.output.trans h7.output,Nat.le_trans h7.kept.1 hb.size,fun k hk hn => (hb.block k hk).trans (h7.kept.2 k hk hn)⟩,h8,h9⟩
theorem rs_form2 {w : World} {b m d : Nat} {B : Option Addr} {l : List Rec} (h : OwnRs w b (.slice B m d) l) (hn : 0 < l.length) : ∃ gl,B = some ⟨gl,0,none⟩ ∧ b ≤ gl ∧ gl < w.heap.size ∧ m = l.length ∧ m ≤ d:=by
 obtain ⟨A2,c2,h1,h2, -⟩:=Kd.D6 h
 obtain ⟨inner,ho⟩:=Kd.FZ h
 injection h1 with _ h4 h5
 rcases ho.2 with ⟨_,h3⟩ | ⟨g,cap,cur,h3,hb,hh, -⟩
 ·omega
 ·injection h3 with h3
  exact ⟨g,h3,hb,(Array.getElem?_eq_some_iff.1 hh).1,h4,by omega⟩
theorem Z9 {w : World} {b gl m d : Nat} {l : List Rec} (h : OwnRs w b (.slice (some ⟨gl,0,none⟩) m d) l) {k : Nat} (hk : k < m) : ∃ x,w.cell? ⟨gl,k * 8 + 6,none⟩ = some (.int .i64 x) ∧ w.frozen? ⟨gl,k * 8 + 6,none⟩ = false:=by
 obtain ⟨c,hl,hM,hc,hf⟩:=Kd.JW h Xi (k : Int) (by omega) (by omega)
 have hK : kRec.K w (List.getD l (k : Int).toNat Xi) c:=hM
 obtain rfl:=Kb hK
 have h1:=hc 6 _ rfl
 have h2:=hf 6
 rw [Int.toNat_natCast] at h1 h2
 exact ⟨_,h1,h2⟩
set_option maxRecDepth 100000 in
set_option maxHeartbeats 16000000 in
theorem l71Log_calls {wB w : World} {g c : Nat} {A : Option Addr} {xs : List Int} {p : Int} (hp : 0 ≤ p ∧ p ≤ 90000) (hc : By wB A xs) (hb : Below wB.heap.size wB w) (hg : wB.heap.size ≤ g) (hq : BZ w g A xs.length c p) : Calls Tryz.prog 104 #[.pointer (some ⟨g,0,none⟩)] w (RetLog w g A xs.length c p):=by
 have HP:=As hp
 have HC:=As hc
 have HQ:=As hq
 have HR0:=As (Rd.start hb hg hq)
 have K0 : True:=trivial
 clear hp hc hb hg hq
 go_enter Tryz.func104,Tryz.ntmps104
 go_wp2_with (first | (clear K0;go_at_call 102;refine (VG (wB:=wB) HP.out.1 (by have:=HP.out;omega) HC.out.few HC.out.all HR0.out.bel HR0.out.hBg HC.out.C HQ.out).mono ?_;rintro x w1 ⟨V,vs,E,B1,B2,B3,d1,d2,d3,rfl, -, -,⟨q,hq0,hq1,hrd⟩,hw,ho,⟨C,hI⟩⟩;have HR:=As (HR0.out.next (p':=0) (q':=p + 1000) ⟨q,hq0,hq1,hrd⟩ hw);have HL:=As ho.l;have HPL:=As hI.Zv;have HLL:=As (BA hI.core.log);clear hq0 hq1 hrd hw ho hI;have K1 : True:=trivial) | (clear K1;with_reducible refine Ca (vd:=.slice B1 E.disk.length d1) (vm:=.slice B2 E.mem.length d2) (vl:=.slice B3 E.log.length d3) E ?_;intro w2 hb2 hz2 hq2;have HR:=As (HR.out.below hb2);have HL:=As (Kd.C8 HL.out hb2);have x2:=hq2.c2;clear hb2 hz2 hq2;have K2 : True:=trivial))
 go_at_call 33
 refine (HR.out.call HC.out (by have:=HP.out;omega) (by decide)).mono ?_
 rintro x wk ⟨k1,rfl,hk_k1,hr,hw⟩
 have HL:=As (OwnRs.YO HL.out hw HR.out.hgw)
 have HR:=As hr
 clear hr hw
 clear x2
 obtain ⟨s,hs⟩ : ∃ s : Int,s = (k1 : Int):=⟨_,rfl⟩
 rw [← hs]
 have hcs : s = 0 ∨ s = 1 ∨ s = 2 ∨ 3 ≤ s:=by omega
 clear hs hk_k1 k1
 have FIN : ∀ {wk : World} {q : Int},A7 (Rd wB w wk g A xs.length c 0 q) → q ≤ p + 1020 → A7 (OwnRs wk w.heap.size (.slice B3 E.log.length d3) E.log) → RetLog w g A xs.length c p (.returned (.slice B3 E.log.length d3)) wk:=fun HR hq HL => by
  obtain ⟨r,h1,h2,h3⟩:=HR.out.rd
  obtain ⟨A2,c2,h4,h5, -⟩:=Kd.D6 HL.out
  injection h4 with _ _ h6
  exact ⟨E.log,B3,_,d3,rfl,rfl,by omega,⟨E.log,HPL.out, .inl rfl⟩,by have:=HLL.out;omega,OwnRs.rw' HL.out,⟨r,h1,by omega,h3⟩,HR.out.wr⟩
 have HFIN:=As @FIN
 clear FIN
 rcases hcs with rfl | rfl | rfl | h3
 ·have L0 : True:=trivial
  go_wp2_with (first | (clear L0;go_at_call 127;obtain ⟨r0,hr0,hr1,hr2⟩:=HR.out.rd;refine (l71Rec_calls (wB:=wB) (by have:=HP.out;omega) HC.out HR.out.bel HR.out.hBg hr2).mono ?_;rintro x w3 ⟨r,rfl,⟨q,hq0,hq1,hrd⟩,hw⟩;have HL:=As (OwnRs.YO HL.out hw HR.out.hgw);have HR:=As (HR.out.next (p':=0) (q':=p + 1010) ⟨q,by omega,by omega,hrd⟩ hw);clear hr0 hr1 hr2 hq0 hq1 hrd hw;have L1 : True:=trivial) | (clear L1;at_builtin;refine VF (W:=w3) (b:=w.heap.size) (r:=r) rfl (.tmp 17) (.tmp 20) rfl rfl rfl HL.out HR.out.size (by have:=HLL.out;omega) ?_;intro v1 w4 hO hb4 hg4;obtain ⟨B4,c4,rfl,hle, -⟩:=Kd.D6 hO;have HO4:=As hO;have HLE:=As hle;have HR:=As (HR.out.over hb4);clear hO hb4 hg4 hle;have L2 : True:=trivial))
  go_ret
  obtain ⟨r9,h1,h2,h3⟩:=HR.out.rd
  exact ⟨E.log ++ [r],B4,_,c4,rfl,by simp,by have h:=HLE.out;rw [List.length_append] at h;exact h,⟨E.log,HPL.out, .inr (.inl ⟨r,rfl⟩)⟩,by (have:=HLL.out;simp;omega),OwnRs.rw' HO4.out,⟨r9,h1,by omega,h3⟩,HR.out.wr⟩
 ·by_cases hl : 0 < E.log.length
  ·have hl0 : decide ((0 : Int) < (E.log.length : Int)) = true:=by rw [decide_eq_true_iff];omega
   obtain ⟨gl,rfl,hgb,hgl, -,hcap⟩:=rs_form2 HL.out hl
   have HGL:=As (And.intro hgb (And.intro hl hcap))
   have L0 : True:=trivial
   clear hgb hgl hcap
   go_wp2_with (first | (clear L0;go_at_call 33;refine (HR.out.call HC.out (by have:=HP.out;omega) (by have:=HLL.out;omega)).mono ?_;rintro x wk ⟨k4,rfl,hk_k4,hr,hw⟩;have HL:=As (OwnRs.YO HL.out hw HR.out.hgw);have HR:=As hr;clear hr hw;have L1 : True:=trivial))
   go_at_call 33
   refine (HR.out.call HC.out (by have:=HP.out;omega) (by decide)).mono ?_
   rintro x wk ⟨k5,rfl,hk_k5,hr,hw⟩
   have HL:=As (OwnRs.YO HL.out hw HR.out.hgw)
   have HR:=As hr
   clear hr hw
   obtain ⟨x6,hx6,hf6⟩:=Z9 HL.out (k:=k4) (by omega)
   have hk4:=hk_k4
   go_wp2
   go_ret
   obtain ⟨r9,h1,h2,h3⟩:=HR.out.rd
   have hne : g ≠ gl:=by have:=HR.out.hgw;have:=HGL.out.1;omega
   exact ⟨E.log.set k4 { rc E.log k4 with prev:=(k5 : Int) },some ⟨gl,0,none⟩,_,d3,rfl,by simp,HGL.out.2.2,⟨E.log,HPL.out, .inr (.inr (.inr ⟨k4,_,by omega,rfl⟩))⟩,by (have:=HLL.out;simp;omega),(OwnRs.rw' HL.out).prev (by omega) _,⟨r9,h1,by omega,h3.IQ hne _ _⟩,HR.out.wr.setCell (p:=⟨gl,k4 * 8 + 6,none⟩) (.inr HGL.out.1) _⟩
  ·have hl0 : decide ((0 : Int) < (E.log.length : Int)) = false:=by rw [decide_eq_false_iff_not];omega
   go_wp2
   go_ret
   exact HFIN.out HR (by omega) HL
 ·by_cases hl : 1 < E.log.length
  ·have hl0 : decide ((1 : Int) < (E.log.length : Int)) = true:=by rw [decide_eq_true_iff];omega
   obtain ⟨gl,rfl,hgb,hgl, -,hcap⟩:=rs_form2 HL.out (Nat.lt_trans Nat.zero_lt_one hl)
   have HCAPN:=As hcap
   have hn1 : (1 : Int) ≤ (E.log.length : Int):=by omega
   have hn2 : (E.log.length : Int) ≤ (d3 : Int):=by omega
   go_wp2
   go_ret
   obtain ⟨r9,h1,h2,h3⟩:=HR.out.rd
   exact ⟨E.log.drop 1,some ⟨gl,8,none⟩,_,d3 - 1,rfl,by simp,Nat.sub_le_sub_right HCAPN.out 1,⟨E.log,HPL.out, .inr (.inr (.inl rfl))⟩,by (have:=HLL.out;simp;omega),(OwnRs.rw' HL.out).drop1,⟨r9,h1,by omega,h3⟩,HR.out.wr⟩
  ·have hl0 : decide ((1 : Int) < (E.log.length : Int)) = false:=by rw [decide_eq_false_iff_not];omega
   go_wp2
   go_ret
   exact HFIN.out HR (by omega) HL
 ·have n0 : (s == 0) = false:=by rw [beq_eq_false_iff_ne];omega
  have n1 : (s == 1) = false:=by rw [beq_eq_false_iff_ne];omega
  have n2 : (s == 2) = false:=by rw [beq_eq_false_iff_ne];omega
  go_wp2
  go_ret
  exact HFIN.out HR (by omega) HL
def RetEng (w : World) (g : Nat) (A : Option Addr) (n c : Nat) (p : Int) (x : Ending) (w' : World) : Prop := ∃ (E : Eng) (B1 B2 B3 : Option Addr) (n1 n2 n3 d1 d2 d3 : Nat),x = .returned (E.ag (.slice B1 n1 d1) (.slice B2 n2 d2) (.slice B3 n3 d3)) ∧ n1 = E.disk.length ∧ n2 = E.mem.length ∧ n3 = E.log.length ∧ n3 ≤ d3 ∧ Rh E.log ∧ E.log.length ≤ 151 ∧ Ur w' w.heap.size E B1 B2 B3 ∧ (∃ r,0 ≤ r ∧ r ≤ p + 2100 ∧ BZ w' g A n c r) ∧ Wrote w w' (fun j => j = g)
theorem Yz {ops : Array Oper} {Q : Exit → Act → World → Prop} {K : Act → World → Prop} {i0 : Nat} {o : Oper} {a : Act} {W : World} {b g n cap N dc : Nat} {ok : Nat → Prop} {ps : List Page} {q : Page} {B : Option Addr} {R : World → Prop} (i : Nat) (s x : Operand) (hi0 : ops.toList[i0]? = some o) (hw : Region.wanted o (yielded ops a.tmps) = true) (ho : o.op = .store 47 s x)
  (haddr : a.eval s = .pointer (some ⟨g,i * 3,none⟩)) (hx : a.eval x = q.val B dc) (HO : Ci W b ok (.slice (some ⟨g,0,none⟩) n cap) ps) (hi : i < n) (hq : q.vals.length ≤ dc) (HQ : RwI W N B q.vals) (hN : b ≤ N)
  (hoth : ∀ (w2 : World) (S : Nat → Prop),Kept W w2 S → (∀ k,S k → k < b ∨ (∃ d,W.heap[k]? = some (.cells d 26 (0,0))) ∨ k = g) → R w2)
  (h : ∀ w1,Wrote W w1 (fun k => k = g) → Firm w1 b (fun w2 => R w2 ∧ Kd.C CJ w2 (some ⟨g,0,none⟩) n (ps.set i q)) → K (a.put o.dst undef) w1) : wpOp Tryz.prog ops Q i0 K a W:=by
 obtain ⟨w1,hr,h1,_,h2⟩:=VP s x ho haddr hx HO hi hq HQ hN hoth
 exact BH hi0 hw hr (h w1 h1 h2)
abbrev OZ : Value:=.slice none 0 0
structure Egs (wB w wk : World) (g : Nat) (A : Option Addr) (n c : Nat) (q : Int) (b : Nat) (E : Eng) (vd vm vl : Value) : Prop where
 rd : Rd wB w wk g A n c 0 q
 z : Ab wk w.heap.size zE OZ OZ OZ
 eg : Ab wk b E vd vm vl
 own : Aw wk w.heap.size vd vm vl E
 hb : w.heap.size < b
section
variable {wB w wk w1 : World} {g c n b : Nat} {A : Option Addr} {xs : List Int} {p q q' : Int} {E : Eng} {vd vm vl : Value}
theorem Egs.next (h : Egs wB w wk g A n c q b E vd vm vl) (hr : ∃ r,0 ≤ r ∧ r ≤ q' ∧ BZ w1 g A n c r) (hw : Wrote wk w1 (fun j => j = g)) : Egs wB w w1 g A n c q' b E vd vm vl:=by
 have hgw:=h.rd.hgw
 have hb:=h.hb
 exact ⟨h.rd.next hr hw,(hw.kept.2 _ h.z.lt (by omega)).trans h.z,(hw.kept.2 _ h.eg.lt (by omega)).trans h.eg,h.own.WS hw.kept (fun k hk => .inl (by have hk : k = g:=hk;omega)),hb⟩
theorem Egs.more (h : Egs wB w wk g A n c q b E vd vm vl) (hq : q ≤ q') : Egs wB w wk g A n c q' b E vd vm vl:=⟨h.rd.more (Int.le_refl _) hq,h.z,h.eg,h.own,h.hb⟩
theorem Egs.below (h : Egs wB w wk g A n c q b E vd vm vl) (hb : Below wk.heap.size wk w1) : Egs wB w w1 g A n c q b E vd vm vl:=⟨h.rd.below hb,h.z.up hb,h.eg.up hb,h.own.below hb,h.hb⟩
theorem Egs.call {m : Int} (h : Egs wB w wk g A xs.length c q b E vd vm vl) (hc : By wB A xs) (h0 : q ≤ 1000000) (hm : 1 ≤ m ∧ m ≤ 1000) : Calls Tryz.prog 33 #[.pointer (some ⟨g,0,none⟩), .int .i64 m] wk fun x w' => ∃ k : Nat,x = .returned (.int .i64 (k : Int)) ∧ (k : Int) < m ∧ Egs wB w w' g A xs.length c (q + 1) b E vd vm vl:=by
 refine (h.rd.call hc ⟨Int.le_refl _,h0⟩ hm).mono ?_
 rintro x w' ⟨k,rfl,hk,hr,hw⟩
 exact ⟨k,rfl,hk,h.next hr.rd hw⟩
theorem eng_done {B1 B2 B3 : Option Addr} {n1 n2 n3 d1 d2 d3 : Nat} (hr : Rd wB w wk g A n c 0 q) (hq : q ≤ p + 2100) (hz : Ab wk w.heap.size zE OZ OZ OZ) (hF : Ur wk w.heap.size E B1 B2 B3) (h1 : n1 = E.disk.length) (h2 : n2 = E.mem.length) (h3 : n3 = E.log.length) (h4 : n3 ≤ d3) (hD : Rh E.log) (hl : E.log.length ≤ 151) : RetEng w g A n c p (.returned (E.ag (.slice B1 n1 d1) (.slice B2 n2 d2) (.slice B3 n3 d3))) (Go.Proofs.YtjeodgfkilhkhaaGreat.Ap wk w.heap.size E (.slice B1 n1 d1) (.slice B2 n2 d2) (.slice B3 n3 d3)):=by
 obtain ⟨s,k1,k2,k3⟩:=hr.rd
 have hne : g ≠ w.heap.size:=by have:=hr.hgw;omega
 have hp : (fun j => j = g) w.heap.size ∨ w.heap.size ≤ w.heap.size:=.inr (Nat.le_refl _)
 exact ⟨E,B1,B2,B3,n1,n2,n3,d1,d2,d3,rfl,h1,h2,h3,h4,hD,hl,hF.Ap hz E _ _ _,⟨s,k1,by omega,((((k3.IQ hne _ _).IQ hne _ _).IQ hne _ _).IQ hne _ _).IQ hne _ _⟩,((((hr.wr.setCell (p:=⟨w.heap.size,0,none⟩) hp _).setCell (p:=⟨w.heap.size,1,none⟩) hp _).setCell (p:=⟨w.heap.size,2,none⟩) hp _).setCell (p:=⟨w.heap.size,3,none⟩) hp _).setCell (p:=⟨w.heap.size,4,none⟩) hp _⟩
end
theorem eng_rows {w : World} {b : Nat} {B1 B2 B3 : Option Addr} {n1 n2 n3 d1 d2 d3 : Nat} {e : Eng} (h : Aw w b (.slice B1 n1 d1) (.slice B2 n2 d2) (.slice B3 n3 d3) e) (hd : 0 < e.disk.length) (hm : 0 < e.mem.length) : ∃ gd gm,B1 = some ⟨gd,0,none⟩ ∧ B2 = some ⟨gm,0,none⟩ ∧ (b ≤ gd ∧ gd < w.heap.size) ∧ (b ≤ gm ∧ gm < w.heap.size) ∧ e.log.length ≤ d3:=by
 obtain ⟨_,_,_,_,_,cl,_,_,h3,h4,_⟩:=h.reads
 obtain ⟨⟨okd,okm, -,hx,hy⟩, -⟩:=h
 obtain ⟨gd,c1,e1,h5⟩:=D9 hx hd
 obtain ⟨gm,c2,e2,h6⟩:=D9 hy hm
 injection e1 with e1
 injection e2 with e2
 injection h3 with _ _ h7
 exact ⟨gd,gm,e1,e2,h5,h6,by omega⟩
set_option maxRecDepth 100000 in
set_option maxHeartbeats 16000000 in
theorem l72Engine_calls {wB w : World} {g c : Nat} {A : Option Addr} {xs : List Int} {p : Int} (hp : 0 ≤ p ∧ p ≤ 50000) (hc : By wB A xs) (hb : Below wB.heap.size wB w) (hg : wB.heap.size ≤ g) (hq : BZ w g A xs.length c p) : Calls Tryz.prog 66 #[.pointer (some ⟨g,0,none⟩)] w (RetEng w g A xs.length c p):=by
 have HP:=As hp
 have HC:=As hc
 have HQ:=As hq
 have HR0:=As (Rd.start hb hg hq)
 have K0 : True:=trivial
 clear hp hc hb hg hq
 go_enter Tryz.func66,Tryz.ntmps66
 go_wp2_with (first | (clear K0;refine Ca (vd:=.slice none 0 0) (vm:=.slice none 0 0) (vl:=.slice none 0 0) zE ?_;intro w1 hb1 hz1 hq1;have HR:=As (HR0.out.below hb1);have HZ:=As hq1;have HN:=As hz1;have HQ1:=As (HQ.out.up hb1);clear hb1 hz1 hq1;have K1 : True:=trivial) | (clear K1;go_at_call 102;refine (VG (wB:=wB) HP.out.1 (by have:=HP.out;omega) HC.out.few HC.out.all HR.out.bel HR.out.hBg HC.out.C HQ1.out).mono ?_;rintro x w2 ⟨V,vs,E,B1,B2,B3,d1,d2,d3,rfl, -, -,⟨q,hq0,hq1,hrd⟩,hw,ho,⟨C,hI⟩⟩;have hgw:=HR.out.hgw;have hn1:=HN.out;have HZ:=As (show Ab w2 w.heap.size zE OZ OZ OZ from (hw.kept.2 _ HZ.out.lt (by omega)).trans HZ.out);have HR:=As (HR.out.next (p':=0) (q':=p + 1000) ⟨q,hq0,hq1,hrd⟩ hw);have HPL:=As hI.Zv;have HLL:=As (BA hI.core.log);have HM5:=As (And.intro hI.core.dlen hI.mlen);have hde:=eng_rows ho (by have:=HM5.out;omega) (by have:=HM5.out;omega);obtain ⟨gd,gm,rfl,rfl,hgd,hgm,hcl⟩:=hde;have HGD:=As (And.intro hgd (And.intro hgm hcl));have HO:=As (ho.lower (b':=w.heap.size) (by omega));clear hq0 hq1 hrd hw ho hI hgd hgm hcl hn1 hgw;have K2 : True:=trivial) | (clear K2;with_reducible refine Ca (vd:=.slice (some ⟨gd,0,none⟩) E.disk.length d1) (vm:=.slice (some ⟨gm,0,none⟩) E.mem.length d2) (vl:=.slice B3 E.log.length d3) E ?_;intro w3 hb3 hz3 hq3;have HS : A7 (Egs wB w w3 g A xs.length c (p + 1000) w2.heap.size E (.slice (some ⟨gd,0,none⟩) E.disk.length d1) (.slice (some ⟨gm,0,none⟩) E.mem.length d2) (.slice B3 E.log.length d3)):=⟨⟨HR.out.below hb3,HZ.out.up hb3,hq3,HO.out.below hb3,HZ.out.lt⟩⟩;clear hb3 hz3 hq3;have hne1 : ¬ w2.heap.size = w.heap.size:=Nat.ne_of_gt HS.out.hb;have hne2 : ¬ w.heap.size = w2.heap.size:=Nat.ne_of_lt HS.out.hb;have x0:=(HS.out.eg).c0;have x1:=(HS.out.eg).c1;have x2:=(HS.out.eg).c2;have x3:=(HS.out.eg).c3;have x4:=(HS.out.eg).c4;have f0:=(HS.out.eg).frz 0;have f1:=(HS.out.eg).frz 1;have f2:=(HS.out.eg).frz 2;have f3:=(HS.out.eg).frz 3;have f4:=(HS.out.eg).frz 4;have z0:=(HS.out.z).c0;have z1:=(HS.out.z).c1;have z2:=(HS.out.z).c2;have z3:=(HS.out.z).c3;have z4:=(HS.out.z).c4;have g0:=(HS.out.z).frz 0;have g1:=(HS.out.z).frz 1;have g2:=(HS.out.z).frz 2;have g3:=(HS.out.z).frz 3;have g4:=(HS.out.z).frz 4;have K3 : True:=trivial))
 go_at_call 33
 refine (HS.out.call HC.out (by have:=HP.out;omega) (by decide)).mono ?_
 rintro x wk ⟨k1,rfl,hk_k1,hs⟩
 have HS:=As hs
 clear hs
 clear x0 x1 x2 x3 x4 f0 f1 f2 f3 f4 z0 z1 z2 z3 z4 g0 g1 g2 g3 g4
 have x0:=(HS.out.eg).c0
 have x1:=(HS.out.eg).c1
 have x2:=(HS.out.eg).c2
 have x3:=(HS.out.eg).c3
 have x4:=(HS.out.eg).c4
 have f0:=(HS.out.eg).frz 0
 have f1:=(HS.out.eg).frz 1
 have f2:=(HS.out.eg).frz 2
 have f3:=(HS.out.eg).frz 3
 have f4:=(HS.out.eg).frz 4
 have z0:=(HS.out.z).c0
 have z1:=(HS.out.z).c1
 have z2:=(HS.out.z).c2
 have z3:=(HS.out.z).c3
 have z4:=(HS.out.z).c4
 have g0:=(HS.out.z).frz 0
 have g1:=(HS.out.z).frz 1
 have g2:=(HS.out.z).frz 2
 have g3:=(HS.out.z).frz 3
 have g4:=(HS.out.z).frz 4
 obtain ⟨s,hs⟩ : ∃ s : Int,s = (k1 : Int):=⟨_,rfl⟩
 rw [← hs]
 have hcs : s = 0 ∨ s = 1 ∨ s = 2 ∨ s = 3 ∨ s = 4 ∨ 5 ≤ s:=by omega
 clear hs hk_k1 k1
 rcases hcs with rfl | rfl | rfl | rfl | rfl | h5
 ·have hwr : IntKind.i64.wrap ((E.log.length : Int) + 2) = (E.log.length : Int) + 2:=by have:=HLL.out;simp (disch:=omega) only [IntWalk.i64_in]
  go_wp2_with (first | (go_at_call 33;refine (HS.out.call HC.out (by have:=HP.out;omega) (by have:=HLL.out;omega)).mono ?_;rintro x wk ⟨k2,rfl,hk_k2,hs⟩;have HS:=As hs;clear hs;clear x0 x1 x2 x3 x4 f0 f1 f2 f3 f4 z0 z1 z2 z3 z4 g0 g1 g2 g3 g4;have x0:=(HS.out.eg).c0;have x1:=(HS.out.eg).c1;have x2:=(HS.out.eg).c2;have x3:=(HS.out.eg).c3;have x4:=(HS.out.eg).c4;have f0:=(HS.out.eg).frz 0;have f1:=(HS.out.eg).frz 1;have f2:=(HS.out.eg).frz 2;have f3:=(HS.out.eg).frz 3;have f4:=(HS.out.eg).frz 4;have z0:=(HS.out.z).c0;have z1:=(HS.out.z).c1;have z2:=(HS.out.z).c2;have z3:=(HS.out.z).c3;have z4:=(HS.out.z).c4;have g0:=(HS.out.z).frz 0;have g1:=(HS.out.z).frz 1;have g2:=(HS.out.z).frz 2;have g3:=(HS.out.z).frz 3;have g4:=(HS.out.z).frz 4))
  have hne:=HS.out.hb
  have hy:=(HS.out.z.far (b:=w2.heap.size) (by omega) 3 (.int .i64 (k2 : Int))).Ap { E with safe:=(k2 : Int) } (.slice (some ⟨gd,0,none⟩) E.disk.length d1) (.slice (some ⟨gm,0,none⟩) E.mem.length d2) (.slice B3 E.log.length d3)
  have y0:=hy.c0
  have y1:=hy.c1
  have y2:=hy.c2
  have y3:=hy.c3
  have y4:=hy.c4
  exact bodyPost_ret (v:=Eng.ag { E with safe:=(k2 : Int) } (.slice (some ⟨gd,0,none⟩) E.disk.length d1) (.slice (some ⟨gm,0,none⟩) E.mem.length d2) (.slice B3 E.log.length d3)) (by simp [results,Tryz.results66,go_sem,y0,y1,y2,y3,y4]) rfl (eng_done (q:=p + 2040) (HS.out.rd.setCell (k:=w2.heap.size) (by omega) 3 (.int .i64 (k2 : Int)) |>.more (Int.le_refl _) (by omega)) (by omega) (HS.out.z.far (b:=w2.heap.size) (by omega) 3 (.int .i64 (k2 : Int))) (((HS.out.own.Dy HS.out.eg 3 (.int .i64 (k2 : Int))).firm).mono (fun w h => ⟨h.d,h.m,h.l⟩)) rfl rfl rfl HGD.out.2.2 ⟨E.log,HPL.out, .inl rfl⟩ (Nat.le_succ_of_le HLL.out))
 ·have HCD:=HS
  clear x0 x1 x2 x3 x4 f0 f1 f2 f3 f4 z0 z1 z2 z3 z4 g0 g1 g2 g3 g4 HS
  go_wp2
  refine Bo (fun lx a wx => Egs wB w wx g A xs.length c (p + 1000 + 1 + 15) w2.heap.size E (.slice (some ⟨gd,0,none⟩) E.disk.length d1) (.slice (some ⟨gm,0,none⟩) E.mem.length d2) (.slice B3 E.log.length d3) ∧ (Un 5 (fun wx => Egs wB w wx g A xs.length c (p + 1000 + 1 + 1) w2.heap.size E (.slice (some ⟨gd,0,none⟩) E.disk.length d1) (.slice (some ⟨gm,0,none⟩) E.mem.length d2) (.slice B3 E.log.length d3)) lx a wx ∧ (Un 3 (fun wx => Egs wB w wx g A xs.length c (p + 1000 + 1) w2.heap.size E (.slice (some ⟨gd,0,none⟩) E.disk.length d1) (.slice (some ⟨gm,0,none⟩) E.mem.length d2) (.slice B3 E.log.length d3)) lx a wx ∧ Sl 5 28 (fun v wx => ∃ (P : Page) (B : Option Addr) (m d : Nat),v = P.own (.slice B m d) ∧ m = P.vals.length ∧ m ≤ d ∧ RwI wx w.heap.size B P.vals) lx a wx))) 7 rfl (by kernel_rfl) (⟨(HCD.out.below (Ac (Below.refl _ _))).more (by omega),fun _ => (HCD.out.below (Ac (Below.refl _ _))).more (by omega),fun _ => HCD.out.below (Ac (Below.refl _ _)),Bp⟩) (fun HT => ?_)
  refine Bw [0,1,2,4] ?_
  iterate 4 (refine Bq (v:=?_) HT rfl (by kernel_rfl) rfl (kA Ah (kA (Bj rfl) (kA (Bj rfl) (Ak rfl rfl)))) (by rfl) (fun _ _ _ h => h) (fun lx ax wx hS => ?_) ?_;rotate_left;(have x0:=hS.1.eg.c1;go_simp;with_reducible rfl);rotate_left;simp only [sc0,sc1])
  refine Bv ?_
  refine Cr (i:=3) (f:=33) (args:=#[.pointer (some ⟨g,0,none⟩), .int .i64 5]) (fun v => ∃ k : Nat,v = .int .i64 (k : Int) ∧ (k : Int) < 5) rfl (by kernel_rfl) rfl Tryz.func33 (by kernel_rfl) rfl rfl (by rfl) (by simp only [List.map_toArray,List.map_cons,List.map_nil];rfl) (fun wx hS => ((hS.2.2.1 (by kernel_rfl)).call HC.out (by have:=HP.out;omega) (by decide)).mono (by rintro y w6 ⟨k,rfl,hk,hc⟩;exact ⟨_,rfl,⟨k,rfl,hk⟩,hc.more (by omega),fun _ => hc,fun h => (Ao (by kernel_rfl) h).elim,fun h => (Ao h (by kernel_rfl)).elim⟩)) (fun vx hg => ?_);simp only [sc0,sc1]
  obtain ⟨k6,rfl,hk6⟩:=hg
  have hk7 : (k6 : Int) < (E.mem.length : Int):=by have:=HM5.out;omega
  refine Cr (i:=5) (f:=103) (args:=#[.pointer (some ⟨g,0,none⟩)]) (fun v => ∃ (P : Page) (B : Option Addr) (m d : Nat),v = P.own (.slice B m d)) rfl (by kernel_rfl) rfl Tryz.func103 (by kernel_rfl) rfl rfl (by rfl) (by simp only [List.map_toArray,List.map_cons,List.map_nil];rfl) (fun wx hS => (by obtain ⟨r0,hr0,hr1,hr2⟩:=(hS.2.1 (by kernel_rfl)).rd.rd;exact (l71Page_calls (wB:=wB) (by have:=HP.out;omega) HC.out (hS.2.1 (by kernel_rfl)).rd.bel (hS.2.1 (by kernel_rfl)).rd.hBg hr2).mono (by rintro y w6 ⟨P,B,m,d,rfl,hm,hd,hR,⟨r,h1,h2,h3⟩,hw⟩;exact ⟨_,rfl,⟨P,B,m,d,rfl⟩,(hS.2.1 (by kernel_rfl)).next ⟨r,by omega,by omega,h3⟩ hw,fun h => (Ao (by kernel_rfl) h).elim,fun h => (Ao (by kernel_rfl) h).elim,fun _ => ⟨P,B,m,d,rfl,hm,hd,hR.lower (hS.2.1 (by kernel_rfl)).rd.size⟩⟩))) (fun vx hg => ?_);simp only [sc0,sc1]
  obtain ⟨P,B,m,d,rfl⟩:=hg
  refine CZ (i:=6) (v:=?_) HT rfl (by kernel_rfl) rfl (kA Ah (kA (Bj rfl) (kA (Bj rfl) (Ak rfl rfl)))) (by rfl) (fun _ _ _ h => h) (fun lx ax wx hS => ?_) ?_;rotate_left;(go_simp;with_reducible rfl);rotate_left;simp only [sc0,sc1]
  refine Cb (i:=7) (by kernel_rfl) rfl (fun wx hS => ?_)
  obtain ⟨P2,B',m',d',hv,rfl,hd,hR⟩:=hS.2.2.2 (by kernel_rfl)
  obtain ⟨ok,HOp,hoth⟩:=hS.1.own.XG
  refine Yz (q:=P2) k6 (.tmp 29) (.tmp 28) rfl (by rfl) rfl rfl hv HOp (by omega) hd hR (Nat.le_refl _) hoth (fun w9 hw9 hF => ?_)
  have hgd:=HGD.out
  have hn1:=HN.out
  have HZ9:=As (show Ab w9 w.heap.size zE OZ OZ OZ from (hw9.kept.2 _ hS.1.z.lt (by omega)).trans hS.1.z)
  have HE9:=As (show Ab w9 w2.heap.size E (.slice (some ⟨gd,0,none⟩) E.disk.length d1) (.slice (some ⟨gm,0,none⟩) E.mem.length d2) (.slice B3 E.log.length d3) from (hw9.kept.2 _ hS.1.eg.lt (by omega)).trans hS.1.eg)
  have HR9:=As (hS.1.rd.wrote (m:=gm) (by omega) hw9)
  have HF9 : A7 (Ur w9 w.heap.size { E with mem:=E.mem.set k6 P2 } (some ⟨gd,0,none⟩) (some ⟨gm,0,none⟩) B3):=⟨hF.mono (fun w h => ⟨h.1.1,by rw [List.length_set];exact h.2,h.1.2⟩)⟩
  clear hw9 hF hoth HOp hR hv hgd hn1 hS
  have x0:=(HE9.out).c0
  have x1:=(HE9.out).c1
  have x2:=(HE9.out).c2
  have x3:=(HE9.out).c3
  have x4:=(HE9.out).c4
  have z0:=(HZ9.out).c0
  have z1:=(HZ9.out).c1
  have z2:=(HZ9.out).c2
  have z3:=(HZ9.out).c3
  have z4:=(HZ9.out).c4
  have g0:=(HZ9.out).frz 0
  have g1:=(HZ9.out).frz 1
  have g2:=(HZ9.out).frz 2
  have g3:=(HZ9.out).frz 3
  have g4:=(HZ9.out).frz 4
  refine BM (by kernel_rfl) ?_
  go_wp2
  have hy:=(HZ9.out).Ap { E with mem:=E.mem.set k6 P2 } (.slice (some ⟨gd,0,none⟩) E.disk.length d1) (.slice (some ⟨gm,0,none⟩) E.mem.length d2) (.slice B3 E.log.length d3)
  have y0:=hy.c0
  have y1:=hy.c1
  have y2:=hy.c2
  have y3:=hy.c3
  have y4:=hy.c4
  exact bodyPost_ret (v:=Eng.ag { E with mem:=E.mem.set k6 P2 } (.slice (some ⟨gd,0,none⟩) E.disk.length d1) (.slice (some ⟨gm,0,none⟩) E.mem.length d2) (.slice B3 E.log.length d3)) (by simp [results,Tryz.results66,go_sem,y0,y1,y2,y3,y4]) rfl (eng_done (q:=p + 2040) (HR9.out.more (Int.le_refl _) (by omega)) (by omega) (HZ9.out) HF9.out rfl (by simp) rfl HGD.out.2.2 ⟨E.log,HPL.out, .inl rfl⟩ (Nat.le_succ_of_le HLL.out))
 ·have HCD:=HS
  clear x0 x1 x2 x3 x4 f0 f1 f2 f3 f4 z0 z1 z2 z3 z4 g0 g1 g2 g3 g4 HS
  go_wp2
  refine Bo (fun lx a wx => Egs wB w wx g A xs.length c (p + 1000 + 1 + 15) w2.heap.size E (.slice (some ⟨gd,0,none⟩) E.disk.length d1) (.slice (some ⟨gm,0,none⟩) E.mem.length d2) (.slice B3 E.log.length d3) ∧ (Un 5 (fun wx => Egs wB w wx g A xs.length c (p + 1000 + 1 + 1) w2.heap.size E (.slice (some ⟨gd,0,none⟩) E.disk.length d1) (.slice (some ⟨gm,0,none⟩) E.mem.length d2) (.slice B3 E.log.length d3)) lx a wx ∧ (Un 3 (fun wx => Egs wB w wx g A xs.length c (p + 1000 + 1) w2.heap.size E (.slice (some ⟨gd,0,none⟩) E.disk.length d1) (.slice (some ⟨gm,0,none⟩) E.mem.length d2) (.slice B3 E.log.length d3)) lx a wx ∧ Sl 5 37 (fun v wx => ∃ (P : Page) (B : Option Addr) (m d : Nat),v = P.own (.slice B m d) ∧ m = P.vals.length ∧ m ≤ d ∧ RwI wx w.heap.size B P.vals) lx a wx))) 7 rfl (by kernel_rfl) (⟨(HCD.out.below (Ac (Below.refl _ _))).more (by omega),fun _ => (HCD.out.below (Ac (Below.refl _ _))).more (by omega),fun _ => HCD.out.below (Ac (Below.refl _ _)),Bp⟩) (fun HT => ?_)
  refine Bw [0,1,2,4] ?_
  iterate 4 (refine Bq (v:=?_) HT rfl (by kernel_rfl) rfl (kA Ah (kA (Bj rfl) (kA (Bj rfl) (Ak rfl rfl)))) (by rfl) (fun _ _ _ h => h) (fun lx ax wx hS => ?_) ?_;rotate_left;(have x0:=hS.1.eg.c0;go_simp;with_reducible rfl);rotate_left;simp only [sc0,sc1])
  refine Bv ?_
  refine Cr (i:=3) (f:=33) (args:=#[.pointer (some ⟨g,0,none⟩), .int .i64 5]) (fun v => ∃ k : Nat,v = .int .i64 (k : Int) ∧ (k : Int) < 5) rfl (by kernel_rfl) rfl Tryz.func33 (by kernel_rfl) rfl rfl (by rfl) (by simp only [List.map_toArray,List.map_cons,List.map_nil];rfl) (fun wx hS => ((hS.2.2.1 (by kernel_rfl)).call HC.out (by have:=HP.out;omega) (by decide)).mono (by rintro y w6 ⟨k,rfl,hk,hc⟩;exact ⟨_,rfl,⟨k,rfl,hk⟩,hc.more (by omega),fun _ => hc,fun h => (Ao (by kernel_rfl) h).elim,fun h => (Ao h (by kernel_rfl)).elim⟩)) (fun vx hg => ?_);simp only [sc0,sc1]
  obtain ⟨k6,rfl,hk6⟩:=hg
  have hk7 : (k6 : Int) < (E.disk.length : Int):=by have:=HM5.out;omega
  refine Cr (i:=5) (f:=103) (args:=#[.pointer (some ⟨g,0,none⟩)]) (fun v => ∃ (P : Page) (B : Option Addr) (m d : Nat),v = P.own (.slice B m d)) rfl (by kernel_rfl) rfl Tryz.func103 (by kernel_rfl) rfl rfl (by rfl) (by simp only [List.map_toArray,List.map_cons,List.map_nil];rfl) (fun wx hS => (by obtain ⟨r0,hr0,hr1,hr2⟩:=(hS.2.1 (by kernel_rfl)).rd.rd;exact (l71Page_calls (wB:=wB) (by have:=HP.out;omega) HC.out (hS.2.1 (by kernel_rfl)).rd.bel (hS.2.1 (by kernel_rfl)).rd.hBg hr2).mono (by rintro y w6 ⟨P,B,m,d,rfl,hm,hd,hR,⟨r,h1,h2,h3⟩,hw⟩;exact ⟨_,rfl,⟨P,B,m,d,rfl⟩,(hS.2.1 (by kernel_rfl)).next ⟨r,by omega,by omega,h3⟩ hw,fun h => (Ao (by kernel_rfl) h).elim,fun h => (Ao (by kernel_rfl) h).elim,fun _ => ⟨P,B,m,d,rfl,hm,hd,hR.lower (hS.2.1 (by kernel_rfl)).rd.size⟩⟩))) (fun vx hg => ?_);simp only [sc0,sc1]
  obtain ⟨P,B,m,d,rfl⟩:=hg
  refine CZ (i:=6) (v:=?_) HT rfl (by kernel_rfl) rfl (kA Ah (kA (Bj rfl) (kA (Bj rfl) (Ak rfl rfl)))) (by rfl) (fun _ _ _ h => h) (fun lx ax wx hS => ?_) ?_;rotate_left;(go_simp;with_reducible rfl);rotate_left;simp only [sc0,sc1]
  refine Cb (i:=7) (by kernel_rfl) rfl (fun wx hS => ?_)
  obtain ⟨P2,B',m',d',hv,rfl,hd,hR⟩:=hS.2.2.2 (by kernel_rfl)
  obtain ⟨ok,HOp,hoth⟩:=hS.1.own.Zc
  refine Yz (q:=P2) k6 (.tmp 38) (.tmp 37) rfl (by rfl) rfl rfl hv HOp (by omega) hd hR (Nat.le_refl _) hoth (fun w9 hw9 hF => ?_)
  have hgd:=HGD.out
  have hn1:=HN.out
  have HZ9:=As (show Ab w9 w.heap.size zE OZ OZ OZ from (hw9.kept.2 _ hS.1.z.lt (by omega)).trans hS.1.z)
  have HE9:=As (show Ab w9 w2.heap.size E (.slice (some ⟨gd,0,none⟩) E.disk.length d1) (.slice (some ⟨gm,0,none⟩) E.mem.length d2) (.slice B3 E.log.length d3) from (hw9.kept.2 _ hS.1.eg.lt (by omega)).trans hS.1.eg)
  have HR9:=As (hS.1.rd.wrote (m:=gd) (by omega) hw9)
  have HF9 : A7 (Ur w9 w.heap.size { E with disk:=E.disk.set k6 P2 } (some ⟨gd,0,none⟩) (some ⟨gm,0,none⟩) B3):=⟨hF.mono (fun w h => ⟨by rw [List.length_set];exact h.2,h.1.1,h.1.2⟩)⟩
  clear hw9 hF hoth HOp hR hv hgd hn1 hS
  have x0:=(HE9.out).c0
  have x1:=(HE9.out).c1
  have x2:=(HE9.out).c2
  have x3:=(HE9.out).c3
  have x4:=(HE9.out).c4
  have z0:=(HZ9.out).c0
  have z1:=(HZ9.out).c1
  have z2:=(HZ9.out).c2
  have z3:=(HZ9.out).c3
  have z4:=(HZ9.out).c4
  have g0:=(HZ9.out).frz 0
  have g1:=(HZ9.out).frz 1
  have g2:=(HZ9.out).frz 2
  have g3:=(HZ9.out).frz 3
  have g4:=(HZ9.out).frz 4
  refine BM (by kernel_rfl) ?_
  go_wp2
  have hy:=(HZ9.out).Ap { E with disk:=E.disk.set k6 P2 } (.slice (some ⟨gd,0,none⟩) E.disk.length d1) (.slice (some ⟨gm,0,none⟩) E.mem.length d2) (.slice B3 E.log.length d3)
  have y0:=hy.c0
  have y1:=hy.c1
  have y2:=hy.c2
  have y3:=hy.c3
  have y4:=hy.c4
  exact bodyPost_ret (v:=Eng.ag { E with disk:=E.disk.set k6 P2 } (.slice (some ⟨gd,0,none⟩) E.disk.length d1) (.slice (some ⟨gm,0,none⟩) E.mem.length d2) (.slice B3 E.log.length d3)) (by simp [results,Tryz.results66,go_sem,y0,y1,y2,y3,y4]) rfl (eng_done (q:=p + 2040) (HR9.out.more (Int.le_refl _) (by omega)) (by omega) (HZ9.out) HF9.out (by simp) rfl rfl HGD.out.2.2 ⟨E.log,HPL.out, .inl rfl⟩ (Nat.le_succ_of_le HLL.out))
 ·go_wp2_with (first | (go_at_call 104;obtain ⟨r0,hr0,hr1,hr2⟩:=HS.out.rd.rd;refine (l71Log_calls (wB:=wB) (by have:=HP.out;omega) HC.out HS.out.rd.bel HS.out.rd.hBg hr2).mono ?_;rintro x w4 ⟨l,Bl,ml,dl,rfl,hml,hdl,hD,hll,hR,⟨r,h1,h2,h3⟩,hw⟩;have HLW:=As (And.intro hml (And.intro hdl (And.intro hD hll)));have HRL:=As (hR.firm (b:=w.heap.size) HS.out.rd.size);have HS:=As (HS.out.next (q':=p + 2030) ⟨r,by omega,by omega,h3⟩ hw);clear hr0 hr1 hr2 hml hdl hD hll hR h1 h2 h3 hw;clear x0 x1 x2 x3 x4 f0 f1 f2 f3 f4 z0 z1 z2 z3 z4 g0 g1 g2 g3 g4;have x0:=(HS.out.eg).c0;have x1:=(HS.out.eg).c1;have x2:=(HS.out.eg).c2;have x3:=(HS.out.eg).c3;have x4:=(HS.out.eg).c4;have f0:=(HS.out.eg).frz 0;have f1:=(HS.out.eg).frz 1;have f2:=(HS.out.eg).frz 2;have f3:=(HS.out.eg).frz 3;have f4:=(HS.out.eg).frz 4;have z0:=(HS.out.z).c0;have z1:=(HS.out.z).c1;have z2:=(HS.out.z).c2;have z3:=(HS.out.z).c3;have z4:=(HS.out.z).c4;have g0:=(HS.out.z).frz 0;have g1:=(HS.out.z).frz 1;have g2:=(HS.out.z).frz 2;have g3:=(HS.out.z).frz 3;have g4:=(HS.out.z).frz 4))
  have hne:=HS.out.hb
  have hy:=(HS.out.z.far (b:=w2.heap.size) (by omega) 2 (.slice Bl ml dl)).Ap { E with log:=l } (.slice (some ⟨gd,0,none⟩) E.disk.length d1) (.slice (some ⟨gm,0,none⟩) E.mem.length d2) (.slice Bl ml dl)
  have y0:=hy.c0
  have y1:=hy.c1
  have y2:=hy.c2
  have y3:=hy.c3
  have y4:=hy.c4
  exact bodyPost_ret (v:=Eng.ag { E with log:=l } (.slice (some ⟨gd,0,none⟩) E.disk.length d1) (.slice (some ⟨gm,0,none⟩) E.mem.length d2) (.slice Bl ml dl)) (by simp [results,Tryz.results66,go_sem,y0,y1,y2,y3,y4]) rfl (eng_done (q:=p + 2040) (HS.out.rd.setCell (k:=w2.heap.size) (by omega) 2 (.slice Bl ml dl) |>.more (Int.le_refl _) (by omega)) (by omega) (HS.out.z.far (b:=w2.heap.size) (by omega) 2 (.slice Bl ml dl)) (((HS.out.own.firm.both HRL.out).Dy HS.out.eg 2 (.slice Bl ml dl)).mono (fun w h => ⟨h.1.d,h.1.m,h.2⟩)) rfl rfl HLW.out.1 HLW.out.2.1 HLW.out.2.2.1 HLW.out.2.2.2)
 ·go_wp2
  have hne:=HS.out.hb
  have hy:=(HS.out.z.far (b:=w2.heap.size) (by omega) 4 (.bool (!E.down))).Ap { E with down := !E.down } (.slice (some ⟨gd,0,none⟩) E.disk.length d1) (.slice (some ⟨gm,0,none⟩) E.mem.length d2) (.slice B3 E.log.length d3)
  have y0:=hy.c0
  have y1:=hy.c1
  have y2:=hy.c2
  have y3:=hy.c3
  have y4:=hy.c4
  exact bodyPost_ret (v:=Eng.ag { E with down := !E.down } (.slice (some ⟨gd,0,none⟩) E.disk.length d1) (.slice (some ⟨gm,0,none⟩) E.mem.length d2) (.slice B3 E.log.length d3)) (by simp [results,Tryz.results66,go_sem,y0,y1,y2,y3,y4]) rfl (eng_done (q:=p + 2040) (HS.out.rd.setCell (k:=w2.heap.size) (by omega) 4 (.bool (!E.down)) |>.more (Int.le_refl _) (by omega)) (by omega) (HS.out.z.far (b:=w2.heap.size) (by omega) 4 (.bool (!E.down))) (((HS.out.own.Dy HS.out.eg 4 (.bool (!E.down))).firm).mono (fun w h => ⟨h.d,h.m,h.l⟩)) rfl rfl rfl HGD.out.2.2 ⟨E.log,HPL.out, .inl rfl⟩ (Nat.le_succ_of_le HLL.out))
 ·have n0 : (s == 0) = false:=by rw [beq_eq_false_iff_ne];omega
  have n1 : (s == 1) = false:=by rw [beq_eq_false_iff_ne];omega
  have n2 : (s == 2) = false:=by rw [beq_eq_false_iff_ne];omega
  have n3 : (s == 3) = false:=by rw [beq_eq_false_iff_ne];omega
  have n4 : (s == 4) = false:=by rw [beq_eq_false_iff_ne];omega
  go_wp2
  have hy:=(HS.out.z).Ap E (.slice (some ⟨gd,0,none⟩) E.disk.length d1) (.slice (some ⟨gm,0,none⟩) E.mem.length d2) (.slice B3 E.log.length d3)
  have y0:=hy.c0
  have y1:=hy.c1
  have y2:=hy.c2
  have y3:=hy.c3
  have y4:=hy.c4
  exact bodyPost_ret (v:=Eng.ag E (.slice (some ⟨gd,0,none⟩) E.disk.length d1) (.slice (some ⟨gm,0,none⟩) E.mem.length d2) (.slice B3 E.log.length d3)) (by simp [results,Tryz.results66,go_sem,y0,y1,y2,y3,y4]) rfl (eng_done (q:=p + 2040) (HS.out.rd.more (Int.le_refl _) (by omega)) (by omega) (HS.out.z) HS.out.own.firm rfl rfl rfl HGD.out.2.2 ⟨E.log,HPL.out, .inl rfl⟩ (Nat.le_succ_of_le HLL.out))
end Go.Proofs.YtjeodgfkilhkhaaGreat
namespace Go.Proofs.YtjeodgfkilhkhaaGreat
open Go.RowKit Go.Proofs.YtjeodgfkilhkhaaGreatW.PrintWords Go.Proofs.YtjeodgfkilhkhaaGreatW.PrintLast Go.Proofs.YtjeodgfkilhkhaaGreatW.PrintMore
def Tp (w : World) (x : Ending) (w' : World) : Prop := ∃ (A : Option Addr) (m c : Nat),x = .returned (.slice A m c) ∧ m ≤ 3 ∧ Below w.heap.size w w'
theorem Tp.of {w w' : World} {v : Value} {xs : List Int} (h : AA w' w.heap.size v xs) (hl : xs.length ≤ 3) (hb : Below w.heap.size w w') : Tp w (.returned v) w':=by
 obtain ⟨A,c,rfl, -, -⟩:=h.reads
 exact ⟨A,_,c,rfl,hl,hb⟩
set_option maxRecDepth 100000 in
set_option maxHeartbeats 4000000 in
theorem specLogOpen_calls {w0 w : World} {A : Option Addr} {c : Nat} {l : List Rec} (hcl : l.length ≤ c) (hb : Below w0.heap.size w0 w) (hr : Kd.C kRec w0 A l.length l) : Calls Tryz.prog 67 #[.slice A l.length c] w (Tp w):=by
 have HCL:=As hcl
 have hz : Below w.heap.size w (w.alloc (.cells #[] 3)):=Aa (Below.refl _ _) _
 have hO0 : AA (w.alloc (.cells #[] 3)) w.heap.size (.slice (some ⟨w.heap.size,0,none⟩) 0 0) []:=own_none' _ 1 rfl (Nat.le_refl _)
 obtain ⟨w1,hw1⟩ : ∃ w1,w.alloc (.cells #[] 3) = w1:=⟨_,rfl⟩
 rw [hw1] at hz hO0
 have HW1:=As hw1
 have HZ:=As hz
 have HO0:=As hO0
 have HR1:=As (BF (BF hr hb) hz)
 have HR:=As hr
 have HB:=As hb
 clear hr hb hcl hz hO0 hw1
 cases hl : Au l
 all_goals have HL:=As hl
 all_goals clear hl
 ·go_enter Tryz.func67,Tryz.ntmps67
  go_wp2_with (go_at_call 52;rw [HW1.out];refine (GJ (c:=c) (Below.refl _ _) HR1.out HCL.out).mono ?_;rw [HL.out];rintro e w2 ⟨rfl,hb2⟩;have HX:=As hb2;clear hb2)
  go_ret
  exact Tp.of (HO0.out.below HX.out) (by simp) (bj HZ.out HX.out)
 ·go_enter Tryz.func67,Tryz.ntmps67
  go_wp2_with (go_at_call 52;rw [HW1.out];refine (GJ (c:=c) (Below.refl _ _) HR1.out HCL.out).mono ?_;rw [HL.out];rintro e w2 ⟨rfl,hb2⟩;have HX:=As hb2;clear hb2)
  go_loopw [3,4] (fun v i wr => ∃ (j : Nat) (pre : List Int),j ≤ 3 ∧ i = .int .i64 (4 - j : Int) ∧ A7 (pre.length ≤ 3 - j) ∧ A7 (AA wr w.heap.size v pre) ∧ A7 (Below w.heap.size w wr)) (fun _ i _ => (4 - intOf i).toNat)
  case atStart => exact ⟨3, [],by omega,rfl,⟨by simp⟩,⟨HO0.out.below HX.out⟩,⟨bj HZ.out HX.out⟩⟩
  case round =>
   obtain ⟨j,pre,hj,rfl,HP,HO,HW⟩:=hrel
   rcases j with _ | j
   ·go_wp2
    go_ret
    exact Tp.of HO.out (by have:=HP.out;omega) HW.out
   ·have hw : (4 - ((j + 1 : Nat) : Int)) = 3 - (j : Int):=by omega
    rw [hw]
    have h1 : (3 - (j : Int)) ≤ 3:=by omega
    have h2 : 1 ≤ (3 - (j : Int)):=by omega
    obtain ⟨n0,hn0⟩ : ∃ n0,Ae l (3 - (j : Int)) l.length = n0:=⟨_,rfl⟩
    have hnb:=Bc l (3 - (j : Int)) l.length
    have hm:=(CY HR.out).2
    rw [hn0] at hnb
    have HN:=As hn0
    clear hw hn0
    rcases n0 with _ | n0
    ·go_wp2_with (go_at_call 93;refine (Dn HN.out (bj HB.out HW.out) HR.out).mono ?_;rintro e w1 ⟨rfl,rfl⟩)
     go_roundw
     case rel => exact ⟨j,pre,by omega,by go_num,⟨by have:=HP.out;omega⟩,HO,HW⟩
     case measure => simp [intOf];omega
    ·go_wp2_with (first | (go_at_call 93;refine (Dn HN.out (bj HB.out HW.out) HR.out).mono ?_;rintro e w1 ⟨rfl,rfl⟩) | (at_builtin;(refine DU w.heap.size rfl (.tmp 18) (.tmp 20) 39 3 .i64 8 rfl EB Gz (by omega) _ pre (3 - (j : Int)) rfl rfl HO.out HW.out HW.out.size (by have:=HP.out;omega) ?_;intro v1 w2 hown1 hb1 _ _;have HO2:=As hown1;have HW2:=As hb1;clear hown1 hb1)))
     go_roundw
     case rel => exact ⟨j,pre ++ [3 - (j : Int)],by omega,by go_num,⟨by have:=HP.out;simp;omega⟩,HO2,HW2⟩
     case measure => simp [intOf];omega
structure Ups (wB w wk : World) (g : Nat) (A : Option Addr) (n c : Nat) (q : Int) (b : Nat) (E : Eng) (B1 B2 B3 : Option Addr) (d1 d2 d3 : Nat) : Prop where
 rd : Rd wB w wk g A n c 0 q
 z : Ab wk w.heap.size zE OZ OZ OZ
 eg : Ab wk b E (.slice B1 E.disk.length d1) (.slice B2 E.mem.length d2) (.slice B3 E.log.length d3)
 F : Ur wk w.heap.size E B1 B2 B3
 cap : E.log.length ≤ d3
 D : Rh E.log
 few : E.log.length ≤ 151
 hb : w.heap.size < b
section
variable {wB w wk w1 : World} {g c n b : Nat} {A : Option Addr} {xs : List Int} {p q q' : Int} {E : Eng} {B1 B2 B3 : Option Addr} {d1 d2 d3 : Nat}
theorem Ups.next (h : Ups wB w wk g A n c q b E B1 B2 B3 d1 d2 d3) (hr : ∃ r,0 ≤ r ∧ r ≤ q' ∧ BZ w1 g A n c r) (hw : Wrote wk w1 (fun j => j = g)) : Ups wB w w1 g A n c q' b E B1 B2 B3 d1 d2 d3:=by
 have hgw:=h.rd.hgw
 have hb:=h.hb
 exact ⟨h.rd.next hr hw,(hw.kept.2 _ h.z.lt (by omega)).trans h.z,(hw.kept.2 _ h.eg.lt (by omega)).trans h.eg,h.F.wrote hw hgw,h.cap,h.D,h.few,hb⟩
theorem Ups.more (h : Ups wB w wk g A n c q b E B1 B2 B3 d1 d2 d3) (hq : q ≤ q') : Ups wB w wk g A n c q' b E B1 B2 B3 d1 d2 d3:=⟨h.rd.more (Int.le_refl _) hq,h.z,h.eg,h.F,h.cap,h.D,h.few,h.hb⟩
theorem Ups.below (h : Ups wB w wk g A n c q b E B1 B2 B3 d1 d2 d3) (hb : Below wk.heap.size wk w1) : Ups wB w w1 g A n c q b E B1 B2 B3 d1 d2 d3:=⟨h.rd.below hb,h.z.up hb,h.eg.up hb,h.F.below hb,h.cap,h.D,h.few,h.hb⟩
theorem Ups.call {m : Int} (h : Ups wB w wk g A xs.length c q b E B1 B2 B3 d1 d2 d3) (hc : By wB A xs) (h0 : q ≤ 1000000) (hm : 1 ≤ m ∧ m ≤ 1000) : Calls Tryz.prog 33 #[.pointer (some ⟨g,0,none⟩), .int .i64 m] wk fun x w' => ∃ k : Nat,x = .returned (.int .i64 (k : Int)) ∧ (k : Int) < m ∧ Ups wB w w' g A xs.length c (q + 1) b E B1 B2 B3 d1 d2 d3:=by
 refine (h.rd.call hc ⟨Int.le_refl _,h0⟩ hm).mono ?_
 rintro x w' ⟨k,rfl,hk,hr,hw⟩
 exact ⟨k,rfl,hk,h.next hr.rd hw⟩
theorem Ups.set {F : Eng} {C1 C2 C3 : Option Addr} {e1 e2 e3 : Nat} (h : Ups wB w wk g A n c q b E B1 B2 B3 d1 d2 d3) (hF : Ur wk w.heap.size F C1 C2 C3) (hcap : F.log.length ≤ e3) (hD : Rh F.log) (hl : F.log.length ≤ 151) : Ups wB w (Go.Proofs.YtjeodgfkilhkhaaGreat.Ap wk b F (.slice C1 F.disk.length e1) (.slice C2 F.mem.length e2) (.slice C3 F.log.length e3)) g A n c q b F C1 C2 C3 e1 e2 e3:=by
 have hb:=h.hb
 exact ⟨((((h.rd.setCell (by omega) 0 _).setCell (by omega) 1 _).setCell (by omega) 2 _).setCell (by omega) 3 _).setCell (by omega) 4 _,((((h.z.far (by omega) 0 _).far (by omega) 1 _).far (by omega) 2 _).far (by omega) 3 _).far (by omega) 4 _,h.eg.Ap F _ _ _,hF.Ap h.eg F _ _ _,hcap,hD,hl,hb⟩
def RetUpD (w : World) (g : Nat) (A : Option Addr) (n c : Nat) (p : Int) (x : Ending) (w' : World) : Prop := ∃ (E : Eng) (B1 B2 B3 : Option Addr) (d1 d2 d3 : Nat),x = .returned (E.val B1 B2 B3 d1 d2 d3) ∧ E.log.length ≤ d3 ∧ Rh E.log ∧ E.log.length ≤ 151 ∧ Ur w' w.heap.size E B1 B2 B3 ∧ (∃ r,0 ≤ r ∧ r ≤ p + 13000 ∧ BZ w' g A n c r) ∧ Wrote w w' (fun j => j = g)
theorem Ups.done (h : Ups wB w wk g A n c q b E B1 B2 B3 d1 d2 d3) (hq : q ≤ p + 13000) : RetUpD w g A n c p (.returned (E.val B1 B2 B3 d1 d2 d3)) (Go.Proofs.YtjeodgfkilhkhaaGreat.Ap wk w.heap.size E (.slice B1 E.disk.length d1) (.slice B2 E.mem.length d2) (.slice B3 E.log.length d3)):=by
 obtain ⟨s,k1,k2,k3⟩:=h.rd.rd
 have hne : g ≠ w.heap.size:=by have:=h.rd.hgw;omega
 have hp : (fun j => j = g) w.heap.size ∨ w.heap.size ≤ w.heap.size:=.inr (Nat.le_refl _)
 exact ⟨E,B1,B2,B3,d1,d2,d3,rfl,h.cap,h.D,h.few,h.F.Ap h.z E _ _ _,⟨s,k1,by omega,((((k3.IQ hne _ _).IQ hne _ _).IQ hne _ _).IQ hne _ _).IQ hne _ _⟩,((((h.rd.wr.setCell (p:=⟨w.heap.size,0,none⟩) hp _).setCell (p:=⟨w.heap.size,1,none⟩) hp _).setCell (p:=⟨w.heap.size,2,none⟩) hp _).setCell (p:=⟨w.heap.size,3,none⟩) hp _).setCell (p:=⟨w.heap.size,4,none⟩) hp _⟩
end
set_option maxRecDepth 100000 in
set_option maxHeartbeats 16000000 in
theorem l72Up_calls {wB w : World} {g c : Nat} {A : Option Addr} {xs : List Int} {p : Int} (hp : 0 ≤ p ∧ p ≤ 1000) (hc : By wB A xs) (hb : Below wB.heap.size wB w) (hg : wB.heap.size ≤ g) (hq : BZ w g A xs.length c p) : Calls Tryz.prog 32 #[.pointer (some ⟨g,0,none⟩)] w (RetUpD w g A xs.length c p):=by
 have HP:=As hp
 have HC:=As hc
 have HQ:=As hq
 have HR0:=As (Rd.start hb hg hq)
 have K0 : True:=trivial
 clear hp hc hb hg hq
 go_enter Tryz.func32,Tryz.ntmps32
 go_wp2_with (first | (clear K0;refine Ca (vd:=.slice none 0 0) (vm:=.slice none 0 0) (vl:=.slice none 0 0) zE ?_;intro w1 hb1 hz1 hq1;have HR:=As (HR0.out.below hb1);have HZ:=As hq1;have HN:=As hz1;have HQ1:=As (HQ.out.up hb1);clear hb1 hz1 hq1;have K1 : True:=trivial) | (clear K1;go_at_call 66;refine (l72Engine_calls (wB:=wB) (by have:=HP.out;omega) HC.out HR.out.bel HR.out.hBg HQ1.out).mono ?_;rintro x w2 ⟨E,B1,B2,B3,n1,n2,n3,d1,d2,d3,rfl,rfl,rfl,rfl,hcap,hD,hl,hF,⟨r,hr0,hr1,hrd⟩,hw⟩;have hgw:=HR.out.hgw;have hn1:=HN.out;have HZ:=As (show Ab w2 w.heap.size zE OZ OZ OZ from (hw.kept.2 _ HZ.out.lt (by omega)).trans HZ.out);have HR:=As (HR.out.next (p':=0) (q':=p + 2100) ⟨r,hr0,hr1,hrd⟩ hw);have HF:=As (hF.lower (b':=w.heap.size) (by omega));have HD:=As (And.intro hcap (And.intro hD hl));clear hcap hD hl hF hr0 hr1 hrd hw hgw hn1;have K2 : True:=trivial))
 obtain ⟨w3,hw3⟩ : ∃ w3,w2.alloc (Obj.cells #[.slice B1 E.disk.length d1, .slice B2 E.mem.length d2, .slice B3 E.log.length d3, .int .i64 E.safe, .bool E.down] 26) = w3:=⟨_,rfl⟩
 rw [hw3]
 have HS : A7 (Ups wB w w3 g A xs.length c (p + 2100) w2.heap.size E B1 B2 B3 d1 d2 d3):=⟨by have hb3 : Below w2.heap.size w2 w3:=by { rw [← hw3];exact Aa (Below.refl _ _) _ };have hq3 : Ab w3 w2.heap.size E (.slice B1 E.disk.length d1) (.slice B2 E.mem.length d2) (.slice B3 E.log.length d3):=by { rw [← hw3];exact Ab.mk1 _ _ _ _ _ };exact ⟨HR.out.below hb3,HZ.out.up hb3,hq3,HF.out.below hb3,HD.out.1,HD.out.2.1,HD.out.2.2,HZ.out.lt⟩⟩
 clear hw3
 go_loopw [4] (fun i wr => ∃ (k : Nat) (E : Eng) (B1 B2 B3 : Option Addr) (d1 d2 d3 : Nat),k ≤ 5 ∧ i = .int .i64 (k : Int) ∧ A7 (Ups wB w wr g A xs.length c (p + 2100 + 2101 * (k : Int)) w2.heap.size E B1 B2 B3 d1 d2 d3)) (fun i _ => (5 - intOf i).toNat)
 case atStart => exact ⟨0,E,B1,B2,B3,d1,d2,d3,by decide,rfl,⟨HS.out.more (by omega)⟩⟩
 case round =>
  clear HS HD HF HZ HR HQ1
  obtain ⟨k,E,B1,B2,B3,d1,d2,d3,hk,rfl,HS⟩:=hrel
  have x0:=(HS.out.eg).c0
  have x1:=(HS.out.eg).c1
  have x2:=(HS.out.eg).c2
  have x3:=(HS.out.eg).c3
  have x4:=(HS.out.eg).c4
  have f0:=(HS.out.eg).frz 0
  have f1:=(HS.out.eg).frz 1
  have f2:=(HS.out.eg).frz 2
  have f3:=(HS.out.eg).frz 3
  have f4:=(HS.out.eg).frz 4
  have z0:=(HS.out.z).c0
  have z1:=(HS.out.z).c1
  have z2:=(HS.out.z).c2
  have z3:=(HS.out.z).c3
  have z4:=(HS.out.z).c4
  have g0:=(HS.out.z).frz 0
  have g1:=(HS.out.z).frz 1
  have g2:=(HS.out.z).frz 2
  have g3:=(HS.out.z).frz 3
  have g4:=(HS.out.z).frz 4
  by_cases hlt : k < 5
  ·have hki : (k : Int) < 5:=by omega
   go_wp2_with fail
   go_at_call 33
   refine (HS.out.call HC.out (by have:=HP.out;omega) (by decide)).mono ?_
   rintro x wk ⟨k5,rfl,hk_k5,hs⟩
   have HS:=As hs
   clear hs
   clear x0 x1 x2 x3 x4 f0 f1 f2 f3 f4 z0 z1 z2 z3 z4 g0 g1 g2 g3 g4
   have x0:=(HS.out.eg).c0
   have x1:=(HS.out.eg).c1
   have x2:=(HS.out.eg).c2
   have x3:=(HS.out.eg).c3
   have x4:=(HS.out.eg).c4
   have f0:=(HS.out.eg).frz 0
   have f1:=(HS.out.eg).frz 1
   have f2:=(HS.out.eg).frz 2
   have f3:=(HS.out.eg).frz 3
   have f4:=(HS.out.eg).frz 4
   have z0:=(HS.out.z).c0
   have z1:=(HS.out.z).c1
   have z2:=(HS.out.z).c2
   have z3:=(HS.out.z).c3
   have z4:=(HS.out.z).c4
   have g0:=(HS.out.z).frz 0
   have g1:=(HS.out.z).frz 1
   have g2:=(HS.out.z).frz 2
   have g3:=(HS.out.z).frz 3
   have g4:=(HS.out.z).frz 4
   obtain ⟨s5,hs5⟩ : ∃ s : Int,s = (k5 : Int):=⟨_,rfl⟩
   rw [← hs5]
   clear hs5 hk_k5 k5
   rcases lts 0 s5 with ⟨e5,b5,c5⟩ | ⟨e5,b5,c5⟩
   ·cases hdn : E.down
    ·have HDN:=As hdn
     rw [hdn] at x4
     clear hdn
     go_wp2_with fail
     go_at_call 67
     refine (specLogOpen_calls HS.out.cap (Below.refl _ _) HS.out.F.now.l).mono ?_
     rintro x wl ⟨Al,ml,cl,rfl,hml,hbl⟩
     have HS:=As (HS.out.below hbl)
     clear hbl
     clear x0 x1 x2 x3 x4 f0 f1 f2 f3 f4 z0 z1 z2 z3 z4 g0 g1 g2 g3 g4
     have x0:=(HS.out.eg).c0
     have x1:=(HS.out.eg).c1
     have x2:=(HS.out.eg).c2
     have x3:=(HS.out.eg).c3
     have x4:=(HS.out.eg).c4
     have f0:=(HS.out.eg).frz 0
     have f1:=(HS.out.eg).frz 1
     have f2:=(HS.out.eg).frz 2
     have f3:=(HS.out.eg).frz 3
     have f4:=(HS.out.eg).frz 4
     have z0:=(HS.out.z).c0
     have z1:=(HS.out.z).c1
     have z2:=(HS.out.z).c2
     have z3:=(HS.out.z).c3
     have z4:=(HS.out.z).c4
     have g0:=(HS.out.z).frz 0
     have g1:=(HS.out.z).frz 1
     have g2:=(HS.out.z).frz 2
     have g3:=(HS.out.z).frz 3
     have g4:=(HS.out.z).frz 4
     rw [HDN.out] at x4
     rcases Nat.eq_zero_or_pos ml with rfl | hpos
     ·skip
      go_wp2_with (first | (go_at_call 66;obtain ⟨r0,hr0,hr1,hr2⟩:=HS.out.rd.rd;refine (l72Engine_calls (wB:=wB) (by have:=HP.out;omega) HC.out HS.out.rd.bel HS.out.rd.hBg hr2).mono ?_;rintro x w4 ⟨F,C1,C2,C3,n1,n2,n3,e1,e2,e3,rfl,rfl,rfl,rfl,hcap,hD,hl,hF,⟨r,hs0,hs1,hrd⟩,hw⟩;have HF:=As (hF.lower (b':=w.heap.size) HS.out.rd.size);have HD:=As (And.intro hcap (And.intro hD hl));have HS:=As (HS.out.next (q':=p + 2100 + 2101 * ((k + 1 : Nat) : Int)) ⟨r,hs0,by push_cast;omega,hrd⟩ hw);clear hcap hD hl hF hr0 hr1 hr2 hs0 hs1 hrd hw;clear x0 x1 x2 x3 x4 f0 f1 f2 f3 f4 z0 z1 z2 z3 z4 g0 g1 g2 g3 g4;have x0:=(HS.out.eg).c0;have x1:=(HS.out.eg).c1;have x2:=(HS.out.eg).c2;have x3:=(HS.out.eg).c3;have x4:=(HS.out.eg).c4;have f0:=(HS.out.eg).frz 0;have f1:=(HS.out.eg).frz 1;have f2:=(HS.out.eg).frz 2;have f3:=(HS.out.eg).frz 3;have f4:=(HS.out.eg).frz 4;have z0:=(HS.out.z).c0;have z1:=(HS.out.z).c1;have z2:=(HS.out.z).c2;have z3:=(HS.out.z).c3;have z4:=(HS.out.z).c4;have g0:=(HS.out.z).frz 0;have g1:=(HS.out.z).frz 1;have g2:=(HS.out.z).frz 2;have g3:=(HS.out.z).frz 3;have g4:=(HS.out.z).frz 4))
      go_roundw
      case rel => exact ⟨k + 1,F,C1,C2,C3,e1,e2,e3,by omega,by go_num,⟨HS.out.set HF.out HD.out.1 HD.out.2.1 HD.out.2.2⟩⟩
      case measure => simp [intOf];omega
     ·have hz0 : ((ml : Int) == 0) = false:=by rw [beq_eq_false_iff_ne];omega
      rw [← HDN.out] at x4
      go_wp2
      have hy:=HS.out.z.Ap E (.slice B1 E.disk.length d1) (.slice B2 E.mem.length d2) (.slice B3 E.log.length d3)
      have y0:=hy.c0
      have y1:=hy.c1
      have y2:=hy.c2
      have y3:=hy.c3
      have y4:=hy.c4
      exact bodyPost_ret (v:=Eng.val E B1 B2 B3 d1 d2 d3) (by simp [results,Tryz.results32,go_sem,y0,y1,y2,y3,y4]) rfl (HS.out.done (by omega))
    ·rw [hdn] at x4
     have hdn2:=As hdn
     clear hdn
     go_wp2_with (first | (go_at_call 66;obtain ⟨r0,hr0,hr1,hr2⟩:=HS.out.rd.rd;refine (l72Engine_calls (wB:=wB) (by have:=HP.out;omega) HC.out HS.out.rd.bel HS.out.rd.hBg hr2).mono ?_;rintro x w4 ⟨F,C1,C2,C3,n1,n2,n3,e1,e2,e3,rfl,rfl,rfl,rfl,hcap,hD,hl,hF,⟨r,hs0,hs1,hrd⟩,hw⟩;have HF:=As (hF.lower (b':=w.heap.size) HS.out.rd.size);have HD:=As (And.intro hcap (And.intro hD hl));have HS:=As (HS.out.next (q':=p + 2100 + 2101 * ((k + 1 : Nat) : Int)) ⟨r,hs0,by push_cast;omega,hrd⟩ hw);clear hcap hD hl hF hr0 hr1 hr2 hs0 hs1 hrd hw;clear x0 x1 x2 x3 x4 f0 f1 f2 f3 f4 z0 z1 z2 z3 z4 g0 g1 g2 g3 g4;have x0:=(HS.out.eg).c0;have x1:=(HS.out.eg).c1;have x2:=(HS.out.eg).c2;have x3:=(HS.out.eg).c3;have x4:=(HS.out.eg).c4;have f0:=(HS.out.eg).frz 0;have f1:=(HS.out.eg).frz 1;have f2:=(HS.out.eg).frz 2;have f3:=(HS.out.eg).frz 3;have f4:=(HS.out.eg).frz 4;have z0:=(HS.out.z).c0;have z1:=(HS.out.z).c1;have z2:=(HS.out.z).c2;have z3:=(HS.out.z).c3;have z4:=(HS.out.z).c4;have g0:=(HS.out.z).frz 0;have g1:=(HS.out.z).frz 1;have g2:=(HS.out.z).frz 2;have g3:=(HS.out.z).frz 3;have g4:=(HS.out.z).frz 4))
     go_roundw
     case rel => exact ⟨k + 1,F,C1,C2,C3,e1,e2,e3,by omega,by go_num,⟨HS.out.set HF.out HD.out.1 HD.out.2.1 HD.out.2.2⟩⟩
     case measure => simp [intOf];omega
   ·go_wp2
    have hy:=HS.out.z.Ap E (.slice B1 E.disk.length d1) (.slice B2 E.mem.length d2) (.slice B3 E.log.length d3)
    have y0:=hy.c0
    have y1:=hy.c1
    have y2:=hy.c2
    have y3:=hy.c3
    have y4:=hy.c4
    exact bodyPost_ret (v:=Eng.val E B1 B2 B3 d1 d2 d3) (by simp [results,Tryz.results32,go_sem,y0,y1,y2,y3,y4]) rfl (HS.out.done (by omega))
  ·have hki : ¬ (k : Int) < 5:=by omega
   go_wp2
   have hy:=HS.out.z.Ap E (.slice B1 E.disk.length d1) (.slice B2 E.mem.length d2) (.slice B3 E.log.length d3)
   have y0:=hy.c0
   have y1:=hy.c1
   have y2:=hy.c2
   have y3:=hy.c3
   have y4:=hy.c4
   exact bodyPost_ret (v:=Eng.val E B1 B2 B3 d1 d2 d3) (by simp [results,Tryz.results32,go_sem,y0,y1,y2,y3,y4]) rfl (HS.out.done (by omega))
end Go.Proofs.YtjeodgfkilhkhaaGreat
namespace Go.Proofs.YtjeodgfkilhkhaaGreat
open Go.RowKit Go.Proofs.YtjeodgfkilhkhaaGreatW.PrintWords Go.Proofs.YtjeodgfkilhkhaaGreatW.PrintLast Go.Proofs.YtjeodgfkilhkhaaGreatW.PrintMore
theorem eg_far5 {w : World} {g b : Nat} {e : Eng} {vd vm vl : Value} (h : Ab w g e vd vm vl) (hne : b ≠ g) (f : Eng) (xd xm xl : Value) : Ab (Go.Proofs.YtjeodgfkilhkhaaGreat.Ap w b f xd xm xl) g e vd vm vl:=((((h.far hne 0 _).far hne 1 _).far hne 2 _).far hne 3 _).far hne 4 _
structure Dw (wB wk : World) (g : Nat) (A : Option Addr) (n c : Nat) (q : Int) (b N : Nat) (E : Eng) (B1 B2 B3 : Option Addr) (d1 d2 d3 : Nat) : Prop where
 rd : ∃ r,0 ≤ r ∧ r ≤ q ∧ BZ wk g A n c r
 bel : Below wB.heap.size wB wk
 z : Ab wk wB.heap.size zE OZ OZ OZ
 eg : Ab wk b E (.slice B1 E.disk.length d1) (.slice B2 E.mem.length d2) (.slice B3 E.log.length d3)
 F : Ur wk N E B1 B2 B3
 cap : E.log.length ≤ d3
 few : E.log.length ≤ 151
 hg : wB.heap.size < g ∧ g < N ∧ g < b
section
variable {wB wk w1 : World} {g c n b N : Nat} {A : Option Addr} {xs : List Int} {q q' : Int} {E : Eng} {B1 B2 B3 : Option Addr} {d1 d2 d3 : Nat}
theorem Dw.next (h : Dw wB wk g A n c q b N E B1 B2 B3 d1 d2 d3) (hr : ∃ r,0 ≤ r ∧ r ≤ q' ∧ BZ w1 g A n c r) (hw : Wrote wk w1 (fun j => j = g)) : Dw wB w1 g A n c q' b N E B1 B2 B3 d1 d2 d3:=by
 have hg:=h.hg
 exact ⟨hr,h.bel.trans (hw.bel (fun k hk => by have hk : k = g:=hk;omega) h.bel.size),(hw.kept.2 _ h.z.lt (by omega)).trans h.z,(hw.kept.2 _ h.eg.lt (by omega)).trans h.eg,h.F.wrote hw hg.2.1,h.cap,h.few,hg⟩
theorem Dw.more (h : Dw wB wk g A n c q b N E B1 B2 B3 d1 d2 d3) (hq : q ≤ q') : Dw wB wk g A n c q' b N E B1 B2 B3 d1 d2 d3:=by
 obtain ⟨r,h1,h2,h3⟩:=h.rd
 exact ⟨⟨r,h1,by omega,h3⟩,h.bel,h.z,h.eg,h.F,h.cap,h.few,h.hg⟩
theorem Dw.below (h : Dw wB wk g A n c q b N E B1 B2 B3 d1 d2 d3) (hb : Below wk.heap.size wk w1) : Dw wB w1 g A n c q b N E B1 B2 B3 d1 d2 d3:=by
 obtain ⟨r,h1,h2,h3⟩:=h.rd
 exact ⟨⟨r,h1,h2,h3.up hb⟩,bj h.bel hb,h.z.up hb,h.eg.up hb,h.F.below hb,h.cap,h.few,h.hg⟩
theorem Dw.call {m : Int} (h : Dw wB wk g A xs.length c q b N E B1 B2 B3 d1 d2 d3) (hc : By wB A xs) (h0 : q ≤ 1000000) (hm : 1 ≤ m ∧ m ≤ 1000) : Calls Tryz.prog 33 #[.pointer (some ⟨g,0,none⟩), .int .i64 m] wk fun x w' => ∃ k : Nat,x = .returned (.int .i64 (k : Int)) ∧ (k : Int) < m ∧ Dw wB w' g A xs.length c (q + 1) b N E B1 B2 B3 d1 d2 d3:=by
 obtain ⟨r,h3,h4,h5⟩:=h.rd
 refine (Hw (wB:=wB) h3 (by omega) hm.1 hm.2 hc.few hc.all h.bel (Nat.le_of_lt h.hg.1) hc.C h5).mono ?_
 rintro x w' ⟨k,rfl,hk,hrd,hw⟩
 obtain ⟨hk0,hk1⟩:=hk hm.1
 obtain ⟨k,rfl⟩:=Int.eq_ofNat_of_zero_le hk0
 exact ⟨k,rfl,hk1,h.next ⟨r + 1,by omega,by omega,hrd⟩ hw⟩
theorem Dw.callW {m : Int} (h : Dw wB wk g A xs.length c q b N E B1 B2 B3 d1 d2 d3) (hc : By wB A xs) (h0 : q ≤ 1000000) (hm : 1 ≤ m ∧ m ≤ 1000) : Calls Tryz.prog 33 #[.pointer (some ⟨g,0,none⟩), .int .i64 m] wk fun x w' => ∃ k : Nat,x = .returned (.int .i64 (k : Int)) ∧ (k : Int) < m ∧ Dw wB w' g A xs.length c (q + 1) b N E B1 B2 B3 d1 d2 d3 ∧ Wrote wk w' (fun j => j = g):=by
 obtain ⟨r,h3,h4,h5⟩:=h.rd
 refine (Hw (wB:=wB) h3 (by omega) hm.1 hm.2 hc.few hc.all h.bel (Nat.le_of_lt h.hg.1) hc.C h5).mono ?_
 rintro x w' ⟨k,rfl,hk,hrd,hw⟩
 obtain ⟨hk0,hk1⟩:=hk hm.1
 obtain ⟨k,rfl⟩:=Int.eq_ofNat_of_zero_le hk0
 exact ⟨k,rfl,hk1,h.next ⟨r + 1,by omega,by omega,hrd⟩ hw,hw⟩
theorem Dw.set {F : Eng} {C1 C2 C3 : Option Addr} {e1 e2 e3 : Nat} (h : Dw wB wk g A n c q b N E B1 B2 B3 d1 d2 d3) (hb : wB.heap.size < b) (hF : Ur wk N F C1 C2 C3) (hcap : F.log.length ≤ e3) (hl : F.log.length ≤ 151) : Dw wB (Go.Proofs.YtjeodgfkilhkhaaGreat.Ap wk b F (.slice C1 F.disk.length e1) (.slice C2 F.mem.length e2) (.slice C3 F.log.length e3)) g A n c q b N F C1 C2 C3 e1 e2 e3:=by
 obtain ⟨r,h3,h4,h5⟩:=h.rd
 have hne : g ≠ b:=by have:=h.hg;omega
 exact ⟨⟨r,h3,h4,((((h5.IQ hne _ _).IQ hne _ _).IQ hne _ _).IQ hne _ _).IQ hne _ _⟩,Aj h.bel (by omega) F _ _ _,((((h.z.far (by omega) 0 _).far (by omega) 1 _).far (by omega) 2 _).far (by omega) 3 _).far (by omega) 4 _,h.eg.Ap F _ _ _,hF.Ap h.eg F _ _ _,hcap,hl,h.hg⟩
end
def RetDN (w : World) (x : Ending) (w' : World) : Prop := ∃ (E : Eng) (B1 B2 B3 : Option Addr) (d1 d2 d3 : Nat) (n : Int),x = .returned (.tuple #[E.val B1 B2 B3 d1 d2 d3, .int .i64 n]) ∧ E.log.length ≤ d3 ∧ E.log.length ≤ 151 ∧ Rh E.log ∧ Ff w' E B1 B2 B3 ∧ Below w.heap.size w w'
def RetDU (w : World) (x : Ending) (w' : World) : Prop := ∃ (E : Eng) (B1 B2 B3 : Option Addr) (d1 d2 d3 : Nat) (n : Int),x = .returned (.tuple #[E.val B1 B2 B3 d1 d2 d3, .int .i64 n]) ∧ E.log.length ≤ d3 ∧ E.log.length ≤ 151 ∧ Ff w' E B1 B2 B3 ∧ Below w.heap.size w w'
def RetDF (w : World) (x : Ending) (w' : World) : Prop := ∃ (E : Eng) (B1 B2 B3 : Option Addr) (d1 d2 d3 : Nat),x = .returned (E.val B1 B2 B3 d1 d2 d3) ∧ E.log.length ≤ d3 ∧ E.log.length ≤ 151 ∧ Rh E.log ∧ Ff w' E B1 B2 B3 ∧ Below w.heap.size w w'
end Go.Proofs.YtjeodgfkilhkhaaGreat
