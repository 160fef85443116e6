/- A part of the proof: what the last text of the claim says leans on this one. -/
import Derived.Test.YtpjmlpmhgfghbaaGreatZR1
import Derived.Sort.OwnSortedInts
import Derived.IntWalk
set_option linter.unusedVariables false
set_option linter.unusedSimpArgs false
namespace Go.Proofs.YtpjmlpmhgfghbaaGreat
open Go.RowKit Go.Shelf Go.Proofs.YtpjmlpmhgfghbaaGreatW.PrintWords Go.Proofs.YtpjmlpmhgfghbaaGreatW.PrintLast Go.Proofs.YtpjmlpmhgfghbaaGreatW.PrintMore
attribute [local go_sem] Oper.semAt_some
def Blk (W : World) (B : Nat) (t : TypeId) (cs : Array Value) : Prop:=W.heap[B]? = some (.cells cs t (0,0))
theorem Blk.lt {W : World} {B : Nat} {t : TypeId} {cs : Array Value} (h : Blk W B t cs) : B < W.heap.size:=(Array.getElem?_eq_some_iff.1 h).1
theorem SX {β : Type} (B : Nat) (t : TypeId) (f : β → Array Value) : Own (fun s W => Blk W B t (f s)):=fun s X Y row hs hg hrow =>
  (hg.block B hs.lt (fun e' => by obtain ⟨o,ho,hc⟩:=hrow B e'.symm;rw [show X.heap[B]? = _ from hs] at ho;cases ho;cases hc)).trans hs
theorem Blk.new (W : World) (t : TypeId) (cs : Array Value) : Blk (W.alloc (.cells cs t)) W.heap.size t cs:=World.alloc_heap_new W _
theorem Blk.recAt {W : World} {B : Nat} {t : TypeId} {r : Rec} (h : Blk W B t #[.int .i64 r.kind, .int .i64 r.tx, .int .i64 r.page, .int .i64 r.slot, .int .i64 r.old, .int .i64 r.new, .int .i64 r.prev, .int .i64 r.next]) : G5 W ⟨B,0,none⟩ r:=by
  have hc : ∀ j u,(#[.int .i64 r.kind, .int .i64 r.tx, .int .i64 r.page, .int .i64 r.slot, .int .i64 r.old, .int .i64 r.new, .int .i64 r.prev, .int .i64 r.next] : Array Value)[j]? = some u → W.cell? ⟨B,j,none⟩ = some u:=fun j u hu => by
    rw [World.cell?,show W.heap[B]? = _ from h]
    simpa using hu
  exact ⟨hc 0 _ rfl,hc 1 _ rfl,hc 2 _ rfl,hc 3 _ rfl,hc 4 _ rfl,hc 5 _ rfl,hc 6 _ rfl,hc 7 _ rfl⟩
theorem Ea {B : Nat} {W W1 : World} (h : Below W.heap.size W W1) : KeepsFrom B W W1:=⟨h.size,fun k _ _ hk _ => (h.block k (Array.getElem?_eq_some_iff.1 hk).1).trans hk⟩
set_option maxRecDepth 100000 in
set_option maxHeartbeats 4000000 in
theorem IV {w0 w : World} {A : Option Addr} {c : Nat} {l : List Rec} (tx : Int) (hb : Below w0.heap.size w0 w) (hr : Kd.C C8 w0 A l.length l) : Calls Tryz.prog 107 #[.slice A l.length c, .int .i64 tx] w fun e w' => e = .returned (.int .i64 (Ao l tx l.length)) ∧ Below w.heap.size w w':=by
  have HR:=As hr
  have HB:=As hb
  have hm:=(D5 hr).2
  clear hr hb
  refine (callsIn_wide (n:=5)).1 ?_
  have hro : Fence.wide.round = none:=rfl
  have h1 : 1 ≤ 5:=by omega
  refine callsIn_of_wp_marks Tryz.func107 rfl trivial ?_ hro
  simp only [Tryz.ntmps107,List.size_toArray,List.length_cons,List.length_nil,Nat.reduceAdd,Nat.reduceSub,Array.replicate_succ,Array.replicate_zero,List.push_toArray,List.append_toArray,List.nil_append,List.cons_append]
  gi_wp2_with (refine ⟨trivial,?_⟩;gi_at_call 165;refine (SY Fence.wide _ trivial hro _ _ _ _).mono ?_;rintro e w' ⟨rfl,rfl⟩)
  have b3:=((Blk.new w 3 #[.int .i64 tx]) : Blk _ _ _ _)
  obtain ⟨W0,hW0⟩ : ∃ W0,((w.alloc (.cells #[.int .i64 tx] 3)).alloc (.cells #[.int .i64 0] 3)).alloc (.cells #[.slice A l.length c] 26) = W0:=⟨_,rfl⟩
  have hsz : W0.heap.size = w.heap.size + 3:=by rw [← hW0];simp
  have hB0 : Below w.heap.size w W0:=by rw [← hW0];exact (((Below.refl _ w).alloc (Nat.le_refl _) _).alloc (by simp) _).alloc (by simp;omega) _
  have bT : Blk W0 w.heap.size 3 #[.int .i64 tx]:=by
    rw [← hW0];exact ((Below.heap_alloc _ _ _ (by simp;omega)).trans (Below.heap_alloc _ _ _ (by simp))).trans (World.alloc_heap_new w _)
  have bR : Boxed W0 (w.heap.size + 1) 3 (.int .i64 0):=by
    rw [← hW0];refine (Below.heap_alloc _ _ _ (by simp)).trans ?_
    have:=World.alloc_heap_new (w.alloc (.cells #[.int .i64 tx] 3)) (.cells #[.int .i64 0] 3);rwa [World.size_alloc] at this
  have bS : W0.cell? ⟨w.heap.size + 1 + 1,0,none⟩ = some (.slice A l.length c):=by
    have : Boxed W0 (w.heap.size + 1 + 1) 26 (.slice A l.length c):=by
      rw [← hW0];have:=World.alloc_heap_new ((w.alloc (.cells #[.int .i64 tx] 3)).alloc (.cells #[.int .i64 0] 3)) (.cells #[.slice A l.length c] 26);rwa [World.size_alloc,World.size_alloc] at this
    exact this.cell
  rw [hW0]
  clear hW0 b3
  have hw0 : Below w0.heap.size w0 W0:=bj HB.out hB0
  have HSZ:=As hsz
  refine wpIn_rangeFunc_ownH (α:=Ja l.length) hro h1 (gf:=181) (lb:=#[.pointer (some ⟨w.heap.size + 1 + 1,0,none⟩)]) rfl trivial (enters_of Tryz.func181 (by kernel_rfl) rfl)
    (NN Fence.wide _ trivial hro (by omega) (w.heap.size + 1 + 1) W0.heap.size c A l w0 W0 HR.out hw0.size (by omega) (Nat.le_refl _) hw0 bS) belowK_t (belowK_b (Nat.le_refl _)) (Below.refl _ _) (fun _ => rfl)
    (fun pre W => (∀ x ∈ pre,(rc l x.1).tx ≠ tx) ∧ Below W0.heap.size W0 W)
    (fun cc pre W => ((cc = .ret ∧ ∃ pre0 x,pre = pre0 ++ [x] ∧ (∀ y ∈ pre0,(rc l y.1).tx ≠ tx) ∧ (rc l x.1).tx = tx) ∧ (∃ x : Ja l.length,pre.getLast? = some x ∧ Boxed W (w.heap.size + 1) 3 (.int .i64 (if EI (rc l x.1).kind = true then 0 else (x.1 : Int) + 1)))) ∧ Below w.heap.size w W)
    (OwnFrom.and (ownFrom_pure _ _) (ownFrom_below (Nat.le_refl _) (Nat.le_refl _)))
    (fun cc => OwnFrom.and (OwnFrom.and (ownFrom_pure _ _) (fun s X Y row hs hg hr => by obtain ⟨x,e1,e2⟩:=hs;exact ⟨x,e1,boxed_own _ _ (fun (_ : Unit) => _) () X Y row e2 hg (fun r e => (hr r e).2)⟩)) (ownFrom_below (Nat.le_refl _) (by omega)))
    ⟨by simp,Below.refl _ _⟩
    (fun x a' W => ∃ Bx,W0.heap.size ≤ Bx ∧ Blk W Bx 98 #[.int .i64 (rc l x.1).kind, .int .i64 (rc l x.1).tx, .int .i64 (rc l x.1).page, .int .i64 (rc l x.1).slot, .int .i64 (rc l x.1).old, .int .i64 (rc l x.1).new, .int .i64 (rc l x.1).prev, .int .i64 (rc l x.1).next] ∧ a' = { tmps:=#[.slice A l.length c, .int .i64 tx,undef, .pointer (some ⟨w.heap.size,0,none⟩), .pointer (some ⟨w.heap.size + 1,0,none⟩), .int .i64 (x.1 : Nat), .pointer (some ⟨Bx,0,none⟩), .slice A l.length c, .func (.func 181) #[] #[.pointer (some ⟨w.heap.size + 1 + 1,0,none⟩)], .int .i64 (x.1 : Nat),(rc l x.1).val,undef,undef,undef,undef,undef,undef,undef,undef],defers := [] })
    (fun x a' _ X Y row hs hg hr => by obtain ⟨Bx,e1,e2,e3⟩:=hs;exact ⟨Bx,e1,SX Bx 98 (fun (_ : Unit) => #[.int .i64 (rc l x.1).kind, .int .i64 (rc l x.1).tx, .int .i64 (rc l x.1).page, .int .i64 (rc l x.1).slot, .int .i64 (rc l x.1).old, .int .i64 (rc l x.1).new, .int .i64 (rc l x.1).prev, .int .i64 (rc l x.1).next]) () X Y row e2 hg (fun r e => (hr r e).2),e3⟩)
    ?assign ?body ?done ?stop
  all_goals clear hsz
  case assign =>
    rintro lp pre x W K ⟨hp,hB1⟩ hK
    gi_wp2
    exact hK _ _ ((KeepsOthers.alloc _ _).from _) ((Below.refl _ W).alloc hB1.size _) ⟨hp,hB1.alloc hB1.size _⟩ ⟨W.heap.size,hB1.size,Blk.new W _ _,rfl⟩
  case body =>
    rintro lp pre x a' W hlp - ⟨hp,hB1⟩ ⟨Bx,hBx,bX,rfl⟩ hlt
    obtain ⟨g0,g1,g2,g3,g4,g5,g6,g7⟩:=bX.recAt
    have cT : W.cell? ⟨w.heap.size,0,none⟩ = some (.int .i64 tx):=(hB1.cell (p:=⟨w.heap.size,0,none⟩) (by show w.heap.size < _;have:=HSZ.out;omega)).trans (Boxed.cell bT)
    have bR1 : Boxed W (w.heap.size + 1) 3 (.int .i64 0):=(hB1.block _ (by have:=HSZ.out;omega)).trans bR
    have cR:=bR1.cell
    have fR:=bR1.frozen
    have h1' : 1 ≤ 5 - 1 - 1:=by omega
    have hxl : ((x.1 : Nat) : Int) < 9223372036854775807:=by have:=x.2;omega
    have hx0 : (0 : Int) ≤ ((x.1 : Nat) : Int):=Int.natCast_nonneg _
    rcases BS (rc l x.1).tx tx with ⟨e1,b1,c1⟩ | ⟨e1,b1,c1⟩
    · cases he : EI (rc l x.1).kind
      all_goals
        have HE:=As he
        clear he
        gi_wp2_with (refine ⟨trivial,?_⟩;gi_at_call 133;refine (CallsIn.inRound lp (callsIn_wide.2 (Lr (r:=rc l x.1) HE.out _))).mono ?_;rintro e w1 ⟨rfl,hb1⟩;have cR1:=CF hb1 cR;have fR1:=(hb1.frozen (p:=⟨w.heap.size + 1,0,none⟩) (World.block_lt_of_cell? _ _ cR)).trans fR)
      · refine ⟨(Ea hb1).trans ((KeepsOthers.setCell _ _ _).from _),⟨⟨rfl,pre,x,rfl,hp,e1.out⟩,x,by simp,?_⟩,((hB0.trans (hB1.mono hB0.size)).trans (hb1.mono ((hB0.trans (hB1.mono hB0.size)).size))).setCell (p:=⟨w.heap.size + 1,0,none⟩) (by simp) _⟩
        rw [HE.out,if_neg (by simp)]
        exact (show Boxed w1 (w.heap.size + 1) 3 (.int .i64 0) from (hb1.block _ bR1.lt).trans bR1).set _
      · refine ⟨(Ea hb1).trans ((KeepsOthers.setCell _ _ _).from _),⟨⟨rfl,pre,x,rfl,hp,e1.out⟩,x,by simp,?_⟩,((hB0.trans (hB1.mono hB0.size)).trans (hb1.mono ((hB0.trans (hB1.mono hB0.size)).size))).setCell (p:=⟨w.heap.size + 1,0,none⟩) (by simp) _⟩
        rw [HE.out,if_pos rfl]
        exact (show Boxed w1 (w.heap.size + 1) 3 (.int .i64 0) from (hb1.block _ bR1.lt).trans bR1).set _
    · gi_wp2
      exact ⟨KeepsFrom.refl _ _,Below.refl _ _,fun z hzl hz => (List.mem_append.1 hz).elim (hp ⟨z,hzl⟩) (fun e => by have e2:=List.mem_singleton.1 e;rw [← e2] at e1;exact e1.out),hB1⟩
  case done =>
    rintro D xs W hD hS ⟨hp,hB1⟩ hK
    have bR1 : Boxed W (w.heap.size + 1) 3 (.int .i64 0):=(hB1.block _ (by have:=HSZ.out;omega)).trans bR
    have cR:=bR1.cell
    have fR:=bR1.frozen
    gi_wp2
    have hK':=(KeepsOthers.setCell W ⟨w.heap.size + 1,0,none⟩ (.int .i64 0)).same D _ hK rfl
    refine ⟨by simp, .inl ⟨_,_,rfl,run_takeDeferred hK',?_⟩⟩
    have hc5:=cell_kept (bR1.set (.int .i64 0)).cell (grownBy_putObj' _ D (.deferred none)) (fun r e => by cases e;exact ⟨_,hK',rfl⟩)
    refine ⟨.int .i64 0,?_,?_,((hB0.trans (hB1.mono hB0.size)).setCell (p:=⟨w.heap.size + 1,0,none⟩) (by simp) _).trans (belowK_b (w:=w) (Nat.le_refl _) _ D _ _ (by have:=HSZ.out;omega) hK' rfl rfl)⟩
    · simp [results,Tryz.f107,go_sem,hc5]
    · refine En ?_
      have:=KF (l:=l) (tx:=tx) (Nat.le_refl _) (fun y hy => by
        rw [← hS] at hy
        obtain ⟨z,hz,rfl⟩:=List.mem_map.1 hy
        exact hp z hz)
      rw [this,Nat.sub_self]
      rfl
  case stop =>
    rintro D cc pre W hD ⟨k,hk,hpk⟩ ⟨⟨⟨rfl,pre0,x,rfl,hp,hx⟩,x',hl',bR1⟩,hB1⟩ hK
    obtain rfl : x = x':=by simpa using hl'
    gi_wp2
    refine ⟨by simp, .inl ⟨_,_,rfl,run_takeDeferred hK,?_⟩⟩
    have hc5:=cell_kept bR1.cell (grownBy_putObj' _ D (.deferred none)) (fun r e => by cases e;exact ⟨_,hK,rfl⟩)
    refine ⟨.int .i64 (if EI (rc l x.1).kind = true then 0 else (x.1 : Int) + 1),?_,?_,hB1.trans (belowK_b (w:=w) (Nat.le_refl _) W D _ _ (by have:=HSZ.out;omega) hK rfl rfl)⟩
    · simp [results,Tryz.f107,go_sem,hc5]
    · refine En ?_
      rw [List.map_append,List.map_cons,List.map_nil] at hpk
      have hkl : k = pre0.length + 1:=by
        have:=congrArg List.length hpk
        rw [Fx] at this
        simp at this
        omega
      subst hkl
      rw [FT] at hpk
      obtain ⟨h2,h3⟩:=List.append_inj hpk (by simp [Fx])
      have hx2 : x.1 = l.length - 1 - pre0.length:=by simpa using h3
      have:=KF (l:=l) (tx:=tx) (n:=l.length) (k:=pre0.length) (by omega) (fun y hy => by
        rw [← h2] at hy
        obtain ⟨z,hz,rfl⟩:=List.mem_map.1 hy
        exact hp z hz)
      rw [this,show l.length - pre0.length = x.1 + 1 by have:=x.2;omega,Ao,if_pos hx]
      split <;> simp
theorem Gp {w0 w : World} {A : Option Addr} {c m : Nat} {l : List Rec} {tx : Int} (h : Ao l tx l.length = m) (hb : Below w0.heap.size w0 w) (hr : Kd.C C8 w0 A l.length l) : Calls Tryz.prog 107 #[.slice A l.length c, .int .i64 tx] w fun e w' => e = .returned (.int .i64 m) ∧ Below w.heap.size w w':=(IV tx hb hr).mono fun _ _ x => ⟨h ▸ x.1,x.2⟩
end Go.Proofs.YtpjmlpmhgfghbaaGreat
namespace Go.Proofs.YtpjmlpmhgfghbaaGreat
open Go.RowKit Go.Proofs.YtpjmlpmhgfghbaaGreatW.PrintWords Go.Proofs.YtpjmlpmhgfghbaaGreatW.PrintLast Go.Proofs.YtpjmlpmhgfghbaaGreatW.PrintMore
set_option maxHeartbeats 2000000 in
theorem IG {w0 w : World} {A : Option Addr} {c n : Nat} {l : List Rec} (hn : n ≤ l.length) (hb : Below w0.heap.size w0 w) (hr : Kd.C C8 w0 A l.length l) (hl : AP l = true) : Calls Tryz.prog 108 #[.slice A l.length c, .int .i64 n] w fun e w' => e = .returned (.int .i64 (Bt l n)) ∧ Below w0.heap.size w0 w':=by
  have HR:=As hr
  have HB:=As hb
  have HL:=As hl
  have hm:=(D5 hr).2
  clear hr hb hl
  go_enter Tryz.func108,Tryz.ntmps108
  go_wp2
  go_loopw [1] (fun i wr => ∃ k : Nat,k ≤ l.length ∧ i = .int .i64 (k : Int) ∧ Ac (Bt l n = Bt l k) ∧ Ac (Below w0.heap.size w0 wr)) (fun i _ => (intOf i).toNat)
  case atStart => exact ⟨n,hn,rfl,⟨rfl⟩,HB⟩
  case round =>
    obtain ⟨k,hk,rfl,HK,HW⟩:=hrel
    rcases k with _ | k
    · go_wp2
      go_ret
      exact ⟨En (by rw [HK.out,Ov];rfl),HW.out⟩
    · have F:=AB HL.out (k:=k) (by omega)
      obtain ⟨ad,rfl,QR⟩:=Cb HR.out k (by omega)
      have QW:=QR.up HW.out
      obtain ⟨g0,g1,g2,g3,g4,g5,g6,g7⟩:=QW
      have hle:=F.prev_le
      have hle2:=F.next_le
      rw [F.prev] at g6
      rw [F.next] at g7
      clear F QR
      rcases BS (rc l k).kind 1 with ⟨e1,b1,c1⟩ | ⟨e1,b1,c1⟩
      · go_wp2
        go_ret
        exact ⟨En (by rw [HK.out,Hf (.inl e1.out) hle]),Dx HW.out _⟩
      · rcases BS (rc l k).kind 2 with ⟨e2,b2,c2⟩ | ⟨e2,b2,c2⟩
        · go_wp2
          go_ret
          exact ⟨En (by rw [HK.out,Hf (.inr e2.out) hle]),Dx HW.out _⟩
        · rcases BS (rc l k).kind 6 with ⟨e3,b3,c3⟩ | ⟨e3,b3,c3⟩
          · go_wp2
            go_roundw
            case rel => exact ⟨EG l (k + 1),by omega,rfl,⟨by rw [HK.out,KT e3.out hle2]⟩,⟨Dx HW.out _⟩⟩
            case measure => simp [intOf];omega
          · go_wp2
            go_roundw
            case rel => exact ⟨BK l (k + 1),by omega,rfl,⟨by rw [HK.out,KU e1.out e2.out e3.out hle]⟩,⟨Dx HW.out _⟩⟩
            case measure => simp [intOf];omega
def ints (l : List Nat) : List Int:=l.map fun n : Nat => (n : Int)
theorem OD (l : List Nat) (n : Nat) : ints l ++ [(n : Int)] = ints (l ++ [n]):=by simp [ints]
theorem GZ {l : List Rec} (n : Nat) : (BD l n).length ≤ n:=by
  induction n using Nat.strongRecOn with
  | _ n ih =>
    match n with
    | 0 => rw [Ck];simp
    | n + 1 =>
      rw [BD]
      split
      · have:=ih (BK l (n + 1)) (by omega);simp;omega
      · simp
set_option maxHeartbeats 4000000 in
theorem Hu {w0 w : World} {A : Option Addr} {c : Nat} {l : List Rec} (tx : Int) (hb : Below w0.heap.size w0 w) (hr : Kd.C C8 w0 A l.length l) (hl : AP l = true) : Calls Tryz.prog 149 #[.slice A l.length c, .int .i64 tx] w (V8 w (ints (BD l (Ao l tx l.length)))):=by
  have HR:=As hr
  have HB:=As hb
  have HL:=As hl
  have hm:=Bg hl
  clear hr hb hl
  go_enter Tryz.func149,Tryz.ntmps149
  go_wp2_with (go_at_call 107;refine (IV tx HB.out HR.out).mono ?_;rintro e w1 ⟨rfl,hb1⟩;have HX:=As hb1;clear hb1)
  go_loopw [5,6] (fun v i wr => ∃ (k : Nat) (pre : List Nat),k ≤ l.length ∧ i = .int .i64 (k : Int) ∧ Ac (AR wr w.heap.size v (ints pre)) ∧ Ac (pre ++ BD l k = BD l (Ao l tx l.length)) ∧ Ac (Below w.heap.size w wr)) (fun _ i _ => (intOf i).toNat)
  case atStart => exact ⟨Ao l tx l.length, [],Bb _ _ _,rfl,⟨(AR.nil _ _ : AR _ _ _ [])⟩,⟨rfl⟩,HX⟩
  case round =>
    obtain ⟨k,pre,hk,rfl,HO,HK,HW⟩:=hrel
    have HW0:=As (bj HB.out HW.out)
    rcases k with _ | k
    · go_wp2
      go_ret
      exact ⟨_,rfl,by have:=HK.out;rw [Ck,List.append_nil] at this;rw [← this];exact HO.out,HW.out⟩
    · have F:=AB HL.out (k:=k) (by omega)
      obtain ⟨ad,rfl,QR⟩:=Cb HR.out k (by omega)
      obtain ⟨g0,g1,g2,g3,g4,g5,g6,g7⟩:=QR.up HW0.out
      have hle:=F.prev_le
      have HC:=As (DV F.prev_le)
      have hpl : (ints pre).length ≤ 150:=by
        have:=congrArg List.length HK.out
        rw [List.length_append] at this
        have h2:=GZ (l:=l) (Ao l tx l.length)
        have h3:=Bb l tx l.length
        simp only [ints,List.length_map]
        omega
      have HPL:=As hpl
      have HPR:=As F.prev
      have HQR:=As QR
      clear F QR hpl g0 g1 g2 g3 g4 g5 g6 g7
      go_wp2_with (at_builtin;(refine Dc w.heap.size rfl (.tmp 18) (.tmp 20) 33 3 .i64 8 rfl DW Fs (by omega) _ (ints pre) ((k : Int) + 1) rfl rfl HO.out HW.out HW.out.size (by have:=HPL.out;omega) ?_;intro v1 w1 hown1 hb1 _ _;have HO1:=As hown1;have HW1:=As hb1;obtain ⟨y0,y1,y2,y3,y4,y5,y6,y7⟩:=HQR.out.up (bj HB.out hb1);rw [HPR.out] at y6;clear hown1 hb1))
      go_roundw
      case rel => exact ⟨BK l (k + 1),pre ++ [k + 1],by omega,rfl,⟨by have:=HO1.out;rwa [show ((k : Int) + 1) = ((k + 1 : Nat) : Int) from rfl,OD] at this⟩,⟨by rw [← HK.out,HC.out];simp⟩,HW1⟩
      case measure => simp [intOf];omega
theorem KR {l : List Rec} (n : Nat) : (CW l n).length ≤ n:=by
  induction n using Nat.strongRecOn with
  | _ n ih =>
    match n with
    | 0 => rw [D6];simp
    | n + 1 =>
      rw [CW]
      split
      · split
        · have:=ih (BK l (n + 1)) (by omega);simp;omega
        · simp
      · split
        · split
          · have:=ih (EG l (n + 1)) (by omega);omega
          · simp
        · split
          · have:=ih (BK l (n + 1)) (by omega);omega
          · simp
set_option maxHeartbeats 4000000 in
theorem Kk {w0 w : World} {A : Option Addr} {c : Nat} {l : List Rec} (hb : Below w0.heap.size w0 w) (hr : Kd.C C8 w0 A l.length l) (hl : AP l = true) : Calls Tryz.prog 95 #[.slice A l.length c] w fun e w' => e = .returned (.int .i64 (need l)) ∧ Below w0.heap.size w0 w':=by
  have HR:=As hr
  have HB:=As hb
  have HL:=As hl
  have hm:=Bg hl
  clear hr hb hl
  go_enter Tryz.func95,Tryz.ntmps95
  go_wp2
  go_loopw [3,4] (fun n i wr => ∃ (j a : Nat),j ≤ 3 ∧ i = .int .i64 (4 - j : Int) ∧ n = .int .i64 (a : Int) ∧ a ≤ 200 * (3 - j) ∧ Ac (a + Ik l j = need l) ∧ Ac (Below w0.heap.size w0 wr)) (fun _ i _ => (4 - intOf i).toNat)
  case atStart => exact ⟨3,0,by omega,rfl,rfl,by omega,⟨by simp [need]⟩,HB⟩
  case round =>
    obtain ⟨j,a,hj,rfl,rfl,ha,HK,HW⟩:=hrel
    rcases j with _ | j
    · go_wp2
      go_ret
      exact ⟨En (by rw [← HK.out];simp [Ik]),HW.out⟩
    · have hw : (4 - ((j + 1 : Nat) : Int)) = 3 - (j : Int):=by omega
      rw [hw]
      have h1 : (3 - (j : Int)) ≤ 3:=by omega
      have h2 : 1 ≤ (3 - (j : Int)):=by omega
      obtain ⟨n0,hn0⟩ : ∃ n0,Ao l (3 - (j : Int)) l.length = n0:=⟨_,rfl⟩
      have hle:=Bb l (3 - (j : Int)) l.length
      rw [hn0] at hle
      have hlen:=KR (l:=l) n0
      have HN:=As hn0
      clear hw hn0
      rcases n0 with _ | n0
      all_goals
        go_wp2_with (first | (go_at_call 115;refine (Dt HN.out HW.out HR.out).mono ?_;rintro e w' ⟨rfl,rfl⟩) | (go_at_call 161;refine (FV (by omega) HW.out HR.out HL.out).mono ?_;rintro e w1 ⟨rfl,hb1⟩;have HX:=As hb1;clear hb1))
      · skip
        go_loopw [3,5] (fun n i wr => ∃ (k b : Nat),k ≤ l.length ∧ i = .int .i64 (Bt l k : Int) ∧ n = .int .i64 (b : Int) ∧ b ≤ 350 + 200 * (2 - j) ∧ Ac (b + (CW l k).length = a + (CW l (0)).length) ∧ Ac (Below w0.heap.size w0 wr)) (fun _ i _ => (intOf i).toNat)
        case atStart => exact ⟨0,a,by omega,rfl,by go_num,by omega,⟨rfl⟩,HX⟩
        case round =>
          obtain ⟨k,b,hk,rfl,rfl,hb,HQ,HY⟩:=hrel
          obtain ⟨m,hm'⟩ : ∃ m,Bt l k = m:=⟨_,rfl⟩
          rw [hm']
          rcases m with _ | m
          · have HZ:=As (Gf hm')
            clear hm'
            go_wp2
            go_roundw
            case rel => exact ⟨j,b,by omega,by go_num,rfl,by have:=HQ.out;rw [HZ.out] at this;simp at this;omega,⟨by rw [← HK.out,Ik,HN.out];have:=HQ.out;rw [HZ.out] at this;simp at this ⊢;omega⟩,HY⟩
            case measure => simp [intOf];omega
          · obtain ⟨h3,h4,h5,h6⟩:=LU HL.out hk hm'
            have F:=AB HL.out h4
            obtain ⟨ad,rfl,QR⟩:=Cb HR.out m h4
            obtain ⟨g0,g1,g2,g3,g4,g5,g6,g7⟩:=QR.up HY.out
            have HS:=As h3
            have hpl:=Gz (l:=l) (n:=BK l (m + 1))
            have hbl : b + 1 ≤ 350 + 200 * (2 - j):=by have:=HQ.out;rw [h3] at this;simp at this;omega
            rw [F.prev] at g6
            clear h3 h6 F QR hm'
            go_wp2_with (go_at_call 161;refine (FV (by omega) HY.out HR.out HL.out).mono ?_;rintro e w2 ⟨rfl,hb2⟩;have HX2:=As hb2;clear hb2)
            go_roundw
            case rel => exact ⟨BK l (m + 1),b + 1,by omega,rfl,by go_num,hbl,⟨by rw [← HQ.out,HS.out];simp;omega⟩,HX2⟩
            case measure => simp [intOf];omega
      · skip
        go_loopw [3,5] (fun n i wr => ∃ (k b : Nat),k ≤ l.length ∧ i = .int .i64 (Bt l k : Int) ∧ n = .int .i64 (b : Int) ∧ b ≤ 350 + 200 * (2 - j) ∧ Ac (b + (CW l k).length = a + 1 + (CW l (n0 + 1)).length) ∧ Ac (Below w0.heap.size w0 wr)) (fun _ i _ => (intOf i).toNat)
        case atStart => exact ⟨n0 + 1,a + 1,by omega,rfl,by go_num,by omega,⟨rfl⟩,HX⟩
        case round =>
          obtain ⟨k,b,hk,rfl,rfl,hb,HQ,HY⟩:=hrel
          obtain ⟨m,hm'⟩ : ∃ m,Bt l k = m:=⟨_,rfl⟩
          rw [hm']
          rcases m with _ | m
          · have HZ:=As (Gf hm')
            clear hm'
            go_wp2
            go_roundw
            case rel => exact ⟨j,b,by omega,by go_num,rfl,by have:=HQ.out;rw [HZ.out] at this;simp at this;omega,⟨by rw [← HK.out,Ik,HN.out];have:=HQ.out;rw [HZ.out] at this;simp at this ⊢;omega⟩,HY⟩
            case measure => simp [intOf];omega
          · obtain ⟨h3,h4,h5,h6⟩:=LU HL.out hk hm'
            have F:=AB HL.out h4
            obtain ⟨ad,rfl,QR⟩:=Cb HR.out m h4
            obtain ⟨g0,g1,g2,g3,g4,g5,g6,g7⟩:=QR.up HY.out
            have HS:=As h3
            have hpl:=Gz (l:=l) (n:=BK l (m + 1))
            have hbl : b + 1 ≤ 350 + 200 * (2 - j):=by have:=HQ.out;rw [h3] at this;simp at this;omega
            rw [F.prev] at g6
            clear h3 h6 F QR hm'
            go_wp2_with (go_at_call 161;refine (FV (by omega) HY.out HR.out HL.out).mono ?_;rintro e w2 ⟨rfl,hb2⟩;have HX2:=As hb2;clear hb2)
            go_roundw
            case rel => exact ⟨BK l (m + 1),b + 1,by omega,rfl,by go_num,hbl,⟨by rw [← HQ.out,HS.out];simp;omega⟩,HX2⟩
            case measure => simp [intOf];omega
set_option maxHeartbeats 4000000 in
theorem Ml {w0 w : World} {A : Option Addr} {c : Nat} {l : List Rec} (tx : Int) (hb : Below w0.heap.size w0 w) (hr : Kd.C C8 w0 A l.length l) (hl : AP l = true) : Calls Tryz.prog 174 #[.slice A l.length c, .int .i64 tx] w (V8 w (ints (CW l (Ao l tx l.length)))):=by
  have HR:=As hr
  have HB:=As hb
  have HL:=As hl
  have hm:=Bg hl
  have hnl:=Bb l tx l.length
  clear hr hb hl
  go_enter Tryz.func174,Tryz.ntmps174
  go_wp2_with (first | (go_at_call 107;refine (IV tx HB.out HR.out).mono ?_;rintro e w1 ⟨rfl,hb1⟩;have HX:=As hb1;clear hb1) | (go_at_call 108;refine (IG hnl (Below.refl _ _) (BM HR.out (bj HB.out HX.out)) HL.out).mono ?_;rintro e w2 ⟨rfl,hb2⟩;have HX2:=As (bj HX.out hb2);clear hb2))
  go_loopw [5,6] (fun v i wr => ∃ (k : Nat) (pre : List Nat),k ≤ l.length ∧ i = .int .i64 (Bt l k : Int) ∧ Ac (AR wr w.heap.size v (ints pre)) ∧ Ac (pre ++ CW l k = CW l (Ao l tx l.length)) ∧ Ac (Below w.heap.size w wr)) (fun _ i _ => (intOf i).toNat)
  case atStart => exact ⟨Ao l tx l.length, [],Bb _ _ _,rfl,⟨(AR.nil _ _ : AR _ _ _ [])⟩,⟨rfl⟩,HX2⟩
  case round =>
    obtain ⟨k,pre,hk,rfl,HO,HK,HW⟩:=hrel
    have HW0:=As (bj HB.out HW.out)
    obtain ⟨m,hm'⟩ : ∃ m,Bt l k = m:=⟨_,rfl⟩
    rw [hm']
    rcases m with _ | m
    · have HZ:=As (Gf hm')
      clear hm'
      go_wp2
      go_ret
      exact ⟨_,rfl,by have:=HK.out;rw [HZ.out,List.append_nil] at this;rw [← this];exact HO.out,HW.out⟩
    · obtain ⟨h3,h4,h5,h6⟩:=LU HL.out hk hm'
      have F:=AB HL.out h4
      obtain ⟨ad,rfl,QR⟩:=Cb HR.out m h4
      have HS:=As h3
      have hpl : (ints pre).length ≤ 150:=by
        have:=congrArg List.length HK.out
        rw [List.length_append] at this
        have h2:=KR (l:=l) (Ao l tx l.length)
        simp only [ints,List.length_map]
        omega
      have HPL:=As hpl
      have HPR:=As F.prev
      have HQR:=As QR
      have hpl2:=Gz (l:=l) (n:=BK l (m + 1))
      clear h3 h6 F QR hm' hpl
      go_wp2_with (first | (at_builtin;(refine Dc w.heap.size rfl (.tmp 22) (.tmp 24) 33 3 .i64 8 rfl DW Fs (by omega) _ (ints pre) ((m : Int) + 1) rfl rfl HO.out HW.out HW.out.size (by have:=HPL.out;omega) ?_;intro v1 w1 hown1 hb1 _ _;have HO1:=As hown1;have HW1:=As hb1;obtain ⟨y0,y1,y2,y3,y4,y5,y6,y7⟩:=HQR.out.up (bj HB.out hb1);rw [HPR.out] at y6;clear hown1 hb1)) | (go_at_call 108;refine (IG (n:=BK l (m + 1)) (by omega) (Below.refl _ _) (BM HR.out (bj HB.out HW1.out)) HL.out).mono ?_;rintro e w2 ⟨rfl,hb2⟩;have HX3:=As (bj HW1.out hb2);have HO3:=As (AR.below HO1.out hb2);clear hb2))
      go_roundw
      case rel => exact ⟨BK l (m + 1),pre ++ [m + 1],by omega,rfl,⟨by have:=HO3.out;rwa [show ((m : Int) + 1) = ((m + 1 : Nat) : Int) from rfl,OD] at this⟩,⟨by rw [← HK.out,HS.out];simp⟩,HX3⟩
      case measure => simp [intOf];omega
def Cf (l : List Rec) : Nat → List Int
  | 0 => []
  | j + 1 => (if Ao l (3 - j : Int) l.length = 0 then [] else [3 - (j : Int)]) ++ Cf l j
set_option maxHeartbeats 4000000 in
theorem FP {w0 w : World} {A : Option Addr} {c : Nat} {l : List Rec} (hb : Below w0.heap.size w0 w) (hr : Kd.C C8 w0 A l.length l) : Calls Tryz.prog 47 #[.slice A l.length c] w (V8 w (Cf l 3)):=by
  have HR:=As hr
  have HB:=As hb
  clear hr hb
  go_enter Tryz.func47,Tryz.ntmps47
  go_wp2
  go_loopw [3,4] (fun v i wr => ∃ (j : Nat) (pre : List Int),j ≤ 3 ∧ i = .int .i64 (4 - j : Int) ∧ Ac (pre.length ≤ 3 - j) ∧ Ac (AR wr w.heap.size v pre) ∧ Ac (pre ++ Cf l j = Cf l 3) ∧ Ac (Below w.heap.size w wr)) (fun _ i _ => (4 - intOf i).toNat)
  case atStart => exact ⟨3, [],by omega,rfl,⟨by simp⟩,⟨(AR.nil _ _ : AR _ _ _ [])⟩,⟨rfl⟩,⟨Below.refl _ _⟩⟩
  case round =>
    obtain ⟨j,pre,hj,rfl,HP,HO,HK,HW⟩:=hrel
    rcases j with _ | j
    · go_wp2
      go_ret
      exact ⟨_,rfl,by have:=HK.out;rw [Cf,List.append_nil] at this;rw [← this];exact HO.out,HW.out⟩
    · have hw : (4 - ((j + 1 : Nat) : Int)) = 3 - (j : Int):=by omega
      rw [hw]
      have h1 : (3 - (j : Int)) ≤ 3:=by omega
      have h2 : 1 ≤ (3 - (j : Int)):=by omega
      obtain ⟨n0,hn0⟩ : ∃ n0,Ao l (3 - (j : Int)) l.length = n0:=⟨_,rfl⟩
      have hnb:=Bb l (3 - (j : Int)) l.length
      have hm:=(D5 HR.out).2
      rw [hn0] at hnb
      have HN:=As hn0
      clear hw hn0
      rcases n0 with _ | n0
      · go_wp2_with (go_at_call 107;refine (Gp HN.out (bj HB.out HW.out) HR.out).mono ?_;rintro e w1 ⟨rfl,hb1⟩;have HX:=As (bj HW.out hb1);have HO1:=As (AR.below HO.out hb1);clear hb1)
        go_roundw
        case rel => exact ⟨j,pre,by omega,by go_num,⟨by have:=HP.out;omega⟩,HO1,⟨by rw [← HK.out,Cf,HN.out,if_pos rfl,List.nil_append]⟩,HX⟩
        case measure => simp [intOf];omega
      · go_wp2_with (first | (go_at_call 107;refine (Gp HN.out (bj HB.out HW.out) HR.out).mono ?_;rintro e w1 ⟨rfl,hb1⟩;have HX:=As (bj HW.out hb1);have HO1:=As (AR.below HO.out hb1);clear hb1) | (at_builtin;(refine Dc w.heap.size rfl (.tmp 13) (.tmp 15) 33 3 .i64 8 rfl DW Fs (by omega) _ pre (3 - (j : Int)) rfl rfl HO1.out HX.out HX.out.size (by have:=HP.out;omega) ?_;intro v1 w2 hown1 hb1 _ _;have HO2:=As hown1;have HW2:=As hb1;clear hown1 hb1)))
        go_roundw
        case rel => exact ⟨j,pre ++ [3 - (j : Int)],by omega,by go_num,⟨by have:=HP.out;simp;omega⟩,HO2,⟨by rw [← HK.out,Cf,HN.out,if_neg (by omega)];simp⟩,HW2⟩
        case measure => simp [intOf];omega
def MN (l : List Rec) (txs : List Int) : Nat:=(txs.map fun tx => (CW l (Ao l tx l.length)).length + 1).sum
theorem Mf (l : List Rec) : ∀ j,MN l (Cf l j) = Ik l j
  | 0 => rfl
  | j + 1 => by
    have ih:=Mf l j
    unfold Cf Ik
    split
    · rename_i h
      rw [h,D6]
      simp
      exact ih
    · simp only [MN,List.cons_append,List.nil_append,List.map_cons,List.sum_cons]
      have h2 : ((Cf l j).map fun tx => (CW l (Ao l tx l.length)).length + 1).sum = Ik l j:=ih
      omega
theorem UX {l : List Rec} (hl : l.length ≤ 150) (txs : List Int) : MN l txs ≤ 151 * txs.length:=by
  induction txs with
  | nil => simp [MN]
  | cons t ts ih =>
    simp only [MN,List.map_cons,List.sum_cons,List.length_cons] at ih ⊢
    have h1:=KR (l:=l) (Ao l t l.length)
    have h2:=Bb l t l.length
    omega
theorem Ii (l : List Rec) : ∀ j,(Cf l j).length ≤ j
  | 0 => by simp [Cf]
  | j + 1 => by
    have:=Ii l j
    unfold Cf
    split <;> simp <;> omega
set_option maxHeartbeats 4000000 in
theorem RH {w0 w : World} {A : Option Addr} {c : Nat} {l : List Rec} (hb : Below w0.heap.size w0 w) (hr : Kd.C C8 w0 A l.length l) (hl : AP l = true) : Calls Tryz.prog 134 #[.slice A l.length c] w fun e w' => e = .returned (.int .i64 (need l)) ∧ Below w.heap.size w w':=by
  have HR:=As hr
  have HB:=As hb
  have HL:=As hl
  have hm:=Bg hl
  have hol:=Ii l 3
  obtain ⟨xs,hxs⟩ : ∃ xs,Cf l 3 = xs:=⟨_,rfl⟩
  rw [hxs] at hol
  have HXS:=As hxs
  clear hr hb hl hxs
  go_enter Tryz.func134,Tryz.ntmps134
  go_wp2_with (go_at_call 47;refine (FP HB.out HR.out).mono ?_;rintro e w1 ⟨v,rfl,ho,hb1⟩;rw [HXS.out] at ho;obtain ⟨A1,c1,rfl, -,hC⟩:=ho.reads;have HX:=As hb1;have HC:=As hC;clear ho hb1 hC)
  go_loopw [3,9] (fun a i wr => ∃ (k b : Nat),k ≤ xs.length ∧ i = .int .i64 (k : Int) ∧ a = .int .i64 (b : Int) ∧ b ≤ 151 * k ∧ Ac (b + MN l (xs.drop k) = need l) ∧ Ac (Below w1.heap.size w1 wr)) (fun _ i _ => (xs.length - intOf i).toNat)
  case atStart => exact ⟨0,0,by omega,rfl,rfl,by omega,⟨by rw [List.drop_zero,Nat.zero_add, ← HXS.out];exact Mf l 3⟩,⟨Below.refl _ _⟩⟩
  case round =>
    obtain ⟨k,b,hk,rfl,rfl,hbk,HK,HW⟩:=hrel
    have HW0:=As (bj HX.out HW.out)
    have HW1:=As (bj HB.out HW0.out)
    by_cases hlt : k < xs.length
    · obtain ⟨ad,rfl,g0⟩:=Dk HC.out k hlt
      replace g0:=bc HW.out g0
      have hu:=KR (l:=l) (Ao l (iv xs k) l.length)
      have hu2:=Bb l (iv xs k) l.length
      have HD:=As (JS hlt)
      go_wp2_with (go_at_call 174;refine (Ml (iv xs k) HW1.out HR.out HL.out).mono ?_;rintro e w2 ⟨v,rfl,ho,hb2⟩;obtain ⟨A2,c2,rfl, -, -⟩:=ho.reads;have HX2:=As (bj HW.out hb2);clear ho hb2;simp only [ints,List.length_map])
      go_roundw
      case rel => exact ⟨k + 1,b + ((CW l (Ao l (iv xs k) l.length)).length + 1),by omega,by go_num,by go_num,by omega,⟨by rw [← HK.out,HD.out];simp [MN];omega⟩,HX2⟩
      case measure => simp [intOf];omega
    · have hke : k = xs.length:=by omega
      go_wp2
      go_ret
      exact ⟨En (by rw [← HK.out,hke,List.drop_length];simp [MN]),HW0.out⟩
def Iw (l : List Rec) : Bool:=decide (l.length + need l ≤ 150)
theorem Lc {l : List Rec} (hl : l.length ≤ 150) : need l ≤ 453:=by
  have h1:=UX hl (Cf l 3)
  have h2:=Ii l 3
  have h3:=Mf l 3
  rw [need, ← h3]
  omega
theorem E5 {w0 w : World} {A : Option Addr} {c : Nat} {l : List Rec} (hb : Below w0.heap.size w0 w) (hr : Kd.C C8 w0 A l.length l) (hl : AP l = true) : Calls Tryz.prog 78 #[.slice A l.length c] w fun e w' => e = .returned (.bool (Iw l)) ∧ Below w.heap.size w w':=by
  have HR:=As hr
  have HB:=As hb
  have HL:=As hl
  have hm:=Bg hl
  have hn:=Lc hm
  clear hr hb hl
  go_enter Tryz.func78,Tryz.ntmps78
  go_wp2_with (go_at_call 134;refine (RH HB.out HR.out HL.out).mono ?_;rintro e w1 ⟨rfl,hb1⟩)
  go_ret
  exact ⟨AJ (by rw [Iw];exact decide_eq_decide.mpr (by omega)),hb1⟩
def F5 (l : List Rec) : List Page → List Nat → Bool
  | _, [] => true
  | ps,m :: ms => Bv (Be (pg ps (rc l (m - 1)).page.toNat) (Bq (rc l (m - 1)) 0)) && F5 l (ps.set (rc l (m - 1)).page.toNat (Be (pg ps (rc l (m - 1)).page.toNat) (Bq (rc l (m - 1)) 0))) ms
def Ku (l : List Rec) (txs : List Int) : List Nat:=txs.flatMap fun tx => CW l (Ao l tx l.length)
def IC (l : List Rec) (ps : List Page) : Bool:=F5 l ps (Ku l (Cf l 3))
theorem Sk {l : List Rec} (hl : AP l = true) (n : Nat) : n ≤ l.length → ∀ m ∈ CW l n,0 < m ∧ m ≤ l.length ∧ ((rc l (m - 1)).kind = 1 ∨ (rc l (m - 1)).kind = 2):=by
  induction n using Nat.strongRecOn with
  | _ n ih =>
    intro hn m hm
    cases e : CW l n with
    | nil => rw [e] at hm;cases hm
    | cons a t =>
      obtain ⟨h1,h2,h3,h4⟩:=FM n a t e
      have F:=AB hl (k:=a - 1) (by omega)
      have h5:=F.prev_le
      rw [show a - 1 + 1 = a by omega] at h5
      rw [e] at hm
      rcases List.mem_cons.1 hm with rfl | hm
      · exact ⟨h1,by omega,h3⟩
      · rw [(h4 (by omega)).1] at hm
        exact ih _ (by omega) (by omega) m hm
theorem He {l : List Rec} (hl : AP l = true) {m : Nat} (h0 : 0 < m) (hm : m ≤ l.length) (hk : (rc l (m - 1)).kind = 1 ∨ (rc l (m - 1)).kind = 2) : CU (rc l (m - 1)) = true ∧ 0 ≤ (rc l (m - 1)).page ∧ (rc l (m - 1)).page < 5 ∧ (rc l (m - 1)).slot < 3:=by
  have h:=(AB hl (k:=m - 1) (by omega)).ok
  refine ⟨h,?_⟩
  rw [D7] at h
  omega
theorem TJ {w : World} {b b' g n cap : Nat} {v : Value} {xs : List Int} {ps : List Page} (h : AR w b v xs) (hp : Kq w b' (.slice (some ⟨g,0,none⟩) n cap) ps) : v.ownBlock = none ∨ v.ownBlock ≠ some g:=by
  refine .inr fun e => ?_
  obtain ⟨cells,hc1⟩:=Df h g e
  obtain ⟨inner,ho2⟩:=Kd.Ko hp
  obtain ⟨cells2,hc2⟩:=Df ho2 g rfl
  rw [hc1] at hc2
  injection hc2 with h1
  injection h1 with _ h2
  exact absurd h2 (by decide)
theorem La {w w1 : World} {b b' g n cap : Nat} {v : Value} {xs : List Int} {ps : List Page} (h : AR w b v xs) (hp : Kq w b' (.slice (some ⟨g,0,none⟩) n cap) ps) (hg : w.grownBy w1 (some g)) : AR w1 b v xs:=TI h hg (TJ h hp)
theorem Oy {w : World} {b n c : Nat} {A : Option Addr} {xs : List Int} (h : AR w b (.slice A n c) xs) : Kd.C (Kd.int .i64) w A xs.length xs:=by
  obtain ⟨A1,c1,e,_,hC⟩:=h.reads
  injection e with e1
  subst e1
  exact hC
set_option maxHeartbeats 2000000 in
theorem Pf (r : Rec) (n : Int) (w : World) : Calls Tryz.prog 162 #[r.val, .int .i64 n] w fun e w' => e = .returned (Bq r n).val ∧ Below w.heap.size w w':=by
  go_enter Tryz.func162,Tryz.ntmps162
  go_wp2
  exact bodyPost_ret (v:=(Bq r n).val) (by simp [results,Tryz.results162,go_sem,Bq]) rfl ⟨rfl,by go_grown⟩
theorem PU {P : Program} {c : Code} {Q : Exit → Act → World → Prop} {a : Act} {w : World} (r : Rec) (h : ∀ w1,Below w.heap.size w w1 → w1.heap.size = w.heap.size + 1 → G5 w1 ⟨w.heap.size,0,none⟩ r → c.wp P Q a w1) : c.wp P Q a (w.alloc (.cells #[.int .i64 r.kind, .int .i64 r.tx, .int .i64 r.page, .int .i64 r.slot, .int .i64 r.old, .int .i64 r.new, .int .i64 r.prev, .int .i64 r.next] 98)):=
  h _ ((Below.refl _ _).alloc (Nat.le_refl _) _) (BA _ _) (Gh w r)
theorem Lj {ms : List Nat} {j : Nat} (h : j < ms.length) : iv (ints ms) j = (ms[j] : Int):=by
  simp [iv,ints,List.getD_eq_getElem?_getD,h]
set_option maxRecDepth 100000 in
set_option maxHeartbeats 4000000 in
theorem OL {w0 w : World} {B : Option Addr} {d g cap : Nat} {ps : List Page} {l : List Rec} {b : Bool} (hv : IC l ps = b) (hg : geo ps) (hl : AP l = true) (hO : Kq w w0.heap.size (.slice (some ⟨g,0,none⟩) 5 cap) ps) (hb : Below w0.heap.size w0 w) (hr2 : Kd.C C8 w0 B l.length l) : Calls Tryz.prog 135 #[.slice (some ⟨g,0,none⟩) 5 cap, .slice B l.length d] w fun e w' => e = .returned (.bool b) ∧ Below w0.heap.size w0 w':=by
  have HR2:=As hr2
  have HB0:=As hb
  have HG:=As hg
  have HL:=As hl
  have HO0:=As hO
  have HVV:=As hv
  have hm:=Bg hl
  have hgb : w0.heap.size ≤ g:=by
    obtain ⟨inner,ho⟩:=Kd.Ko hO
    exact Cc ho g rfl
  obtain ⟨xs,hxs⟩ : ∃ xs,Cf l 3 = xs:=⟨_,rfl⟩
  have hol:=Ii l 3
  rw [hxs] at hol
  have HXS:=As hxs
  clear hr2 hb hl hg hO hv hxs
  go_enter Tryz.func135,Tryz.ntmps135
  go_wp2_with (go_at_call 47;refine (FP HB0.out HR2.out).mono ?_;rintro e w1 ⟨v,rfl,ho,hb1⟩;rw [HXS.out] at ho;obtain ⟨A1,c1,rfl, -, -⟩:=ho.reads;have HXO:=As (ho.lower HB0.out.size);have HB1:=As (bj HB0.out hb1);have HO1:=As (Kd.Cm HO0.out hb1);clear ho hb1)
  go_loopw [14] (fun i wr => ∃ (k : Nat) (psk : List Page),k ≤ xs.length ∧ i = .int .i64 (k : Int) ∧ Ac (geo psk) ∧ Ac (Kq wr w0.heap.size (.slice (some ⟨g,0,none⟩) 5 cap) psk) ∧ Ac (IC l ps = F5 l psk (Ku l (xs.drop k))) ∧ Ac (AR wr w0.heap.size (.slice A1 xs.length c1) xs) ∧ Ac (Below w0.heap.size w0 wr)) (fun i _ => (xs.length - intOf i).toNat)
  case atStart => exact ⟨0,ps,by omega,rfl,HG,HO1,⟨by rw [List.drop_zero, ← HXS.out];rfl⟩,HXO,HB1⟩
  case round =>
    obtain ⟨k,psk,hk,rfl,HGp,HOp,HT,HXp,HW⟩:=hrel
    by_cases hlt : k < xs.length
    · obtain ⟨ad,rfl,g0⟩:=Dk (Oy HXp.out) k hlt
      have HD:=As (JS hlt)
      obtain ⟨ms,hms⟩ : ∃ ms,CW l (Ao l (iv xs k) l.length) = ms:=⟨_,rfl⟩
      have hml:=KR (l:=l) (Ao l (iv xs k) l.length)
      have hll:=Bb l (iv xs k) l.length
      rw [hms] at hml
      have HMM:=As (Sk HL.out _ hll)
      rw [hms] at HMM
      have HMN:=As hms
      clear hms
      go_wp2_with (go_at_call 174;refine (Ml (iv xs k) HW.out HR2.out HL.out).mono ?_;rintro e w2 ⟨v,rfl,ho,hb2⟩;rw [HMN.out] at ho;obtain ⟨A2,c2,rfl, -, -⟩:=ho.reads;have HMO:=As (ho.lower HW.out.size);have HB2:=As (bj HW.out hb2);have HO2:=As (Kd.Cm HOp.out hb2);have HX2:=As (HXp.out.below hb2);clear ho hb2;simp only [ints,List.length_map])
      go_loopw [22] (fun i wi => ∃ (j : Nat) (cur : List Page),j ≤ ms.length ∧ i = .int .i64 (j : Int) ∧ Ac (geo cur) ∧ Ac (Kq wi w0.heap.size (.slice (some ⟨g,0,none⟩) 5 cap) cur) ∧ Ac (IC l ps = F5 l cur (ms.drop j ++ Ku l (xs.drop (k + 1)))) ∧ Ac (AR wi w0.heap.size (.slice (some ad) xs.length c1) xs) ∧ Ac (AR wi w0.heap.size (.slice A2 (ints ms).length c2) (ints ms)) ∧ Ac (Below w0.heap.size w0 wi)) (fun i _ => (ms.length - intOf i).toNat)
      case atStart => exact ⟨0,psk,by omega,rfl,HGp,HO2,⟨by rw [HT.out,HD.out,List.drop_zero,Ku,List.flatMap_cons,HMN.out];rfl⟩,HX2,HMO,HB2⟩
      case round =>
        obtain ⟨j,cur,hj,rfl,HGk,HOi,HU2,HXi,HMi,HWi⟩:=hrel
        by_cases hjt : j < ms.length
        · obtain ⟨ad2,rfl,g1⟩:=Dk (Oy HMi.out) j (by simpa [ints] using hjt)
          rw [Lj hjt] at g1
          obtain ⟨n,hn⟩ : ∃ n,ms[j] = n:=⟨_,rfl⟩
          obtain ⟨hn0,hnl,hnk⟩:=HMM.out n (hn ▸ List.getElem_mem hjt)
          have HMS:=As (show ms.drop j = n :: ms.drop (j + 1) by rw [List.drop_eq_getElem_cons hjt,hn])
          rw [hn] at g1
          obtain ⟨hrok,hp0,hp5,hs3⟩:=He HL.out hn0 hnl hnk
          obtain ⟨m,rfl⟩ : ∃ m,n = m + 1:=⟨n - 1,by omega⟩
          obtain ⟨ad3,rfl,QR⟩:=Cb (BM HR2.out HWi.out) m (by omega)
          obtain ⟨z0,z1,z2,z3,z4,z5,z6,z7⟩:=QR
          rw [show ((m + 1 : Nat) : Int) = (m : Int) + 1 from rfl] at g1
          rw [Nat.add_sub_cancel] at hrok hp0 hp5 hs3
          obtain ⟨rb,hrb⟩ : ∃ rb,Bq (rc l m) 0 = rb:=⟨_,rfl⟩
          have hpg : (rc l m).page = rb.page:=by rw [← hrb];rfl
          have hsl : (rc l m).slot = rb.slot:=by rw [← hrb];rfl
          rw [hpg] at hp0 hp5
          rw [hsl] at hs3
          have hpn : rb.page.toNat < 5:=by omega
          have HP:=As hs3
          have HRB : Ac (Bq (rc l (m + 1 - 1)) 0 = rb):=⟨by rw [Nat.add_sub_cancel];exact hrb⟩
          have HPG : Ac ((rc l (m + 1 - 1)).page.toNat = rb.page.toNat):=⟨by rw [Nat.add_sub_cancel,hpg]⟩
          have hback : ∀ w,Calls Tryz.prog 110 #[(rc l m).val, .int .i64 0] w fun e w' => e = .returned rb.val ∧ Below w.heap.size w w':=fun w => hrb ▸ NP (rc l m) 0 w
          have HBK:=As hback
          have HT2:=HVV
          have hml2 : m < l.length:=by omega
          clear hrb hpg hsl hs3 hrok hback hn hnk hnl hn0
          go_wp2_with (first | (go_at_call 110;refine (HBK.out _).mono ?_;rintro e wb ⟨rfl,hbb⟩;have HWb:=As (bj HWi.out hbb);have HOb:=As (Kd.Cm HOi.out hbb);have HXb:=As (HXi.out.below hbb);have HMb:=As (HMi.out.below hbb);clear hbb))
          refine PU rb (fun w3 hb2 hz2 hq2 => ?_)
          have HW3:=As (bj HWb.out hb2)
          have HO3:=As (Kd.Cm HOb.out hb2)
          have HXS3:=As (HXb.out.below hb2)
          have HMS3:=As (HMb.out.below hb2)
          have HQ3:=As hq2
          obtain ⟨x0,x1,x2,x3,x4,x5,x6,x7⟩:=hq2
          simp only [Nat.zero_add] at x1 x2 x3 x4 x5 x6 x7
          obtain ⟨A3,c3,p0,p1,p2,pC, -⟩:=VL HO3.out rb.page.toNat hpn
          have HPC:=As pC
          clear hb2 pC
          obtain ⟨q,hq⟩ : ∃ q,Be (pg cur rb.page.toNat) rb = q:=⟨_,rfl⟩
          have HQ:=As hq
          have hg3:=G7 HGk.out hpn
          have HG3:=As hg3
          have hgw : g < w3.heap.size:=WT HO3.out g rfl
          have hcall : ∀ wx,Below w3.heap.size w3 wx → Calls Tryz.prog 106 #[(pg cur rb.page.toNat).val A3 c3,rb.val] wx (Og wx q):=fun wx hb => HQ.out ▸ Kt rb (by rw [HG3.out];decide) (by rw [HG3.out];have:=HP.out;omega) hb HPC.out
          clear hq hg3
          refine AX (fun lx a wx => (Below w0.heap.size w0 wx ∧ Below w3.heap.size w3 wx) ∧ (Sl 6 38 (fun v wx => ∃ u,v = q.own u ∧ AR wx w3.heap.size u q.vals) lx a wx ∧ Sl 7 10 (fun v wx => ∃ B,v = .pointer (some ⟨B,0,none⟩) ∧ w3.heap.size ≤ B ∧ AY wx B zp (.slice none 0 0)) lx a wx)) 8 rfl (by kernel_rfl) (⟨⟨Aj HW3.out,Aj (Below.refl _ _)⟩,AZ,AZ⟩) (fun HT => ?_)
          refine Ae (i:=0) (v:=?_) HT rfl (by kernel_rfl) rfl (kA Aa (kA (Ab rfl rfl) (Ab rfl rfl))) (by rfl) (fun _ _ _ h => h) (fun lx ax wx hS => ?_) ?_;rotate_left;(obtain ⟨⟨-,hbx⟩, -⟩:=hS;obtain ⟨x0,x1,x2,x3,x4,x5,x6,x7⟩:=HQ3.out.up hbx;simp only [Nat.zero_add] at x1 x2 x3 x4 x5 x6 x7;replace p0:=bc hbx p0;replace p1:=bc hbx p1;replace p2:=bc hbx p2;go_simp;with_reducible rfl);rotate_left;simp only [sc0,sc1]
          refine Ae (i:=1) (v:=?_) HT rfl (by kernel_rfl) rfl (kA Aa (kA (Ab rfl rfl) (Ab rfl rfl))) (by rfl) (fun _ _ _ h => h) (fun lx ax wx hS => ?_) ?_;rotate_left;(obtain ⟨⟨-,hbx⟩, -⟩:=hS;obtain ⟨x0,x1,x2,x3,x4,x5,x6,x7⟩:=HQ3.out.up hbx;simp only [Nat.zero_add] at x1 x2 x3 x4 x5 x6 x7;replace p0:=bc hbx p0;replace p1:=bc hbx p1;replace p2:=bc hbx p2;go_simp;with_reducible rfl);rotate_left;simp only [sc0,sc1]
          refine Ae (i:=2) (v:=?_) HT rfl (by kernel_rfl) rfl (kA Aa (kA (Ab rfl rfl) (Ab rfl rfl))) (by rfl) (fun _ _ _ h => h) (fun lx ax wx hS => ?_) ?_;rotate_left;(obtain ⟨⟨-,hbx⟩, -⟩:=hS;obtain ⟨x0,x1,x2,x3,x4,x5,x6,x7⟩:=HQ3.out.up hbx;simp only [Nat.zero_add] at x1 x2 x3 x4 x5 x6 x7;replace p0:=bc hbx p0;replace p1:=bc hbx p1;replace p2:=bc hbx p2;go_simp;with_reducible rfl);rotate_left;simp only [sc0,sc1]
          refine Ae (i:=3) (v:=?_) HT rfl (by kernel_rfl) rfl (kA Aa (kA (Ab rfl rfl) (Ab rfl rfl))) (by rfl) (fun _ _ _ h => h) (fun lx ax wx hS => ?_) ?_;rotate_left;(obtain ⟨⟨-,hbx⟩, -⟩:=hS;obtain ⟨x0,x1,x2,x3,x4,x5,x6,x7⟩:=HQ3.out.up hbx;simp only [Nat.zero_add] at x1 x2 x3 x4 x5 x6 x7;replace p0:=bc hbx p0;replace p1:=bc hbx p1;replace p2:=bc hbx p2;go_simp;with_reducible rfl);rotate_left;simp only [sc0,sc1]
          refine Ae (i:=4) (v:=?_) HT rfl (by kernel_rfl) rfl (kA Aa (kA (Ab rfl rfl) (Ab rfl rfl))) (by rfl) (fun _ _ _ h => h) (fun lx ax wx hS => ?_) ?_;rotate_left;(obtain ⟨⟨-,hbx⟩, -⟩:=hS;obtain ⟨x0,x1,x2,x3,x4,x5,x6,x7⟩:=HQ3.out.up hbx;simp only [Nat.zero_add] at x1 x2 x3 x4 x5 x6 x7;replace p0:=bc hbx p0;replace p1:=bc hbx p1;replace p2:=bc hbx p2;go_simp;with_reducible rfl);rotate_left;simp only [sc0,sc1]
          refine Ae (i:=5) (v:=?_) HT rfl (by kernel_rfl) rfl (kA Aa (kA (Ab rfl rfl) (Ab rfl rfl))) (by rfl) (fun _ _ _ h => h) (fun lx ax wx hS => ?_) ?_;rotate_left;(obtain ⟨⟨-,hbx⟩, -⟩:=hS;obtain ⟨x0,x1,x2,x3,x4,x5,x6,x7⟩:=HQ3.out.up hbx;simp only [Nat.zero_add] at x1 x2 x3 x4 x5 x6 x7;replace p0:=bc hbx p0;replace p1:=bc hbx p1;replace p2:=bc hbx p2;go_simp;with_reducible rfl);rotate_left;simp only [sc0,sc1]
          refine AQ [6,7] (by kernel_rfl) (fun i hi w4 hS => ?_)
          rcases List.mem_cons.1 hi with rfl | hi
          · refine CV (f:=106) (args:=#[(pg cur rb.page.toNat).val A3 c3,rb.val]) rfl rfl Tryz.func106 (by kernel_rfl) rfl rfl (by rfl) (by simp only [List.map_toArray,List.map_cons,List.map_nil];rfl) ((hcall w4 hS.1.2).mono ?_)
            rintro e w6 ⟨u,rfl,ho,hb⟩
            refine ⟨_,rfl,⟨⟨bj hS.1.1 hb,bj hS.1.2 hb⟩,fun _ => ⟨u,rfl,ho.lower hS.1.2.size⟩,fun h => ?_⟩,?_⟩
            · exact (AA h (by kernel_rfl)).elim
            simp only [sc0,sc1]
            refine AQ [7] (by kernel_rfl) (fun i hi w5 hS => ?_)
            obtain rfl:=List.mem_singleton.1 hi
            refine Bw (w1:=?_) (.pointer (some ⟨w5.heap.size,0,none⟩)) rfl rfl (by rfl) ?_ ?_
            rotate_left
            · go_simp
              with_reducible rfl
            refine ⟨⟨⟨Ah hS.1.1 _,Ah hS.1.2 _⟩,fun h => ?_,fun _ => ⟨w5.heap.size,rfl,hS.1.2.size,AY.mk1 w5 zp _⟩⟩,?_⟩
            · obtain ⟨u1,hu1,ho1⟩:=hS.2.1 (by kernel_rfl)
              exact ⟨u1,hu1,ho1.below (Ah (Below.refl _ _) _)⟩
            simp only [sc0,sc1]
            refine BQ (i:=8) (by kernel_rfl) rfl (fun w7 hS => ?_)
            obtain ⟨⟨h1,h2⟩,h3,h4⟩:=hS
            obtain ⟨u1,hu1,hown⟩:=h3 (by kernel_rfl)
            obtain ⟨B,hB,hBle,hbox⟩:=h4 (by kernel_rfl)
            have hu1 : q.own u = q.own u1:=hu1
            obtain rfl : u = u1:=by simpa using hu1
            obtain rfl : B = w5.heap.size:=by
              have hB : Value.pointer (some ⟨w5.heap.size,0,none⟩) = .pointer (some ⟨B,0,none⟩):=hB
              injection hB with hB
              injection hB with hB
              injection hB with hB
              exact hB.symm
            have H2:=As (Cr h2 hBle q u)
            have H1:=As (Cr (g:=w5.heap.size) h1 (by have:=HW3.out.size;omega) q u)
            have HBX:=As (hbox.Cu q u)
            have HU:=As (Ho hown (Eu hown hbox) q u)
            have HUN:=As (Eu hown hbox)
            have b0:=hbox.c0
            have b1:=hbox.c1
            have b2:=hbox.c2
            have d0:=hbox.frz 0
            have d1:=hbox.frz 1
            have d2:=hbox.frz 2
            obtain ⟨A8,c8,rfl, -, -⟩:=hown.reads
            refine Bh (w1:=?_) rfl (by rfl) ?_ ?_
            rotate_left
            · go_simp
              with_reducible rfl
            refine BB (by kernel_rfl) ?_
            clear hu1 hB h1 h2 h3 h4 hown hbox b0 b1 b2 d0 d1 d2 p0 p1 p2 hcall ho
            obtain ⟨W8,hW8⟩ : ∃ W8,Cu w7 w5.heap.size q (.slice A8 q.vals.length c8) = W8:=⟨_,rfl⟩
            rw [hW8] at H1 H2 HBX HU
            have e8:=hW8
            unfold Cu at e8
            rw [e8]
            clear e8 hW8
            have b0:=HBX.out.c0
            have b1:=HBX.out.c1
            have b2:=HBX.out.c2
            have d0:=HBX.out.frz 0
            obtain ⟨-, -,x2, -, -, -, -, -⟩:=HQ3.out.up H2.out
            simp only [Nat.zero_add] at x2
            have hne : wb.heap.size ≠ w5.heap.size:=by omega
            have hne2 : w5.heap.size ≠ wb.heap.size:=by omega
            have hne3 : g ≠ w5.heap.size:=by omega
            have HLB:=As hBle
            have HLN:=As hpn
            cases hv : Bv q
            · have HV:=As hv
              clear hv
              go_wp2_with (go_at_call 131;refine (Dz HV.out (Below.refl _ _) (Oy HU.out)).mono ?_;rintro e wp ⟨rfl,hbp⟩;have H1p:=As (bj H1.out hbp);clear hbp)
              go_ret
              exact ⟨AJ (by rw [← HT2.out,HU2.out,HMS.out,List.cons_append,F5,HRB.out,HPG.out,HQ.out,HV.out];rfl),H1p.out⟩
            · have HV:=As hv
              clear hv
              go_wp2_with (first | (go_at_call 131;refine (Dz HV.out (Below.refl _ _) (Oy HU.out)).mono ?_;rintro e wp ⟨rfl,hbp⟩;have H1p:=As (bj H1.out hbp);have H2p:=As (bj H2.out hbp);have HUp:=As (HU.out.below hbp);have b0':=(HBX.out.up hbp).c0;have b1':=(HBX.out.up hbp).c1;have b2':=(HBX.out.up hbp).c2;obtain ⟨-, -,x2', -, -, -, -, -⟩:=HQ3.out.up H2p.out;simp only [Nat.zero_add] at x2';clear hbp) | (with_reducible refine QG (.store 81 (.tmp 46) (.tmp 45)) rfl ?_;refine Mw (w0:=w0) (N:=w3.heap.size) (q:=q) rb.page.toNat (Lp HGk.out) rfl rfl (.tmp 46) (.tmp 45) rfl rfl rfl HUp.out HW3.out.size (Kd.Cm HO3.out H2p.out) HLN.out H1p.out ?_;intro w9 hO9 hB9 hg9;have HX9:=As (La (HXS3.out.below H2p.out) (Kd.Cm HO3.out H2p.out) hg9);have HM9:=As (La (HMS3.out.below H2p.out) (Kd.Cm HO3.out H2p.out) hg9);have HO9:=As hO9;have HB9:=As hB9;clear hO9 hB9 hg9))
              go_roundw
              case rel => exact ⟨j + 1,cur.set rb.page.toNat q,by omega,by go_num,⟨by rw [← HQ.out];exact Lm HGk.out (JL HG3.out)⟩,HO9,⟨by rw [HU2.out,HMS.out,List.cons_append,F5,HRB.out,HPG.out,HQ.out,HV.out];rfl⟩,HX9,HM9,HB9⟩
              case measure => simp [intOf];omega
          · obtain rfl:=List.mem_singleton.1 hi
            refine Bw (w1:=?_) (.pointer (some ⟨w4.heap.size,0,none⟩)) rfl rfl (by rfl) ?_ ?_
            rotate_left
            · go_simp
              with_reducible rfl
            refine ⟨⟨⟨Ah hS.1.1 _,Ah hS.1.2 _⟩,fun h => ?_,fun _ => ⟨w4.heap.size,rfl,hS.1.2.size,AY.mk1 w4 zp _⟩⟩,?_⟩
            · exact (AA h (by kernel_rfl)).elim
            simp only [sc0,sc1]
            refine AQ [6] (by kernel_rfl) (fun i hi w5 hS => ?_)
            obtain rfl:=List.mem_singleton.1 hi
            refine CV (f:=106) (args:=#[(pg cur rb.page.toNat).val A3 c3,rb.val]) rfl rfl Tryz.func106 (by kernel_rfl) rfl rfl (by rfl) (by simp only [List.map_toArray,List.map_cons,List.map_nil];rfl) ((hcall w5 hS.1.2).mono ?_)
            rintro e w6 ⟨u,rfl,ho,hb⟩
            refine ⟨_,rfl,⟨⟨bj hS.1.1 hb,bj hS.1.2 hb⟩,fun _ => ⟨u,rfl,ho.lower hS.1.2.size⟩,fun h => ?_⟩,?_⟩
            · obtain ⟨B,hB,hBle,hbox⟩:=hS.2.2 (by kernel_rfl)
              exact ⟨B,hB,hBle,hbox.up hb⟩
            simp only [sc0,sc1]
            refine BQ (i:=8) (by kernel_rfl) rfl (fun w7 hS => ?_)
            obtain ⟨⟨h1,h2⟩,h3,h4⟩:=hS
            obtain ⟨u1,hu1,hown⟩:=h3 (by kernel_rfl)
            obtain ⟨B,hB,hBle,hbox⟩:=h4 (by kernel_rfl)
            have hu1 : q.own u = q.own u1:=hu1
            obtain rfl : u = u1:=by simpa using hu1
            obtain rfl : B = w4.heap.size:=by
              have hB : Value.pointer (some ⟨w4.heap.size,0,none⟩) = .pointer (some ⟨B,0,none⟩):=hB
              injection hB with hB
              injection hB with hB
              injection hB with hB
              exact hB.symm
            have H2:=As (Cr h2 hBle q u)
            have H1:=As (Cr (g:=w4.heap.size) h1 (by have:=HW3.out.size;omega) q u)
            have HBX:=As (hbox.Cu q u)
            have HU:=As (Ho hown (Eu hown hbox) q u)
            have HUN:=As (Eu hown hbox)
            have b0:=hbox.c0
            have b1:=hbox.c1
            have b2:=hbox.c2
            have d0:=hbox.frz 0
            have d1:=hbox.frz 1
            have d2:=hbox.frz 2
            obtain ⟨A8,c8,rfl, -, -⟩:=hown.reads
            refine Bh (w1:=?_) rfl (by rfl) ?_ ?_
            rotate_left
            · go_simp
              with_reducible rfl
            refine BB (by kernel_rfl) ?_
            clear hu1 hB h1 h2 h3 h4 hown hbox b0 b1 b2 d0 d1 d2 p0 p1 p2 hcall ho
            obtain ⟨W8,hW8⟩ : ∃ W8,Cu w7 w4.heap.size q (.slice A8 q.vals.length c8) = W8:=⟨_,rfl⟩
            rw [hW8] at H1 H2 HBX HU
            have e8:=hW8
            unfold Cu at e8
            rw [e8]
            clear e8 hW8
            have b0:=HBX.out.c0
            have b1:=HBX.out.c1
            have b2:=HBX.out.c2
            have d0:=HBX.out.frz 0
            obtain ⟨-, -,x2, -, -, -, -, -⟩:=HQ3.out.up H2.out
            simp only [Nat.zero_add] at x2
            have hne : wb.heap.size ≠ w4.heap.size:=by omega
            have hne2 : w4.heap.size ≠ wb.heap.size:=by omega
            have hne3 : g ≠ w4.heap.size:=by omega
            have HLB:=As hBle
            have HLN:=As hpn
            cases hv : Bv q
            · have HV:=As hv
              clear hv
              go_wp2_with (go_at_call 131;refine (Dz HV.out (Below.refl _ _) (Oy HU.out)).mono ?_;rintro e wp ⟨rfl,hbp⟩;have H1p:=As (bj H1.out hbp);clear hbp)
              go_ret
              exact ⟨AJ (by rw [← HT2.out,HU2.out,HMS.out,List.cons_append,F5,HRB.out,HPG.out,HQ.out,HV.out];rfl),H1p.out⟩
            · have HV:=As hv
              clear hv
              go_wp2_with (first | (go_at_call 131;refine (Dz HV.out (Below.refl _ _) (Oy HU.out)).mono ?_;rintro e wp ⟨rfl,hbp⟩;have H1p:=As (bj H1.out hbp);have H2p:=As (bj H2.out hbp);have HUp:=As (HU.out.below hbp);have b0':=(HBX.out.up hbp).c0;have b1':=(HBX.out.up hbp).c1;have b2':=(HBX.out.up hbp).c2;obtain ⟨-, -,x2', -, -, -, -, -⟩:=HQ3.out.up H2p.out;simp only [Nat.zero_add] at x2';clear hbp) | (with_reducible refine QG (.store 81 (.tmp 46) (.tmp 45)) rfl ?_;refine Mw (w0:=w0) (N:=w3.heap.size) (q:=q) rb.page.toNat (Lp HGk.out) rfl rfl (.tmp 46) (.tmp 45) rfl rfl rfl HUp.out HW3.out.size (Kd.Cm HO3.out H2p.out) HLN.out H1p.out ?_;intro w9 hO9 hB9 hg9;have HX9:=As (La (HXS3.out.below H2p.out) (Kd.Cm HO3.out H2p.out) hg9);have HM9:=As (La (HMS3.out.below H2p.out) (Kd.Cm HO3.out H2p.out) hg9);have HO9:=As hO9;have HB9:=As hB9;clear hO9 hB9 hg9))
              go_roundw
              case rel => exact ⟨j + 1,cur.set rb.page.toNat q,by omega,by go_num,⟨by rw [← HQ.out];exact Lm HGk.out (JL HG3.out)⟩,HO9,⟨by rw [HU2.out,HMS.out,List.cons_append,F5,HRB.out,HPG.out,HQ.out,HV.out];rfl⟩,HX9,HM9,HB9⟩
              case measure => simp [intOf];omega
        · have HJ:=As (show j = ms.length by omega)
          go_wp2
          go_roundw
          case rel => exact ⟨k + 1,cur,by omega,by go_num,HGk,HOi,⟨by rw [HU2.out,HJ.out,List.drop_length,List.nil_append]⟩,HXi,HWi⟩
          case measure => simp [intOf];omega
    · have HE:=As (show k = xs.length by omega)
      go_wp2
      go_ret
      exact ⟨AJ (by rw [← HVV.out,HT.out,HE.out,List.drop_length];rfl),HW.out⟩
def I4 (l : List Rec) : Nat → List Nat
  | 0 => []
  | j + 1 => CW l (Ao l (3 - j : Int) l.length) ++ I4 l j
theorem Jr (l : List Rec) : ∀ j,Ku l (Cf l j) = I4 l j
  | 0 => rfl
  | j + 1 => by
    have ih:=Jr l j
    unfold Cf I4
    split
    · rename_i h
      rw [h,D6,List.nil_append,List.nil_append,ih]
    · rw [Ku,List.flatMap_append]
      rw [Ku] at ih
      rw [ih]
      simp
theorem AR.form {w : World} {b : Nat} {v : Value} {xs : List Int} (h : AR w b v xs) : (v = .slice none 0 0 ∧ xs = []) ∨ ∃ g cap cur,v = .slice (some ⟨g,0,none⟩) xs.length cap ∧ b ≤ g ∧ w.heap[g]? = some (.cells cur 3 (0,0)) ∧ xs.length ≤ cap ∧ cap ≤ maxLen ∧ cur.size = cap * 1 ∧ cur.toList.take xs.length = xs.map (Value.int .i64):=by
  rcases h.2 with ⟨h1,h2⟩ | ⟨g,cap,cur,h1,h2,h3,h4,h5,h6,h7⟩
  · exact .inl ⟨h1,List.eq_nil_of_length_eq_zero h2⟩
  · exact .inr ⟨g,cap,cur,h1,h2,h3,h4,h5,h6,by rw [Nat.mul_one] at h7;exact h7⟩
def FD (xs : List Int) : List Int:=xs.mergeSort fun x y => decide (x ≤ y)
theorem Kv {w : World} {b : Nat} {v : Value} {xs : List Int} (hl : xs.length ≤ 1000) (h : AR w b v xs) : Calls Tryz.prog 168 #[v] w fun e w' => e = .returned (.tuple #[]) ∧ AR w' b v (FD xs) ∧ w.grownBy w' v.ownBlock:=by
  rcases h.form with ⟨rfl,rfl⟩ | ⟨g,cap,cur,rfl,h2,h3,h4,h5,h6,h7⟩
  · refine (Tryz.slices_Sort_int_none none 0 w).mono fun e w' ⟨he,hw⟩ => ⟨he,?_,?_⟩
    · rw [hw,show FD [] = [] by simp [FD]];exact AR.nil _ _
    · rw [hw];exact ⟨rfl,rfl,rfl,Nat.le_refl _,fun _ _ _ => rfl⟩
  · have hg : g < w.heap.size:=(Array.getElem?_eq_some_iff.1 h3).1
    refine (Tryz.slices_Sort_int g 0 cap xs w (holds_of_blockI h3 h7) hg (by omega)).mono fun e w' ⟨he,n,os,hw⟩ => ⟨he,?_,?_⟩
    · rw [hw]
      have hs : (FD xs).length = xs.length:=List.length_mergeSort _
      have:=ownsRow_sortedI (n:=n) (os:=os) (ts:=FD xs) hs h2 h3 h4 h5 h6
      rw [← hs] at this
      rw [AR, ← hs]
      exact this
    · rw [hw];exact grownBy_sortedI _
theorem Uy (d : Array Int) : ∀ n j,j < n → d[j]! ∈ Go.Lib.compactUpTo d n:=by
  intro n
  induction n with
  | zero => intro j hj;omega
  | succ n ih =>
    intro j hj
    rw [Go.Lib.compactUpTo_succ,List.mem_append]
    by_cases e : j < n
    · exact .inl (ih j e)
    · obtain rfl : j = n:=by omega
      by_cases hk : Go.Lib.keeps d j = true
      · exact .inr (by simp [hk])
      · left
        have h1 : ¬ (j = 0 ∨ d[j]! ≠ d[j - 1]!):=by simpa [Go.Lib.keeps] using hk
        have h2 : d[j]! = d[j - 1]!:=by
          by_cases h : d[j]! = d[j - 1]!
          · exact h
          · exact absurd (.inr h) h1
        have h3 : j ≠ 0:=fun h => h1 (.inl h)
        rw [h2]
        exact ih (j - 1) (by omega)
theorem MO (zs : List Int) (x : Int) : x ∈ Go.Lib.compact zs ↔ x ∈ zs:=by
  constructor
  · intro h
    unfold Go.Lib.compact Go.Lib.compactUpTo at h
    obtain ⟨j,hj,rfl⟩:=List.mem_map.1 h
    have hj : j < zs.length:=by simpa using (List.mem_filter.1 hj).1
    simp [hj]
  · intro h
    obtain ⟨j,hj,rfl⟩:=List.getElem_of_mem h
    have:=Uy zs.toArray zs.length j hj
    rw [show zs.toArray[j]! = zs[j] by simp [hj]] at this
    exact this
theorem I7 {w : World} {b : Nat} {v : Value} {xs : List Int} (hl : xs.length ≤ 1000) (h : AR w b v xs) : Calls Tryz.prog 170 #[v] w fun e w' => ∃ v',e = .returned v' ∧ AR w' b v' (Go.Lib.compact xs) ∧ w.grownBy w' v.ownBlock:=by
  rcases h.form with ⟨rfl,rfl⟩ | ⟨g,cap,cur,rfl,h2,h3,h4,h5,h6,h7⟩
  · refine (Tryz.slices_Compact_int_empty none 0 w).mono fun e w' ⟨he,hw⟩ => ⟨_,he,?_,?_⟩
    · rw [hw];exact AR.nil _ _
    · rw [hw];exact ⟨rfl,rfl,rfl,Nat.le_refl _,fun _ _ _ => rfl⟩
  · refine (Tryz.slices_Compact_int g 0 cap xs w (holds_of_blockI h3 h7) (by omega) h4).mono fun e w' ⟨he,n,hw⟩ => ⟨_,he,?_,?_⟩
    · have hc:=Go.Lib.compact_length_le xs
      obtain ⟨ys,hys⟩ : ∃ ys,Go.Lib.compact xs ++ List.replicate (xs.length - (Go.Lib.compact xs).length) (0 : Int) = ys:=⟨_,rfl⟩
      have hyl : ys.length = xs.length:=by rw [← hys];simp;omega
      have:=ownsRow_sortedI (n:=n) (os:=#[]) (ts:=ys) hyl h2 h3 h4 h5 h6
      rw [Go.Sort.grow_empty] at this
      rw [hw,hys]
      have ht:=Us this hc
      rw [Nat.mul_one] at ht
      have hy2 : (ys.map (Value.int .i64)).take (Go.Lib.compact xs).length = nums .i64 (Go.Lib.compact xs):=by
        rw [← hys,List.map_append,List.take_left' (by simp)]
        rfl
      rw [hy2] at ht
      exact ht
    · rw [hw]
      have:=grownBy_sortedI (w:=w) (g:=g) (n:=n) (os:=#[]) (Go.Lib.compact xs ++ List.replicate (xs.length - (Go.Lib.compact xs).length) (0 : Int)).toArray
      rw [Go.Sort.grow_empty] at this
      exact this
theorem U6 (r : Rec) (w : World) : Calls Tryz.prog 120 #[r.val] w fun e w' => e = .returned (.bool true) ∧ Below w.heap.size w w':=by
  go_enter Tryz.func120,Tryz.ntmps120
  go_wp2
  go_ret
  exact ⟨rfl,by go_grown⟩
theorem Hr {r : Rec} {b : Bool} (hv : (r.kind == 3) = b) (w : World) : Calls Tryz.prog 153 #[r.val] w fun e w' => e = .returned (.bool b) ∧ Below w.heap.size w w':=by
  subst hv
  go_enter Tryz.func153,Tryz.ntmps153
  go_wp2
  go_ret
  exact ⟨rfl,by go_grown⟩
theorem KJ {w : World} {A : Option Addr} {n c : Nat} (hm : n ≤ 9223372036854775807) (h : n ≤ c) : Calls Tryz.prog 169 #[.slice A n c] w fun e w' => e = .returned (.slice A n n) ∧ w = w':=by
  go_enter Tryz.func169,Tryz.ntmps169
  go_wp2
  all_goals (go_ret;exact ⟨rfl,rfl⟩)
def WE (w : World) (xs : List Int) (e : Ending) (w' : World) : Prop := ∃ A c,e = .returned (.slice A xs.length c) ∧ Kd.C (Kd.int .i64) w' A xs.length xs ∧ Below w.heap.size w w'
def Bf (l : List Rec) (hold : Rec → Bool) (ks : List Nat) : List Int:=(ks.filter fun m => hold (rc l (m - 1))).map fun m => (rc l (m - 1)).page
def isLoad (r : Rec) : Bool:=r.kind == 3
theorem JY {l : List Rec} (hl : AP l = true) (n : Nat) : n ≤ l.length → ∀ m ∈ BD l n,0 < m ∧ m ≤ l.length:=by
  induction n using Nat.strongRecOn with
  | _ n ih =>
    intro hn m hm
    match n with
    | 0 => rw [Ck] at hm;cases hm
    | n + 1 =>
      have F:=AB hl (k:=n) (by omega)
      have h5:=F.prev_le
      rw [DV h5] at hm
      rcases List.mem_cons.1 hm with rfl | hm
      · omega
      · exact ih _ (by omega) (by omega) m hm
set_option maxHeartbeats 4000000 in
theorem Ny {w0 w : World} {A : Option Addr} {c : Nat} {l : List Rec} (tx : Int) (hb : Below w0.heap.size w0 w) (hr : Kd.C C8 w0 A l.length l) (hl : AP l = true) : Calls Tryz.prog 119 #[.slice A l.length c, .int .i64 tx, .func (.func 120) #[] #[]] w (WE w (Go.Lib.compact (FD (Bf l (fun _ => true) (BD l (Ao l tx l.length)))))):=by
  have HR:=As hr
  have HB:=As hb
  have HL:=As hl
  have hm:=Bg hl
  obtain ⟨ks,hks⟩ : ∃ ks,BD l (Ao l tx l.length) = ks:=⟨_,rfl⟩
  have hkl:=GZ (l:=l) (Ao l tx l.length)
  have hll:=Bb l tx l.length
  rw [hks] at hkl
  have HKS:=As hks
  have HMM:=As (JY hl _ hll)
  rw [hks] at HMM
  clear hr hb hl hks
  go_enter Tryz.func119,Tryz.ntmps119
  go_wp2_with (go_at_call 149;refine (Hu tx HB.out HR.out HL.out).mono ?_;rintro e w1 ⟨v,rfl,ho,hb1⟩;rw [HKS.out] at ho;obtain ⟨A1,c1,rfl, -,hC⟩:=ho.reads;have HC:=As hC;have HX:=As hb1;clear ho hb1 hC;simp only [ints,List.length_map])
  go_loopw [7,15] (fun v i wr => ∃ j : Nat,j ≤ ks.length ∧ i = .int .i64 (j : Int) ∧ Ac (AR wr w1.heap.size v (Bf l (fun _ => true) (ks.take j))) ∧ Ac (Below w1.heap.size w1 wr)) (fun _ i _ => (ks.length - intOf i).toNat)
  case atStart => exact ⟨0,by omega,rfl,⟨AR.nil _ _⟩,⟨Below.refl _ _⟩⟩
  case round =>
    obtain ⟨j,hj,rfl,HO,HW⟩:=hrel
    have HWW:=As (bj HX.out HW.out)
    have HW0:=As (bj HB.out HWW.out)
    by_cases hlt : j < ks.length
    · obtain ⟨ad,rfl,g0⟩:=Dk HC.out j (by simpa [ints] using hlt)
      replace g0:=bc HW.out g0
      rw [Lj hlt] at g0
      obtain ⟨n,hn⟩ : ∃ n,ks[j] = n:=⟨_,rfl⟩
      obtain ⟨hn0,hnl⟩:=HMM.out n (hn ▸ List.getElem_mem hlt)
      have HT:=As (show ks.take (j + 1) = ks.take j ++ [n] by rw [List.take_succ_eq_append_getElem hlt,hn])
      rw [hn] at g0
      obtain ⟨m,rfl⟩ : ∃ m,n = m + 1:=⟨n - 1,by omega⟩
      rw [show ((m + 1 : Nat) : Int) = (m : Int) + 1 from rfl] at g0
      have hml : m < l.length:=by omega
      obtain ⟨ad2,rfl,QR⟩:=Cb HR.out m hml
      obtain ⟨z0,z1,z2,z3,z4,z5,z6,z7⟩:=QR.up HW0.out
      have hpl : (Bf l (fun _ => true) (ks.take j)).length ≤ 150:=by
        rw [Bf,List.length_map]
        refine Nat.le_trans (List.length_filter_le _ _) ?_
        rw [List.length_take]
        omega
      have HPL:=As hpl
      clear hn hn0 hnl hpl QR
      go_wp2_with (first | (with_reducible refine Ct (rc l m) ?_;intro w2 hb2 hz2 hq2;have HW3:=As (bj HW.out hb2);have HO3:=As (AR.below HO.out hb2);have HQ3:=As hq2;obtain ⟨x0,x1,x2,x3,x4,x5,x6,x7⟩:=hq2;simp only [Nat.zero_add] at x1 x2 x3 x4 x5 x6 x7;clear hb2) | (go_at_call 120;refine (U6 (rc l m) _).mono ?_;rintro e w3 ⟨rfl,hb3⟩;have HW2:=As (bj HW3.out hb3);have HO2:=As (AR.below HO3.out hb3);obtain ⟨-, -,y2, -, -, -, -, -⟩:=HQ3.out.up hb3;simp only [Nat.zero_add] at y2;clear hb3) | (at_builtin;(refine Dc w1.heap.size rfl (.tmp 27) (.tmp 30) 33 3 .i64 8 rfl DW Fs (by omega) _ (Bf l (fun _ => true) (ks.take j)) (rc l m).page rfl rfl HO2.out HW2.out HW2.out.size (by have:=HPL.out;omega) ?_;intro v1 w4 hown1 hb1 _ _;have HO4:=As hown1;have HW4:=As hb1;clear hown1 hb1)))
      go_roundw
      case rel => exact ⟨j + 1,by omega,by go_num,⟨by rw [HT.out,show Bf l (fun _ => true) (ks.take j ++ [m + 1]) = Bf l (fun _ => true) (ks.take j) ++ [(rc l m).page] by simp [Bf]];exact HO4.out⟩,HW4⟩
      case measure => simp [intOf];omega
    · have HE:=As (show j = ks.length by omega)
      have hps : (Bf l (fun _ => true) (ks.take j)).length ≤ 150:=by
        rw [Bf,List.length_map]
        refine Nat.le_trans (List.length_filter_le _ _) ?_
        rw [List.length_take]
        omega
      have HPS:=As hps
      clear hps
      go_wp2_with (first | (go_at_call 168;refine (Kv (by have:=HPS.out;omega) HO.out).mono ?_;rintro e w5 ⟨rfl,ho,hg⟩;have HW5:=As (HW.out.grown hg HW.out.size (fun k hk => HO.out.base hk));have HO5:=As ho;clear ho hg) | (go_at_call 170;refine (I7 (by have:=HPS.out;rw [FD,List.length_mergeSort];omega) HO5.out).mono ?_;rintro e w6 ⟨v6,rfl,ho,hg⟩;have HW6:=As (HW5.out.grown hg HW5.out.size (fun k hk => HO5.out.base hk));obtain ⟨A6,c6,rfl,hc6,hC6⟩:=ho.reads;have HC6:=As hC6;have HL6:=As hc6;clear ho hg hC6 hc6) | (go_at_call 169;refine (KJ (D5 HC6.out).2 HL6.out).mono ?_;rintro e w7 ⟨rfl,rfl⟩))
      go_ret
      have hj : ks.take j = BD l (Ao l tx l.length):=by rw [HE.out,List.take_length,HKS.out]
      rw [← hj]
      exact ⟨A6,_,rfl,HC6.out,bj HX.out HW6.out⟩
set_option maxHeartbeats 4000000 in
theorem M6 {w0 w : World} {A : Option Addr} {c : Nat} {l : List Rec} (tx : Int) (hb : Below w0.heap.size w0 w) (hr : Kd.C C8 w0 A l.length l) (hl : AP l = true) : Calls Tryz.prog 119 #[.slice A l.length c, .int .i64 tx, .func (.func 153) #[] #[]] w (WE w (Go.Lib.compact (FD (Bf l (isLoad) (BD l (Ao l tx l.length)))))):=by
  have HR:=As hr
  have HB:=As hb
  have HL:=As hl
  have hm:=Bg hl
  obtain ⟨ks,hks⟩ : ∃ ks,BD l (Ao l tx l.length) = ks:=⟨_,rfl⟩
  have hkl:=GZ (l:=l) (Ao l tx l.length)
  have hll:=Bb l tx l.length
  rw [hks] at hkl
  have HKS:=As hks
  have HMM:=As (JY hl _ hll)
  rw [hks] at HMM
  clear hr hb hl hks
  go_enter Tryz.func119,Tryz.ntmps119
  go_wp2_with (go_at_call 149;refine (Hu tx HB.out HR.out HL.out).mono ?_;rintro e w1 ⟨v,rfl,ho,hb1⟩;rw [HKS.out] at ho;obtain ⟨A1,c1,rfl, -,hC⟩:=ho.reads;have HC:=As hC;have HX:=As hb1;clear ho hb1 hC;simp only [ints,List.length_map])
  go_loopw [7,15] (fun v i wr => ∃ j : Nat,j ≤ ks.length ∧ i = .int .i64 (j : Int) ∧ Ac (AR wr w1.heap.size v (Bf l (isLoad) (ks.take j))) ∧ Ac (Below w1.heap.size w1 wr)) (fun _ i _ => (ks.length - intOf i).toNat)
  case atStart => exact ⟨0,by omega,rfl,⟨AR.nil _ _⟩,⟨Below.refl _ _⟩⟩
  case round =>
    obtain ⟨j,hj,rfl,HO,HW⟩:=hrel
    have HWW:=As (bj HX.out HW.out)
    have HW0:=As (bj HB.out HWW.out)
    by_cases hlt : j < ks.length
    · obtain ⟨ad,rfl,g0⟩:=Dk HC.out j (by simpa [ints] using hlt)
      replace g0:=bc HW.out g0
      rw [Lj hlt] at g0
      obtain ⟨n,hn⟩ : ∃ n,ks[j] = n:=⟨_,rfl⟩
      obtain ⟨hn0,hnl⟩:=HMM.out n (hn ▸ List.getElem_mem hlt)
      have HT:=As (show ks.take (j + 1) = ks.take j ++ [n] by rw [List.take_succ_eq_append_getElem hlt,hn])
      rw [hn] at g0
      obtain ⟨m,rfl⟩ : ∃ m,n = m + 1:=⟨n - 1,by omega⟩
      rw [show ((m + 1 : Nat) : Int) = (m : Int) + 1 from rfl] at g0
      have hml : m < l.length:=by omega
      obtain ⟨ad2,rfl,QR⟩:=Cb HR.out m hml
      obtain ⟨z0,z1,z2,z3,z4,z5,z6,z7⟩:=QR.up HW0.out
      have hpl : (Bf l (isLoad) (ks.take j)).length ≤ 150:=by
        rw [Bf,List.length_map]
        refine Nat.le_trans (List.length_filter_le _ _) ?_
        rw [List.length_take]
        omega
      have HPL:=As hpl
      clear hn hn0 hnl hpl QR
      cases hv : (rc l m).kind == 3
      · have HV:=As hv
        clear hv
        go_wp2_with (first | (with_reducible refine Ct (rc l m) ?_;intro w2 hb2 hz2 hq2;have HW3:=As (bj HW.out hb2);have HO3:=As (AR.below HO.out hb2);have HQ3:=As hq2;obtain ⟨x0,x1,x2,x3,x4,x5,x6,x7⟩:=hq2;simp only [Nat.zero_add] at x1 x2 x3 x4 x5 x6 x7;clear hb2) | (go_at_call 153;refine (Hr HV.out _).mono ?_;rintro e w3 ⟨rfl,hb3⟩;have HW2:=As (bj HW3.out hb3);have HO2:=As (AR.below HO3.out hb3);obtain ⟨-, -,y2, -, -, -, -, -⟩:=HQ3.out.up hb3;simp only [Nat.zero_add] at y2;clear hb3))
        go_roundw
        case rel => exact ⟨j + 1,by omega,by go_num,⟨by rw [HT.out,show Bf l isLoad (ks.take j ++ [m + 1]) = Bf l isLoad (ks.take j) by have hv:=HV.out;simp [Bf,List.filter_append,isLoad,hv]];exact HO2.out⟩,HW2⟩
        case measure => simp [intOf];omega
      · have HV:=As hv
        clear hv
        go_wp2_with (first | (with_reducible refine Ct (rc l m) ?_;intro w2 hb2 hz2 hq2;have HW3:=As (bj HW.out hb2);have HO3:=As (AR.below HO.out hb2);have HQ3:=As hq2;obtain ⟨x0,x1,x2,x3,x4,x5,x6,x7⟩:=hq2;simp only [Nat.zero_add] at x1 x2 x3 x4 x5 x6 x7;clear hb2) | (go_at_call 153;refine (Hr HV.out _).mono ?_;rintro e w3 ⟨rfl,hb3⟩;have HW2:=As (bj HW3.out hb3);have HO2:=As (AR.below HO3.out hb3);obtain ⟨-, -,y2, -, -, -, -, -⟩:=HQ3.out.up hb3;simp only [Nat.zero_add] at y2;clear hb3) | (at_builtin;(refine Dc w1.heap.size rfl (.tmp 27) (.tmp 30) 33 3 .i64 8 rfl DW Fs (by omega) _ (Bf l (isLoad) (ks.take j)) (rc l m).page rfl rfl HO2.out HW2.out HW2.out.size (by have:=HPL.out;omega) ?_;intro v1 w4 hown1 hb1 _ _;have HO4:=As hown1;have HW4:=As hb1;clear hown1 hb1)))
        go_roundw
        case rel => exact ⟨j + 1,by omega,by go_num,⟨by rw [HT.out,show Bf l isLoad (ks.take j ++ [m + 1]) = Bf l isLoad (ks.take j) ++ [(rc l m).page] by have hv:=HV.out;simp [Bf,List.filter_append,isLoad,hv]];exact HO4.out⟩,HW4⟩
        case measure => simp [intOf];omega
    · have HE:=As (show j = ks.length by omega)
      have hps : (Bf l (isLoad) (ks.take j)).length ≤ 150:=by
        rw [Bf,List.length_map]
        refine Nat.le_trans (List.length_filter_le _ _) ?_
        rw [List.length_take]
        omega
      have HPS:=As hps
      clear hps
      go_wp2_with (first | (go_at_call 168;refine (Kv (by have:=HPS.out;omega) HO.out).mono ?_;rintro e w5 ⟨rfl,ho,hg⟩;have HW5:=As (HW.out.grown hg HW.out.size (fun k hk => HO.out.base hk));have HO5:=As ho;clear ho hg) | (go_at_call 170;refine (I7 (by have:=HPS.out;rw [FD,List.length_mergeSort];omega) HO5.out).mono ?_;rintro e w6 ⟨v6,rfl,ho,hg⟩;have HW6:=As (HW5.out.grown hg HW5.out.size (fun k hk => HO5.out.base hk));obtain ⟨A6,c6,rfl,hc6,hC6⟩:=ho.reads;have HC6:=As hC6;have HL6:=As hc6;clear ho hg hC6 hc6) | (go_at_call 169;refine (KJ (D5 HC6.out).2 HL6.out).mono ?_;rintro e w7 ⟨rfl,rfl⟩))
      go_ret
      have hj : ks.take j = BD l (Ao l tx l.length):=by rw [HE.out,List.take_length,HKS.out]
      rw [← hj]
      exact ⟨A6,_,rfl,HC6.out,bj HX.out HW6.out⟩
theorem Pt (l : List Rec) (n : Nat) (p : Int) : (Go.Lib.compact (FD (Bf l (fun _ => true) (BD l n)))).contains p = Gr l n p:=by
  rw [Bool.eq_iff_iff,List.contains_iff_mem,MO,FD,List.mem_mergeSort,Gr,List.any_eq_true,Bf,List.mem_map]
  simp
theorem Kl (l : List Rec) (n : Nat) (p : Int) : (Go.Lib.compact (FD (Bf l isLoad (BD l n)))).contains p = EP l n p:=by
  rw [Bool.eq_iff_iff,List.contains_iff_mem,MO,FD,List.mem_mergeSort,EP,List.any_eq_true,Bf,List.mem_map]
  simp [isLoad,and_assoc]
def FE (l : List Rec) (page : Int) : List Int → Int → Bool → Int × Bool
  | [],by_,ok => (by_,ok)
  | tx :: txs,by_,ok => if Gr l (Ao l tx l.length) page = true then FE l page txs tx (by_ == 0) else FE l page txs by_ ok
def X4 (w : World) (r : Int × Bool) (e : Ending) (w' : World) : Prop:=e = .returned (.tuple #[.int .i64 r.1, .bool r.2]) ∧ Below w.heap.size w w'
set_option maxHeartbeats 4000000 in
theorem F8 {w0 w : World} {A : Option Addr} {c : Nat} {l : List Rec} (page : Int) (hb : Below w0.heap.size w0 w) (hr : Kd.C C8 w0 A l.length l) (hl : AP l = true) : Calls Tryz.prog 60 #[.slice A l.length c, .int .i64 page] w (X4 w (FE l page (Cf l 3) 0 true)):=by
  have HR:=As hr
  have HB:=As hb
  have HL:=As hl
  have hm:=Bg hl
  obtain ⟨xs,hxs⟩ : ∃ xs,Cf l 3 = xs:=⟨_,rfl⟩
  have hol:=Ii l 3
  rw [hxs] at hol
  have HXS:=As hxs
  clear hr hb hl hxs
  go_enter Tryz.func60,Tryz.ntmps60
  go_wp2_with (go_at_call 47;refine (FP HB.out HR.out).mono ?_;rintro e w1 ⟨v,rfl,ho,hb1⟩;rw [HXS.out] at ho;obtain ⟨A1,c1,rfl, -,hC⟩:=ho.reads;have HC:=As hC;have HX:=As hb1;clear ho hb1 hC)
  go_loopw [6,7,13] (fun b o i wr => ∃ (k : Nat) (bi : Int) (ok : Bool),k ≤ xs.length ∧ i = .int .i64 (k : Int) ∧ b = .int .i64 bi ∧ o = .bool ok ∧ Ac (FE l page (Cf l 3) 0 true = FE l page (xs.drop k) bi ok) ∧ Ac (Below w1.heap.size w1 wr)) (fun _ _ i _ => (xs.length - intOf i).toNat)
  case atStart => exact ⟨0,0,true,by omega,rfl,rfl,rfl,⟨by rw [HXS.out,List.drop_zero]⟩,⟨Below.refl _ _⟩⟩
  case round =>
    obtain ⟨k,bi,ok,hk,rfl,rfl,rfl,HK,HW⟩:=hrel
    have HWW:=As (bj HX.out HW.out)
    have HW0:=As (bj HB.out HWW.out)
    by_cases hlt : k < xs.length
    · obtain ⟨ad,rfl,g0⟩:=Dk HC.out k hlt
      replace g0:=bc HW.out g0
      have HD:=As (JS hlt)
      cases hv : Gr l (Ao l (iv xs k) l.length) page
      all_goals
        have HV:=As hv
        clear hv
        go_wp2_with (first | (go_at_call 119;refine (Ny (iv xs k) HW0.out HR.out HL.out).mono ?_;rintro e w2 ⟨A2,c2,rfl,hC2,hb2⟩;have HC2:=As hC2;have HW2:=As (bj HW.out hb2);clear hC2 hb2) | (go_at_call 118;refine (JH page (Below.refl _ _) HC2.out).mono ?_;rintro e w3 ⟨rfl,rfl⟩;rw [Pt,HV.out]))
        go_roundw
      case rel => exact ⟨k + 1,bi,ok,by omega,by go_num,rfl,rfl,⟨by rw [HK.out,HD.out,FE,HV.out];rfl⟩,HW2⟩
      case measure => simp [intOf];omega
      case rel => exact ⟨k + 1,iv xs k,bi == 0,by omega,by go_num,rfl,rfl,⟨by rw [HK.out,HD.out,FE,HV.out];rfl⟩,HW2⟩
      case measure => simp [intOf];omega
    · have HE:=As (show k = xs.length by omega)
      go_wp2
      go_ret2
      exact ⟨by rw [HK.out,HE.out,List.drop_length];rfl,HWW.out⟩
set_option maxRecDepth 100000 in
set_option maxHeartbeats 4000000 in
theorem O0 {w0 w : World} {A : Option Addr} {c bl bp : Nat} {l : List Rec} (tx page : Int) {b : Bool} (hv : EP l (Ao l tx l.length) page = b) (hb : Below w0.heap.size w0 w) (hr : Kd.C C8 w0 A l.length l) (hl : AP l = true) (h1 : w.cell? ⟨bl,0,none⟩ = some (.slice A l.length c)) (h2 : w.cell? ⟨bp,0,none⟩ = some (.int .i64 page)) : Calls Tryz.prog 175 #[.int .i64 tx, .pointer (some ⟨bl,0,none⟩), .pointer (some ⟨bp,0,none⟩)] w fun e w' => e = .returned (.bool b) ∧ Below w.heap.size w w':=by
  have HR:=As hr
  have HB:=As hb
  have HL:=As hl
  have HV:=As hv
  clear hr hb hl hv
  go_enter Tryz.func175,Tryz.ntmps175
  go_wp2
  obtain ⟨zs,hzs⟩ : ∃ zs,Go.Lib.compact (FD (Bf l isLoad (BD l (Ao l tx l.length)))) = zs:=⟨_,rfl⟩
  have HZ : Ac (zs.contains page = b):=⟨by rw [← hzs,Kl,HV.out]⟩
  have hcall : ∀ wx,Below w.heap.size w wx → Calls Tryz.prog 119 #[.slice A l.length c, .int .i64 tx, .func (.func 153) #[] #[]] wx (WE wx zs):=fun wx hb => hzs ▸ M6 tx (bj HB.out hb) HR.out HL.out
  clear hzs
  refine AX (fun lx a wx => Below w.heap.size w wx ∧ Sl 2 7 (fun v wx => ∃ A2 c2,v = .slice A2 zs.length c2 ∧ Kd.C (Kd.int .i64) wx A2 zs.length zs) lx a wx) 5 rfl (by kernel_rfl) (⟨Aj (Below.refl _ _),AZ⟩) (fun HT => ?_)
  refine Ae (i:=0) (v:=?_) HT rfl (by kernel_rfl) rfl (kA Aa (Ab rfl rfl)) (by rfl) (fun _ _ _ h => h) (fun lx ax wx hS => ?_) ?_;rotate_left;(have hbx:=hS.1;clear hS;replace h1:=bc hbx h1;replace h2:=bc hbx h2;go_simp;with_reducible rfl);rotate_left;simp only [sc0,sc1]
  refine Ae (i:=1) (v:=?_) HT rfl (by kernel_rfl) rfl (kA Aa (Ab rfl rfl)) (by rfl) (fun _ _ _ h => h) (fun lx ax wx hS => ?_) ?_;rotate_left;(have hbx:=hS.1;clear hS;replace h1:=bc hbx h1;replace h2:=bc hbx h2;go_simp;with_reducible rfl);rotate_left;simp only [sc0,sc1]
  refine Ae (i:=3) (v:=?_) HT rfl (by kernel_rfl) rfl (kA Aa (Ab rfl rfl)) (by rfl) (fun _ _ _ h => h) (fun lx ax wx hS => ?_) ?_;rotate_left;(have hbx:=hS.1;clear hS;replace h1:=bc hbx h1;replace h2:=bc hbx h2;go_simp;with_reducible rfl);rotate_left;simp only [sc0,sc1]
  refine BR (i:=2) (f:=119) (args:=#[.slice A l.length c, .int .i64 tx, .func (.func 153) #[] #[]]) (fun v => ∃ A2 c2,v = .slice A2 zs.length c2) rfl (by kernel_rfl) rfl Tryz.func119 (by kernel_rfl) rfl rfl (by rfl) (by simp only [List.map_toArray,List.map_cons,List.map_nil];rfl) (fun wx hS => (hcall wx hS.1).mono (by rintro e w6 ⟨A2,c2,rfl,hC,hb⟩;exact ⟨_,rfl,⟨A2,c2,rfl⟩,bj hS.1 hb,fun _ => ⟨A2,c2,rfl,hC⟩⟩)) (fun vx hg => ?_);simp only [sc0,sc1]
  obtain ⟨A2,c2,rfl⟩:=hg
  refine BR (i:=4) (f:=118) (args:=#[.slice A2 zs.length c2, .int .i64 page]) (fun v => v = .bool b) rfl (by kernel_rfl) rfl Tryz.func118 (by kernel_rfl) rfl rfl (by rfl) (by simp only [List.map_toArray,List.map_cons,List.map_nil];rfl) (fun wx hS => (by obtain ⟨A3,c3,e3,hC⟩:=hS.2 (by kernel_rfl);have e3 : Value.slice A2 zs.length c2 = .slice A3 zs.length c3:=e3;injection e3 with e4;subst e4;exact (JH page (Below.refl _ _) hC).mono (by rintro e w6 ⟨rfl,rfl⟩;exact ⟨_,rfl,by rw [HZ.out],hS.1,fun _ => ⟨A2,c2,rfl,hC⟩⟩))) (fun vx hg => ?_);simp only [sc0,sc1]
  subst hg
  refine BQ (i:=5) (by kernel_rfl) rfl (fun wx hS => ?_)
  refine Bw (w1:=wx) (.bool b) rfl rfl (by rfl) (by go_simp) ?_
  refine BB (by kernel_rfl) ?_
  go_wp2
  go_ret
  exact ⟨rfl,hS.1⟩
theorem Ot (w : World) (u v : Value) (T U : Nat) (hu : u.oneCell' = true) (hv : v.oneCell' = true) : ((w.alloc (.cells #[u] T)).alloc (.cells #[v] U)).cell? ⟨w.heap.size,0,none⟩ = some u ∧ ((w.alloc (.cells #[u] T)).alloc (.cells #[v] U)).cell? ⟨w.heap.size + 1,0,none⟩ = some v:=by
  constructor <;> go_simp
def Gn (l : List Rec) (page : Int) (txs : List Int) : Bool:=txs.any fun tx => EP l (Ao l tx l.length) page
set_option maxRecDepth 100000 in
set_option maxHeartbeats 4000000 in
theorem Pn {w0 w : World} {A B : Option Addr} {c d bl bp : Nat} {l : List Rec} {xs : List Int} (page : Int) (hb : Below w0.heap.size w0 w) (hr : Kd.C C8 w0 A l.length l) (hl : AP l = true) (h1 : w.cell? ⟨bl,0,none⟩ = some (.slice A l.length c)) (h2 : w.cell? ⟨bp,0,none⟩ = some (.int .i64 page)) (hx : Kd.C (Kd.int .i64) w B xs.length xs) : Calls Tryz.prog 178 #[.slice B xs.length d, .func (.func 175) #[] #[.pointer (some ⟨bl,0,none⟩), .pointer (some ⟨bp,0,none⟩)]] w (V6 (Gn l page xs) w):=by
  have HR:=As hr
  have HB:=As hb
  have HL:=As hl
  have HX:=As hx
  have H1:=As h1
  have H2:=As h2
  have hm:=(D5 hx).2
  clear hr hb hl hx h1 h2
  go_enter Tryz.func178,Tryz.ntmps178
  go_wp2
  go_loopw [8] (fun i wr => ∃ k : Nat,k ≤ xs.length ∧ i = .int .i64 (k : Int) ∧ Ac (Gn l page xs = Gn l page (xs.drop k)) ∧ Ac (Below w.heap.size w wr)) (fun i _ => (xs.length - intOf i).toNat)
  case atStart => exact ⟨0,Nat.zero_le _,rfl,⟨rfl⟩,⟨Below.refl _ _⟩⟩
  case round =>
    obtain ⟨k,hk,rfl,HK,HW⟩:=hrel
    by_cases hlt : k < xs.length
    · obtain ⟨ad,rfl,g0⟩:=Dk HX.out k hlt
      replace g0:=bc HW.out g0
      have HD:=As (JS hlt)
      cases hp : EP l (Ao l (iv xs k) l.length) page
      all_goals
        have HP:=As hp
        clear hp
        go_wp2_with (go_at_call 175;refine (O0 (iv xs k) page HP.out (bj HB.out HW.out) HR.out HL.out (bc HW.out H1.out) (bc HW.out H2.out)).mono ?_;rintro e w1 ⟨rfl,hb1⟩;have HW1:=As (bj HW.out hb1);clear hb1)
      · go_roundw
        case rel => exact ⟨k + 1,by omega,by go_num,⟨by rw [HK.out,HD.out,Gn,List.any_cons,HP.out];rfl⟩,HW1⟩
        case measure => simp [intOf];omega
      · go_ret
        exact ⟨k,rfl,by rw [HK.out,HD.out,Gn,List.any_cons,HP.out];simp,HW1.out⟩
    · have hke : k = xs.length:=by omega
      go_wp2
      go_ret
      exact ⟨-1,rfl,by rw [HK.out,hke,List.drop_length];rfl,HW.out⟩
theorem MX {w0 w : World} {A B : Option Addr} {c d bl bp : Nat} {l : List Rec} {xs : List Int} (page : Int) (hb : Below w0.heap.size w0 w) (hr : Kd.C C8 w0 A l.length l) (hl : AP l = true) (h1 : w.cell? ⟨bl,0,none⟩ = some (.slice A l.length c)) (h2 : w.cell? ⟨bp,0,none⟩ = some (.int .i64 page)) (hx : Kd.C (Kd.int .i64) w B xs.length xs) : Calls Tryz.prog 148 #[.slice B xs.length d, .func (.func 175) #[] #[.pointer (some ⟨bl,0,none⟩), .pointer (some ⟨bp,0,none⟩)]] w fun e w' => e = .returned (.bool (Gn l page xs)) ∧ Below w.heap.size w w':=by
  have HF:=As (Pn (d:=d) page hb hr hl h1 h2 hx)
  clear hr hb hl h1 h2 hx
  go_enter Tryz.func148,Tryz.ntmps148
  go_wp2_with (go_at_call 178;refine HF.out.mono ?_;rintro e w' ⟨i,rfl,hi,hb⟩)
  go_ret
  exact ⟨by first | exact AJ hi | rfl,hb⟩
theorem Lf (l : List Rec) (p : Int) : ∀ j,Gn l p (Cf l j) = Im l p j
  | 0 => rfl
  | j + 1 => by
    have ih:=Lf l p j
    unfold Cf Im
    split
    · rename_i h
      rw [h,KE,Bool.false_or,List.nil_append,ih]
    · rw [Gn,List.any_append]
      rw [Gn] at ih
      rw [ih]
      simp
set_option maxHeartbeats 4000000 in
theorem Fj {w0 w : World} {A : Option Addr} {c : Nat} {l : List Rec} (page : Int) {b : Bool} (hv : Im l page 3 = b) (hb : Below w0.heap.size w0 w) (hr : Kd.C C8 w0 A l.length l) (hl : AP l = true) : Calls Tryz.prog 137 #[.slice A l.length c, .int .i64 page] w fun e w' => e = .returned (.bool b) ∧ Below w.heap.size w w':=by
  have HR:=As hr
  have HB:=As hb
  have HL:=As hl
  have HV:=As hv
  clear hr hb hl hv
  obtain ⟨W2,hW2⟩ : ∃ W2,(w.alloc (.cells #[.slice A l.length c] 26)).alloc (.cells #[.int .i64 page] 3) = W2:=⟨_,rfl⟩
  have hb2 : Below w.heap.size w W2:=by rw [← hW2];exact Ah (Ah (Below.refl _ _) _) _
  have hc1 : W2.cell? ⟨w.heap.size,0,none⟩ = some (.slice A l.length c):=by rw [← hW2];exact (Ot w _ _ _ _ rfl rfl).1
  have hc2 : W2.cell? ⟨w.heap.size + 1,0,none⟩ = some (.int .i64 page):=by rw [← hW2];exact (Ot w _ _ _ _ rfl rfl).2
  have H2:=As hW2
  have HB2:=As hb2
  have HC1:=As hc1
  have HC2:=As hc2
  clear hW2 hb2 hc1 hc2
  go_enter Tryz.func137,Tryz.ntmps137
  go_wp2_with (first | (go_at_call 47;rw [H2.out];refine (FP (bj HB.out HB2.out) HR.out).mono ?_;rintro e w3 ⟨v,rfl,ho,hb3⟩;obtain ⟨A3,c3,rfl, -,hC⟩:=ho.reads;have HC:=As hC;have HX:=As (bj HB2.out hb3);have HX3:=As hb3;clear ho hb3 hC) | (go_at_call 148;refine (MX page (bj HB.out HX.out) HR.out HL.out (bc HX3.out HC1.out) (bc HX3.out HC2.out) HC.out).mono ?_;rintro e w4 ⟨rfl,hb4⟩;have HX4:=As (bj HX.out hb4);clear hb4))
  go_ret
  exact ⟨AJ (by rw [← HV.out, ← Lf]),HX4.out⟩
open Go.RowKit Go.Shelf Go.Proofs.YtpjmlpmhgfghbaaGreatW.PrintWords Go.Proofs.YtpjmlpmhgfghbaaGreatW.PrintLast Go.Proofs.YtpjmlpmhgfghbaaGreatW.PrintMore
attribute [local go_sem] Oper.semAt_some
def KH (l : List Rec) (page : Int) (k : Nat) : Bool:=(rc l k).page == page && (Cx (rc l k).kind || (rc l k).kind == 3)
theorem QA {l : List Rec} {page : Int} {n : Nat} (h : KH l page n = true) : BF l page (n + 1) = n + 1:=by
  simp only [KH,Bool.and_eq_true,beq_iff_eq,Bool.or_eq_true] at h
  rw [BF,if_pos h]
theorem P9 {l : List Rec} {page : Int} {n : Nat} (h : KH l page n = false) : BF l page (n + 1) = BF l page n:=by
  rw [BF,if_neg]
  rintro ⟨h1,h2⟩
  have : KH l page n = true:=by
    simp only [KH,Bool.and_eq_true,beq_iff_eq,Bool.or_eq_true]
    exact ⟨h1,h2⟩
  rw [h] at this
  cases this
theorem IW {l : List Rec} {page : Int} {n : Nat} : ∀ {k : Nat},k ≤ n → (∀ x ∈ Jh n k,KH l page x = false) → BF l page n = BF l page (n - k)
  | 0,_,_ => rfl
  | k + 1,hk,h => by
    rw [FT] at h
    rw [IW (k:=k) (by omega) (fun x hx => h x (List.mem_append_left _ hx))]
    have h1:=h (n - 1 - k) (by simp)
    rw [show n - k = (n - (k + 1)) + 1 by omega,P9 (by rw [show n - (k + 1) = n - 1 - k by omega];exact h1)]
set_option maxRecDepth 100000 in
set_option maxHeartbeats 4000000 in
theorem Gq {w0 w : World} {A : Option Addr} {c : Nat} {l : List Rec} (page : Int) (hb : Below w0.heap.size w0 w) (hr : Kd.C C8 w0 A l.length l) : Calls Tryz.prog 138 #[.slice A l.length c, .int .i64 page] w fun e w' => e = .returned (.int .i64 (BF l page l.length)) ∧ Below w.heap.size w w':=by
  have HR:=As hr
  have HB:=As hb
  have hm:=(D5 hr).2
  clear hr hb
  refine (callsIn_wide (n:=5)).1 ?_
  have hro : Fence.wide.round = none:=rfl
  have h1 : 1 ≤ 5:=by omega
  refine callsIn_of_wp_marks Tryz.func138 rfl trivial ?_ hro
  simp only [Tryz.ntmps138,List.size_toArray,List.length_cons,List.length_nil,Nat.reduceAdd,Nat.reduceSub,Array.replicate_succ,Array.replicate_zero,List.push_toArray,List.append_toArray,List.nil_append,List.cons_append]
  gi_wp2_with (refine ⟨trivial,?_⟩;gi_at_call 165;refine (SY Fence.wide _ trivial hro _ _ _ _).mono ?_;rintro e w' ⟨rfl,rfl⟩)
  have b3:=((Blk.new w 3 #[.int .i64 page]) : Blk _ _ _ _)
  obtain ⟨W0,hW0⟩ : ∃ W0,((w.alloc (.cells #[.int .i64 page] 3)).alloc (.cells #[.int .i64 0] 3)).alloc (.cells #[.slice A l.length c] 26) = W0:=⟨_,rfl⟩
  have hsz : W0.heap.size = w.heap.size + 3:=by rw [← hW0];simp
  have hB0 : Below w.heap.size w W0:=by rw [← hW0];exact (((Below.refl _ w).alloc (Nat.le_refl _) _).alloc (by simp) _).alloc (by simp;omega) _
  have bT : Blk W0 w.heap.size 3 #[.int .i64 page]:=by
    rw [← hW0];exact ((Below.heap_alloc _ _ _ (by simp;omega)).trans (Below.heap_alloc _ _ _ (by simp))).trans (World.alloc_heap_new w _)
  have bR : Boxed W0 (w.heap.size + 1) 3 (.int .i64 0):=by
    rw [← hW0];refine (Below.heap_alloc _ _ _ (by simp)).trans ?_
    have:=World.alloc_heap_new (w.alloc (.cells #[.int .i64 page] 3)) (.cells #[.int .i64 0] 3);rwa [World.size_alloc] at this
  have bS : W0.cell? ⟨w.heap.size + 1 + 1,0,none⟩ = some (.slice A l.length c):=by
    have : Boxed W0 (w.heap.size + 1 + 1) 26 (.slice A l.length c):=by
      rw [← hW0];have:=World.alloc_heap_new ((w.alloc (.cells #[.int .i64 page] 3)).alloc (.cells #[.int .i64 0] 3)) (.cells #[.slice A l.length c] 26);rwa [World.size_alloc,World.size_alloc] at this
    exact this.cell
  rw [hW0]
  clear hW0 b3
  have hw0 : Below w0.heap.size w0 W0:=bj HB.out hB0
  have HSZ:=As hsz
  refine wpIn_rangeFunc_ownH (α:=Ja l.length) hro h1 (gf:=181) (lb:=#[.pointer (some ⟨w.heap.size + 1 + 1,0,none⟩)]) rfl trivial (enters_of Tryz.func181 (by kernel_rfl) rfl)
    (NN Fence.wide _ trivial hro (by omega) (w.heap.size + 1 + 1) W0.heap.size c A l w0 W0 HR.out hw0.size (by omega) (Nat.le_refl _) hw0 bS) belowK_t (belowK_b (Nat.le_refl _)) (Below.refl _ _) (fun _ => rfl)
    (fun pre W => (∀ x ∈ pre,KH l page x.1 = false) ∧ Below W0.heap.size W0 W)
    (fun cc pre W => ((cc = .ret ∧ ∃ pre0 x,pre = pre0 ++ [x] ∧ (∀ y ∈ pre0,KH l page y.1 = false) ∧ KH l page x.1 = true) ∧ (∃ x : Ja l.length,pre.getLast? = some x ∧ Boxed W (w.heap.size + 1) 3 (.int .i64 ((x.1 : Int) + 1)))) ∧ Below w.heap.size w W)
    (OwnFrom.and (ownFrom_pure _ _) (ownFrom_below (Nat.le_refl _) (Nat.le_refl _)))
    (fun cc => OwnFrom.and (OwnFrom.and (ownFrom_pure _ _) (fun s X Y row hs hg hr => by obtain ⟨x,e1,e2⟩:=hs;exact ⟨x,e1,boxed_own _ _ (fun (_ : Unit) => _) () X Y row e2 hg (fun r e => (hr r e).2)⟩)) (ownFrom_below (Nat.le_refl _) (by omega)))
    ⟨by simp,Below.refl _ _⟩
    (fun x a' W => ∃ Bx,W0.heap.size ≤ Bx ∧ Blk W Bx 98 #[.int .i64 (rc l x.1).kind, .int .i64 (rc l x.1).tx, .int .i64 (rc l x.1).page, .int .i64 (rc l x.1).slot, .int .i64 (rc l x.1).old, .int .i64 (rc l x.1).new, .int .i64 (rc l x.1).prev, .int .i64 (rc l x.1).next] ∧ a' = { tmps:=#[.slice A l.length c, .int .i64 page,undef, .pointer (some ⟨w.heap.size,0,none⟩), .pointer (some ⟨w.heap.size + 1,0,none⟩), .int .i64 (x.1 : Nat), .pointer (some ⟨Bx,0,none⟩), .slice A l.length c, .func (.func 181) #[] #[.pointer (some ⟨w.heap.size + 1 + 1,0,none⟩)], .int .i64 (x.1 : Nat),(rc l x.1).val,undef,undef,undef,undef,undef,undef,undef,undef,undef,undef,undef,undef,undef,undef,undef],defers := [] })
    (fun x a' _ X Y row hs hg hr => by obtain ⟨Bx,e1,e2,e3⟩:=hs;exact ⟨Bx,e1,SX Bx 98 (fun (_ : Unit) => #[.int .i64 (rc l x.1).kind, .int .i64 (rc l x.1).tx, .int .i64 (rc l x.1).page, .int .i64 (rc l x.1).slot, .int .i64 (rc l x.1).old, .int .i64 (rc l x.1).new, .int .i64 (rc l x.1).prev, .int .i64 (rc l x.1).next]) () X Y row e2 hg (fun r e => (hr r e).2),e3⟩)
    ?assign ?body ?done ?stop
  all_goals clear hsz
  case assign =>
    rintro lp pre x W K ⟨hp,hB1⟩ hK
    gi_wp2
    exact hK _ _ ((KeepsOthers.alloc _ _).from _) ((Below.refl _ W).alloc hB1.size _) ⟨hp,hB1.alloc hB1.size _⟩ ⟨W.heap.size,hB1.size,Blk.new W _ _,rfl⟩
  case body =>
    rintro lp pre x a' W hlp - ⟨hp,hB1⟩ ⟨Bx,hBx,bX,rfl⟩ hlt
    obtain ⟨g0,g1,g2,g3,g4,g5,g6,g7⟩:=bX.recAt
    have cT : W.cell? ⟨w.heap.size,0,none⟩ = some (.int .i64 page):=(hB1.cell (p:=⟨w.heap.size,0,none⟩) (by show w.heap.size < _;have:=HSZ.out;omega)).trans (Boxed.cell bT)
    have bR1 : Boxed W (w.heap.size + 1) 3 (.int .i64 0):=(hB1.block _ (by have:=HSZ.out;omega)).trans bR
    have cR:=bR1.cell
    have fR:=bR1.frozen
    have h1' : 1 ≤ 5 - 1 - 1:=by omega
    have hxl : ((x.1 : Nat) : Int) < 9223372036854775807:=by have:=x.2;omega
    have hx0 : (0 : Int) ≤ ((x.1 : Nat) : Int):=Int.natCast_nonneg _
    rcases BS (rc l x.1).page page with ⟨e1,b1,c1⟩ | ⟨e1,b1,c1⟩
    · cases he : Cx (rc l x.1).kind
      · have HE:=As he
        clear he
        rcases BS (rc l x.1).kind 3 with ⟨e3,b3,c3⟩ | ⟨e3,b3,c3⟩
        · gi_wp2_with (refine ⟨trivial,?_⟩;gi_at_call 105;refine (CallsIn.inRound lp (callsIn_wide.2 (F3 (r:=rc l x.1) HE.out _))).mono ?_;rintro e w1 ⟨rfl,hb1⟩;have cR1:=CF hb1 cR;have fR1:=(hb1.frozen (p:=⟨w.heap.size + 1,0,none⟩) (World.block_lt_of_cell? _ _ cR)).trans fR;obtain ⟨y0,y1,y2,y3,y4,y5,y6,y7⟩:=G5.up ⟨g0,g1,g2,g3,g4,g5,g6,g7⟩ hb1)
          refine ⟨(Ea hb1).trans ((KeepsOthers.setCell _ _ _).from _),⟨⟨rfl,pre,x,rfl,hp,by simp [KH,b1,HE.out,b3]⟩,x,by simp,?_⟩,((hB0.trans (hB1.mono hB0.size)).trans (hb1.mono ((hB0.trans (hB1.mono hB0.size)).size))).setCell (p:=⟨w.heap.size + 1,0,none⟩) (by simp) _⟩
          exact (show Boxed w1 (w.heap.size + 1) 3 (.int .i64 0) from (hb1.block _ bR1.lt).trans bR1).set _
        · gi_wp2_with (refine ⟨trivial,?_⟩;gi_at_call 105;refine (CallsIn.inRound lp (callsIn_wide.2 (F3 (r:=rc l x.1) HE.out _))).mono ?_;rintro e w1 ⟨rfl,hb1⟩;have cR1:=CF hb1 cR;have fR1:=(hb1.frozen (p:=⟨w.heap.size + 1,0,none⟩) (World.block_lt_of_cell? _ _ cR)).trans fR;obtain ⟨y0,y1,y2,y3,y4,y5,y6,y7⟩:=G5.up ⟨g0,g1,g2,g3,g4,g5,g6,g7⟩ hb1)
          exact ⟨Ea hb1,hb1.mono hB1.size,by first | exact fun z hz => (List.mem_append.1 hz).elim (hp z) (fun e => by have e2:=List.mem_singleton.1 e;rw [e2];simp [KH,HE.out,b3]) | exact fun z hzl hz => (List.mem_append.1 hz).elim (hp ⟨z,hzl⟩) (fun e => by have e2:=List.mem_singleton.1 e;have e3 : z = x.1:=congrArg Subtype.val e2;rw [e3];simp [KH,HE.out,b3]),hB1.trans (hb1.mono hB1.size)⟩
      · have HE:=As he
        clear he
        gi_wp2_with (refine ⟨trivial,?_⟩;gi_at_call 105;refine (CallsIn.inRound lp (callsIn_wide.2 (F3 (r:=rc l x.1) HE.out _))).mono ?_;rintro e w1 ⟨rfl,hb1⟩;have cR1:=CF hb1 cR;have fR1:=(hb1.frozen (p:=⟨w.heap.size + 1,0,none⟩) (World.block_lt_of_cell? _ _ cR)).trans fR;obtain ⟨y0,y1,y2,y3,y4,y5,y6,y7⟩:=G5.up ⟨g0,g1,g2,g3,g4,g5,g6,g7⟩ hb1)
        refine ⟨(Ea hb1).trans ((KeepsOthers.setCell _ _ _).from _),⟨⟨rfl,pre,x,rfl,hp,by simp [KH,b1,HE.out]⟩,x,by simp,?_⟩,((hB0.trans (hB1.mono hB0.size)).trans (hb1.mono ((hB0.trans (hB1.mono hB0.size)).size))).setCell (p:=⟨w.heap.size + 1,0,none⟩) (by simp) _⟩
        exact (show Boxed w1 (w.heap.size + 1) 3 (.int .i64 0) from (hb1.block _ bR1.lt).trans bR1).set _
    · gi_wp2
      refine ⟨trivial,?_⟩
      gi_wp2
      exact ⟨KeepsFrom.refl _ _,Below.refl _ _,by first | exact fun z hz => (List.mem_append.1 hz).elim (hp z) (fun e => by have e2:=List.mem_singleton.1 e;rw [e2];simp [KH,b1]) | exact fun z hzl hz => (List.mem_append.1 hz).elim (hp ⟨z,hzl⟩) (fun e => by have e2:=List.mem_singleton.1 e;have e3 : z = x.1:=congrArg Subtype.val e2;rw [e3];simp [KH,b1]),hB1⟩
  case done =>
    rintro D xs W hD hS ⟨hp,hB1⟩ hK
    have bR1 : Boxed W (w.heap.size + 1) 3 (.int .i64 0):=(hB1.block _ (by have:=HSZ.out;omega)).trans bR
    have cR:=bR1.cell
    have fR:=bR1.frozen
    gi_wp2
    have hK':=(KeepsOthers.setCell W ⟨w.heap.size + 1,0,none⟩ (.int .i64 0)).same D _ hK rfl
    refine ⟨by simp, .inl ⟨_,_,rfl,run_takeDeferred hK',?_⟩⟩
    have hc5:=cell_kept (bR1.set (.int .i64 0)).cell (grownBy_putObj' _ D (.deferred none)) (fun r e => by cases e;exact ⟨_,hK',rfl⟩)
    refine ⟨.int .i64 0,?_,?_,((hB0.trans (hB1.mono hB0.size)).setCell (p:=⟨w.heap.size + 1,0,none⟩) (by simp) _).trans (belowK_b (w:=w) (Nat.le_refl _) _ D _ _ (by have:=HSZ.out;omega) hK' rfl rfl)⟩
    · simp [results,Tryz.f138,go_sem,hc5]
    · refine En ?_
      have:=IW (l:=l) (page:=page) (Nat.le_refl _) (fun y hy => by
        rw [← hS] at hy
        obtain ⟨z,hz,rfl⟩:=List.mem_map.1 hy
        exact hp z hz)
      rw [this,Nat.sub_self]
      rfl
  case stop =>
    rintro D cc pre W hD ⟨k,hk,hpk⟩ ⟨⟨⟨rfl,pre0,x,rfl,hp,hx⟩,x',hl',bR1⟩,hB1⟩ hK
    obtain rfl : x = x':=by simpa using hl'
    gi_wp2
    refine ⟨by simp, .inl ⟨_,_,rfl,run_takeDeferred hK,?_⟩⟩
    have hc5:=cell_kept bR1.cell (grownBy_putObj' _ D (.deferred none)) (fun r e => by cases e;exact ⟨_,hK,rfl⟩)
    refine ⟨.int .i64 ((x.1 : Int) + 1),?_,?_,hB1.trans (belowK_b (w:=w) (Nat.le_refl _) W D _ _ (by have:=HSZ.out;omega) hK rfl rfl)⟩
    · simp [results,Tryz.f138,go_sem,hc5]
    · refine En ?_
      rw [List.map_append,List.map_cons,List.map_nil] at hpk
      have hkl : k = pre0.length + 1:=by
        have:=congrArg List.length hpk
        rw [Fx] at this
        simp at this
        omega
      subst hkl
      rw [FT] at hpk
      obtain ⟨h2,h3⟩:=List.append_inj hpk (by simp [Fx])
      have hx2 : x.1 = l.length - 1 - pre0.length:=by simpa using h3
      have:=IW (l:=l) (page:=page) (n:=l.length) (k:=pre0.length) (by omega) (fun y hy => by
        rw [← h2] at hy
        obtain ⟨z,hz,rfl⟩:=List.mem_map.1 hy
        exact hp z hz)
      rw [this,show l.length - pre0.length = x.1 + 1 by have:=x.2;omega,QA hx]
      simp
end Go.Proofs.YtpjmlpmhgfghbaaGreat
namespace Go.Proofs.YtpjmlpmhgfghbaaGreat
open Go.RowKit Go.Proofs.YtpjmlpmhgfghbaaGreatW.PrintWords Go.Proofs.YtpjmlpmhgfghbaaGreatW.PrintLast Go.Proofs.YtpjmlpmhgfghbaaGreatW.PrintMore
set_option maxHeartbeats 16000000 in
set_option maxRecDepth 100000 in
theorem Ey {r : Rec} {b : Bool} (h : CU r = b) (w : World) : Calls Tryz.prog 132 #[r.val] w fun e w' => e = .returned (.bool b) ∧ Below w.heap.size w w':=by
  have H:=As h
  clear h
  obtain ⟨m,hm⟩ : ∃ m : Int,(if r.slot = -1 then 3 else 9) = m:=⟨_,rfl⟩
  have HM:=As hm
  clear hm
  rcases BS r.slot (-1) with ⟨s1,t1,u1⟩ | ⟨s1,t1,u1⟩
  · obtain rfl : 3 = m:=by rw [← HM.out,if_pos s1.out]
    rcases BS r.kind 1 with ⟨e1,b1,c1⟩ | ⟨e1,b1,c1⟩
    · go_enter Tryz.func132,Tryz.ntmps132
      go_wp2
      go_quiet ((go_at_call 77;exact Calls.quiet_of_same (Eo _ _ _ _)))
      go_wp2_with (first | (go_at_call 77;refine (Ce _ _ _ _).mono ?_;rintro e w' ⟨rfl,rfl⟩) | (go_at_call 156;refine (Bz _ _).mono ?_;rintro e w' ⟨rfl,rfl⟩) | (go_at_call 173;refine (Ca _ _).mono ?_;rintro e w' ⟨rfl,rfl⟩))
      all_goals (go_ret;exact ⟨AJ (by rw [← H.out];simp [CU,HM.out, *,e1.out]),BG ((Below.refl _ _).alloc (Nat.le_refl _) _) _⟩)
    · skip
      rcases BS r.kind 2 with ⟨e2,b2,c2⟩ | ⟨e2,b2,c2⟩
      · go_enter Tryz.func132,Tryz.ntmps132
        go_wp2
        go_quiet ((go_at_call 77;exact Calls.quiet_of_same (Eo _ _ _ _)))
        go_wp2_with (first | (go_at_call 77;refine (Ce _ _ _ _).mono ?_;rintro e w' ⟨rfl,rfl⟩) | (go_at_call 156;refine (Bz _ _).mono ?_;rintro e w' ⟨rfl,rfl⟩) | (go_at_call 173;refine (Ca _ _).mono ?_;rintro e w' ⟨rfl,rfl⟩))
        all_goals (go_ret;exact ⟨AJ (by rw [← H.out];simp [CU,HM.out, *,e2.out]),BG ((Below.refl _ _).alloc (Nat.le_refl _) _) _⟩)
      · skip
        rcases BS r.kind 3 with ⟨e3,b3,c3⟩ | ⟨e3,b3,c3⟩
        · go_enter Tryz.func132,Tryz.ntmps132
          go_wp2
          go_quiet ((go_at_call 77;exact Calls.quiet_of_same (Eo _ _ _ _)))
          go_wp2_with (first | (go_at_call 77;refine (Ce _ _ _ _).mono ?_;rintro e w' ⟨rfl,rfl⟩) | (go_at_call 156;refine (Bz _ _).mono ?_;rintro e w' ⟨rfl,rfl⟩) | (go_at_call 173;refine (Ca _ _).mono ?_;rintro e w' ⟨rfl,rfl⟩))
          all_goals (go_ret;exact ⟨AJ (by rw [← H.out];simp [CU,HM.out, *,e3.out]),BG ((Below.refl _ _).alloc (Nat.le_refl _) _) _⟩)
        · skip
          rcases BS r.kind 4 with ⟨e4,b4,c4⟩ | ⟨e4,b4,c4⟩
          · go_enter Tryz.func132,Tryz.ntmps132
            go_wp2
            go_quiet ((go_at_call 77;exact Calls.quiet_of_same (Eo _ _ _ _)))
            go_wp2_with (first | (go_at_call 77;refine (Ce _ _ _ _).mono ?_;rintro e w' ⟨rfl,rfl⟩) | (go_at_call 156;refine (Bz _ _).mono ?_;rintro e w' ⟨rfl,rfl⟩) | (go_at_call 173;refine (Ca _ _).mono ?_;rintro e w' ⟨rfl,rfl⟩))
            all_goals (go_ret;exact ⟨AJ (by rw [← H.out];simp [CU,HM.out, *,e4.out]),BG ((Below.refl _ _).alloc (Nat.le_refl _) _) _⟩)
          · skip
            rcases BS r.kind 5 with ⟨e5,b5,c5⟩ | ⟨e5,b5,c5⟩
            · go_enter Tryz.func132,Tryz.ntmps132
              go_wp2
              go_quiet ((go_at_call 77;exact Calls.quiet_of_same (Eo _ _ _ _)))
              go_wp2_with (first | (go_at_call 77;refine (Ce _ _ _ _).mono ?_;rintro e w' ⟨rfl,rfl⟩) | (go_at_call 156;refine (Bz _ _).mono ?_;rintro e w' ⟨rfl,rfl⟩) | (go_at_call 173;refine (Ca _ _).mono ?_;rintro e w' ⟨rfl,rfl⟩))
              all_goals (go_ret;exact ⟨AJ (by rw [← H.out];simp [CU,HM.out, *,e5.out]),BG ((Below.refl _ _).alloc (Nat.le_refl _) _) _⟩)
            · skip
              rcases BS r.kind 6 with ⟨e6,b6,c6⟩ | ⟨e6,b6,c6⟩
              · go_enter Tryz.func132,Tryz.ntmps132
                go_wp2
                go_quiet ((go_at_call 77;exact Calls.quiet_of_same (Eo _ _ _ _)))
                go_wp2_with (first | (go_at_call 77;refine (Ce _ _ _ _).mono ?_;rintro e w' ⟨rfl,rfl⟩) | (go_at_call 156;refine (Bz _ _).mono ?_;rintro e w' ⟨rfl,rfl⟩) | (go_at_call 173;refine (Ca _ _).mono ?_;rintro e w' ⟨rfl,rfl⟩))
                all_goals (go_ret;exact ⟨AJ (by rw [← H.out];simp [CU,HM.out, *,e6.out]),BG ((Below.refl _ _).alloc (Nat.le_refl _) _) _⟩)
              · go_enter Tryz.func132,Tryz.ntmps132
                go_wp2
                go_quiet ((go_at_call 77;exact Calls.quiet_of_same (Eo _ _ _ _)))
                go_wp2_with (first | (go_at_call 77;refine (Ce _ _ _ _).mono ?_;rintro e w' ⟨rfl,rfl⟩) | (go_at_call 156;refine (Bz _ _).mono ?_;rintro e w' ⟨rfl,rfl⟩) | (go_at_call 173;refine (Ca _ _).mono ?_;rintro e w' ⟨rfl,rfl⟩))
                all_goals (go_ret;exact ⟨AJ (by rw [← H.out];simp [CU,HM.out, *,e1.out,e2.out,e3.out,e4.out,e5.out,e6.out]),BG ((Below.refl _ _).alloc (Nat.le_refl _) _) _⟩)
  · obtain rfl : 9 = m:=by rw [← HM.out,if_neg s1.out]
    rcases BS r.kind 1 with ⟨e1,b1,c1⟩ | ⟨e1,b1,c1⟩
    · go_enter Tryz.func132,Tryz.ntmps132
      go_wp2
      go_quiet ((go_at_call 77;exact Calls.quiet_of_same (Eo _ _ _ _)))
      go_wp2_with (first | (go_at_call 77;refine (Ce _ _ _ _).mono ?_;rintro e w' ⟨rfl,rfl⟩) | (go_at_call 156;refine (Bz _ _).mono ?_;rintro e w' ⟨rfl,rfl⟩) | (go_at_call 173;refine (Ca _ _).mono ?_;rintro e w' ⟨rfl,rfl⟩))
      all_goals (go_ret;exact ⟨AJ (by rw [← H.out];simp [CU,HM.out, *,e1.out]),BG ((Below.refl _ _).alloc (Nat.le_refl _) _) _⟩)
    · skip
      rcases BS r.kind 2 with ⟨e2,b2,c2⟩ | ⟨e2,b2,c2⟩
      · go_enter Tryz.func132,Tryz.ntmps132
        go_wp2
        go_quiet ((go_at_call 77;exact Calls.quiet_of_same (Eo _ _ _ _)))
        go_wp2_with (first | (go_at_call 77;refine (Ce _ _ _ _).mono ?_;rintro e w' ⟨rfl,rfl⟩) | (go_at_call 156;refine (Bz _ _).mono ?_;rintro e w' ⟨rfl,rfl⟩) | (go_at_call 173;refine (Ca _ _).mono ?_;rintro e w' ⟨rfl,rfl⟩))
        all_goals (go_ret;exact ⟨AJ (by rw [← H.out];simp [CU,HM.out, *,e2.out]),BG ((Below.refl _ _).alloc (Nat.le_refl _) _) _⟩)
      · skip
        rcases BS r.kind 3 with ⟨e3,b3,c3⟩ | ⟨e3,b3,c3⟩
        · go_enter Tryz.func132,Tryz.ntmps132
          go_wp2
          go_quiet ((go_at_call 77;exact Calls.quiet_of_same (Eo _ _ _ _)))
          go_wp2_with (first | (go_at_call 77;refine (Ce _ _ _ _).mono ?_;rintro e w' ⟨rfl,rfl⟩) | (go_at_call 156;refine (Bz _ _).mono ?_;rintro e w' ⟨rfl,rfl⟩) | (go_at_call 173;refine (Ca _ _).mono ?_;rintro e w' ⟨rfl,rfl⟩))
          all_goals (go_ret;exact ⟨AJ (by rw [← H.out];simp [CU,HM.out, *,e3.out]),BG ((Below.refl _ _).alloc (Nat.le_refl _) _) _⟩)
        · skip
          rcases BS r.kind 4 with ⟨e4,b4,c4⟩ | ⟨e4,b4,c4⟩
          · go_enter Tryz.func132,Tryz.ntmps132
            go_wp2
            go_quiet ((go_at_call 77;exact Calls.quiet_of_same (Eo _ _ _ _)))
            go_wp2_with (first | (go_at_call 77;refine (Ce _ _ _ _).mono ?_;rintro e w' ⟨rfl,rfl⟩) | (go_at_call 156;refine (Bz _ _).mono ?_;rintro e w' ⟨rfl,rfl⟩) | (go_at_call 173;refine (Ca _ _).mono ?_;rintro e w' ⟨rfl,rfl⟩))
            all_goals (go_ret;exact ⟨AJ (by rw [← H.out];simp [CU,HM.out, *,e4.out]),BG ((Below.refl _ _).alloc (Nat.le_refl _) _) _⟩)
          · skip
            rcases BS r.kind 5 with ⟨e5,b5,c5⟩ | ⟨e5,b5,c5⟩
            · go_enter Tryz.func132,Tryz.ntmps132
              go_wp2
              go_quiet ((go_at_call 77;exact Calls.quiet_of_same (Eo _ _ _ _)))
              go_wp2_with (first | (go_at_call 77;refine (Ce _ _ _ _).mono ?_;rintro e w' ⟨rfl,rfl⟩) | (go_at_call 156;refine (Bz _ _).mono ?_;rintro e w' ⟨rfl,rfl⟩) | (go_at_call 173;refine (Ca _ _).mono ?_;rintro e w' ⟨rfl,rfl⟩))
              all_goals (go_ret;exact ⟨AJ (by rw [← H.out];simp [CU,HM.out, *,e5.out]),BG ((Below.refl _ _).alloc (Nat.le_refl _) _) _⟩)
            · skip
              rcases BS r.kind 6 with ⟨e6,b6,c6⟩ | ⟨e6,b6,c6⟩
              · go_enter Tryz.func132,Tryz.ntmps132
                go_wp2
                go_quiet ((go_at_call 77;exact Calls.quiet_of_same (Eo _ _ _ _)))
                go_wp2_with (first | (go_at_call 77;refine (Ce _ _ _ _).mono ?_;rintro e w' ⟨rfl,rfl⟩) | (go_at_call 156;refine (Bz _ _).mono ?_;rintro e w' ⟨rfl,rfl⟩) | (go_at_call 173;refine (Ca _ _).mono ?_;rintro e w' ⟨rfl,rfl⟩))
                all_goals (go_ret;exact ⟨AJ (by rw [← H.out];simp [CU,HM.out, *,e6.out]),BG ((Below.refl _ _).alloc (Nat.le_refl _) _) _⟩)
              · go_enter Tryz.func132,Tryz.ntmps132
                go_wp2
                go_quiet ((go_at_call 77;exact Calls.quiet_of_same (Eo _ _ _ _)))
                go_wp2_with (first | (go_at_call 77;refine (Ce _ _ _ _).mono ?_;rintro e w' ⟨rfl,rfl⟩) | (go_at_call 156;refine (Bz _ _).mono ?_;rintro e w' ⟨rfl,rfl⟩) | (go_at_call 173;refine (Ca _ _).mono ?_;rintro e w' ⟨rfl,rfl⟩))
                all_goals (go_ret;exact ⟨AJ (by rw [← H.out];simp [CU,HM.out, *,e1.out,e2.out,e3.out,e4.out,e5.out,e6.out]),BG ((Below.refl _ _).alloc (Nat.le_refl _) _) _⟩)
structure X7 (W : World) (B : Nat) (l : List Rec) (k : Nat) : Prop where
  out : ∃ x1 x2 x3 : Int,W.heap[B]? = some (.cells #[.int .i64 0, .int .i64 x1, .int .i64 x2, .int .i64 x3] 130 (0,0)) ∧ x1 = Ao l 1 k ∧ x2 = Ao l 2 k ∧ x3 = Ao l 3 k
theorem UF {W : World} {B k : Nat} {l : List Rec} {x1 x2 x3 tx : Int} {T : TypeId} (h : W.heap[B]? = some (.cells #[.int .i64 0, .int .i64 x1, .int .i64 x2, .int .i64 x3] T (0,0))) (hx : x1 = Ao l 1 k ∧ x2 = Ao l 2 k ∧ x3 = Ao l 3 k) (h1 : 1 ≤ tx) (h3 : tx ≤ 3) : W.cell? ⟨B,tx.toNat,none⟩ = some (.int .i64 (Ao l tx k)):=by
  obtain ⟨rfl,rfl,rfl⟩:=hx
  have e : tx = 1 ∨ tx = 2 ∨ tx = 3:=by omega
  rcases e with rfl | rfl | rfl <;> simp [World.cell?,h]
theorem Lx {W : World} {B : Nat} {x1 x2 x3 tx v : Int} {T : TypeId} (h : W.heap[B]? = some (.cells #[.int .i64 0, .int .i64 x1, .int .i64 x2, .int .i64 x3] T (0,0))) (h1 : 1 ≤ tx) (h3 : tx ≤ 3) :
    (W.setCell ⟨B,tx.toNat,none⟩ (.int .i64 v)).heap[B]? = some (.cells #[.int .i64 0, .int .i64 (if tx = 1 then v else x1), .int .i64 (if tx = 2 then v else x2), .int .i64 (if tx = 3 then v else x3)] T (0,0)):=by
  have:=SV h tx.toNat (.int .i64 v)
  rw [this]
  have e : tx = 1 ∨ tx = 2 ∨ tx = 3:=by omega
  rcases e with rfl | rfl | rfl <;> simp
theorem Px {W : World} {B : Nat} {x1 x2 x3 tx : Int} {T : TypeId} (h : W.heap[B]? = some (.cells #[.int .i64 0, .int .i64 x1, .int .i64 x2, .int .i64 x3] T (0,0))) (h1 : 1 ≤ tx) (h3 : tx ≤ 3) : ∃ y,W.cell? ⟨B,tx.toNat,none⟩ = some (.int .i64 y):=by
  have e : tx = 1 ∨ tx = 2 ∨ tx = 3:=by omega
  rcases e with rfl | rfl | rfl <;> simp [World.cell?,h]
theorem QI {W : World} {B B' j o : Nat} {v u : Value} (hne : B ≠ B') (h : W.cell? ⟨B',o,none⟩ = some u) : (W.setCell ⟨B,j,none⟩ v).cell? ⟨B',o,none⟩ = some u:=by
  rw [World.cell?_setCell_far _ _ _ _ (by simp;exact fun e => hne e)]
  exact h
theorem ND {l : List Rec} {k : Nat} {tx t x : Int} (e : (rc l k).tx = tx) (h : x = Ao l t k) : (if tx = t then (if EI (rc l k).kind = true then 0 else (k : Int) + 1) else x) = Ao l t (k + 1):=by
  subst e
  unfold Ao
  split
  · split <;> simp
  · exact h
theorem FQ {l : List Rec} {k : Nat} {t x : Int} (he : EI (rc l k).kind = false) (h : x = Ao l t k) : (if (rc l k).tx = t then (k : Int) + 1 else x) = Ao l t (k + 1):=by
  have:=ND (t:=t) rfl h
  rwa [he,if_neg (by simp : ¬ false = true)] at this
theorem Gw {l : List Rec} {k : Nat} {t x : Int} (he : EI (rc l k).kind = true) (h : x = Ao l t k) : (if (rc l k).tx = t then 0 else (if (rc l k).tx = t then (k : Int) + 1 else x)) = Ao l t (k + 1):=by
  have:=ND (t:=t) rfl h
  rw [he,if_pos rfl] at this
  rw [← this]
  split <;> rfl
set_option maxHeartbeats 16000000 in
theorem G6 {w0 w : World} {A : Option Addr} {c : Nat} {l : List Rec} {b : Bool} (hv : AP l = b) (hb : Below w0.heap.size w0 w) (hr : Kd.C C8 w0 A l.length l) : Calls Tryz.prog 76 #[.slice A l.length c] w fun e w' => e = .returned (.bool b) ∧ Below w.heap.size w w':=by
  have HR:=As hr
  have HB:=As hb
  have HV:=As hv
  clear hr hb hv
  by_cases hlen : l.length ≤ 150
  · go_enter Tryz.func76,Tryz.ntmps76
    go_wp2
    have HLEN:=As hlen
    go_loopw [11] (fun i wr => ∃ k : Nat,k ≤ l.length ∧ i = .int .i64 (k : Int) ∧ Ac (Eh l k = true) ∧ Ac (X7 wr w.heap.size l k) ∧ Ac (Below w.heap.size w wr)) (fun i _ => (l.length - (intOf i)).toNat)
    case atStart => exact ⟨0,Nat.zero_le _,rfl,⟨rfl⟩,⟨⟨0,0,0,blk_new _ _,rfl,rfl,rfl⟩⟩,⟨(Below.refl _ _).alloc (Nat.le_refl _) _⟩⟩
    case round =>
      obtain ⟨k,hk,rfl,HL,HA,HW⟩:=hrel
      by_cases hlt : k < l.length
      · obtain ⟨ad,rfl,QR⟩:=Cb HR.out k hlt
        have HW0:=As (bj HB.out HW.out)
        obtain ⟨g0,g1,g2,g3,g4,g5,g6,g7⟩:=QR.up HW0.out
        have p0 : (0 : Int) ≤ (k : Int):=Int.natCast_nonneg _
        have p1 : (k : Int) < (l.length : Int):=by omega
        obtain ⟨x1,x2,x3,hA,hx1,hx2,hx3⟩:=HA.out.out
        have HF:=As (fun h => Le (n:=l.length) (show atOk l k = false from h) hlt)
        have HA2:=As hA
        have HX:=As (And.intro hx1 (And.intro hx2 hx3))
        clear hA hx1 hx2 hx3
        go_wp2
        refine R9 (fun w2 hb2 Q2 => ?_)
        have hA3:=(hb2.block w.heap.size (Array.getElem?_eq_some_iff.1 HA2.out).1).trans HA2.out
        cases h1 : CU (rc l k)
        · have K1:=As h1
          clear h1
          refine Bj (fun w' => Below w2.heap.size w2 w') rfl rfl (by kernel_rfl) (Aj (Below.refl _ _)) (fun HT => ?_)
          repeat (first
            | (refine BX (fun wx hS => ?_))
            | ((with_reducible refine BI (f:=132) rfl ?_);refine BJ (v:=.bool false) (args:=#[(rc l k).val]) HT rfl Tryz.func132 (by kernel_rfl) rfl rfl (by rfl) (fun _ _ _ h => h) (by simp only [List.map_toArray,List.map_cons,List.map_nil];rfl) (fun wx hS => (Ey (r:=rc l k) K1.out _).mono fun e w1 h => ⟨h.1,bj hS h.2⟩) ?_;simp only [sc0,sc1])
            | (refine BH HT rfl (by rfl) (fun _ _ _ h => h) ?_;simp only [sc0,sc1])
            | (refine BV (v:=?_) HT rfl (by rfl) (fun _ _ _ h => h) (fun wx hS => ?_) ?_;rotate_left;(obtain ⟨z0,z1,z2,z3,z4,z5,z6,z7⟩:=Q2.up hS;go_simp;with_reducible rfl);rotate_left;simp only [sc0,sc1]))
          go_wp2
          go_ret
          exact ⟨AJ (by rw [← HV.out];simp [AP,HF.out (by simp [atOk,K1.out])]),(HW.out.trans (hb2.mono HW.out.size)).trans (hS.mono ((HW.out.trans (hb2.mono HW.out.size)).size))⟩
        · have K1:=As h1
          clear h1
          have htx:=Q8 K1.out
          have t1:=htx.1
          have t3 : (rc l k).tx < 4:=by omega
          have t0 : 0 ≤ (rc l k).tx:=by omega
          have hAt:=HA2.out
          replace hAt : w2.cell? ⟨w.heap.size,(rc l k).tx.toNat,none⟩ = some (.int .i64 (Ao l (rc l k).tx k)):=UF hA3 HX.out htx.1 htx.2.1
          clear htx
          rcases BS (rc l k).prev (Ao l (rc l k).tx k) with ⟨e2,b2,c2⟩ | ⟨e2,b2,c2⟩
          · rcases lts (k : Int) (rc l k).next with ⟨e3,b3,c3⟩ | ⟨e3,b3,c3⟩
            · refine Bj (fun w' => Below w2.heap.size w2 w') rfl rfl (by kernel_rfl) (Aj (Below.refl _ _)) (fun HT => ?_)
              repeat (first
                | (refine BX (fun wx hS => ?_))
                | ((with_reducible refine BI (f:=132) rfl ?_);refine BJ (v:=.bool true) (args:=#[(rc l k).val]) HT rfl Tryz.func132 (by kernel_rfl) rfl rfl (by rfl) (fun _ _ _ h => h) (by simp only [List.map_toArray,List.map_cons,List.map_nil];rfl) (fun wx hS => (Ey (r:=rc l k) K1.out _).mono fun e w1 h => ⟨h.1,bj hS h.2⟩) ?_;simp only [sc0,sc1])
                | (refine BH HT rfl (by rfl) (fun _ _ _ h => h) ?_;simp only [sc0,sc1])
                | (refine BV (v:=?_) HT rfl (by rfl) (fun _ _ _ h => h) (fun wx hS => ?_) ?_;rotate_left;(obtain ⟨z0,z1,z2,z3,z4,z5,z6,z7⟩:=Q2.up hS;have zA:=bc hS hAt;go_simp;with_reducible rfl);rotate_left;simp only [sc0,sc1]))
              go_wp2
              go_ret
              exact ⟨AJ (by rw [← HV.out];simp [AP,HF.out (by simp [atOk,c3])]),(HW.out.trans (hb2.mono HW.out.size)).trans (hS.mono ((HW.out.trans (hb2.mono HW.out.size)).size))⟩
            · rcases lts 0 (rc l k).next with ⟨e4,b4,c4⟩ | ⟨e4,b4,c4⟩
              · obtain ⟨j,hj⟩ : ∃ j : Nat,(rc l k).next - 1 = j:=⟨((rc l k).next - 1).toNat,by have:=e4.out;omega⟩
                have hj2 : (rc l k).next.toNat - 1 = j:=by have:=e4.out;omega
                have hjl : j < l.length:=by have:=e4.out;have:=e3.out;omega
                obtain ⟨ad',ea,QJ⟩:=Cb HR.out j hjl
                obtain rfl:=Option.some.inj ea
                have s0 : IntKind.i64.wrap ((rc l k).next - 1) = (j : Int):=by rw [hj];exact IntWalk.i64_in _ (by omega)
                have s1 : (0 : Int) ≤ (j : Int):=Int.natCast_nonneg _
                have s2 : (j : Int) < (l.length : Int):=by omega
                have J2:=As hj2
                have QJ2:=(QJ.up HW0.out).up hb2
                clear hj hj2 ea
                rcases BS (rc l j).tx (rc l k).tx with ⟨e5,b5,c5⟩ | ⟨e5,b5,c5⟩
                · refine Bj (fun w' => Below w2.heap.size w2 w') rfl rfl (by kernel_rfl) (Aj (Below.refl _ _)) (fun HT => ?_)
                  repeat (first
                    | (refine BX (fun wx hS => ?_))
                    | ((with_reducible refine BI (f:=132) rfl ?_);refine BJ (v:=.bool true) (args:=#[(rc l k).val]) HT rfl Tryz.func132 (by kernel_rfl) rfl rfl (by rfl) (fun _ _ _ h => h) (by simp only [List.map_toArray,List.map_cons,List.map_nil];rfl) (fun wx hS => (Ey (r:=rc l k) K1.out _).mono fun e w1 h => ⟨h.1,bj hS h.2⟩) ?_;simp only [sc0,sc1])
                    | (refine BH HT rfl (by rfl) (fun _ _ _ h => h) ?_;simp only [sc0,sc1])
                    | (refine BV (v:=?_) HT rfl (by rfl) (fun _ _ _ h => h) (fun wx hS => ?_) ?_;rotate_left;(obtain ⟨z0,z1,z2,z3,z4,z5,z6,z7⟩:=Q2.up hS;obtain ⟨y0,y1,y2,y3,y4,y5,y6,y7⟩:=QJ2.up hS;have zA:=bc hS hAt;go_simp;with_reducible rfl);rotate_left;simp only [sc0,sc1]))
                  have HBX:=As ((HW.out.trans (hb2.mono HW.out.size)).trans (hS.mono ((HW.out.trans (hb2.mono HW.out.size)).size)))
                  have hA4:=(hS.block w.heap.size (Array.getElem?_eq_some_iff.1 hA3).1).trans hA3
                  have HA5:=As (Lx (v:=(k : Int) + 1) hA4 t1 (by omega : (rc l k).tx ≤ 3))
                  obtain ⟨yA,hyA⟩:=Px hA4 t1 (by omega : (rc l k).tx ≤ 3)
                  have hfA:=FU hA4 (rc l k).tx.toNat
                  obtain ⟨z0,z1,z2,z3,z4,z5,z6,z7⟩:=Q2.up hS
                  have HNE:=As (show w.heap.size ≠ wr.heap.size by have:=HW.out.size;have:=(Array.getElem?_eq_some_iff.1 HA2.out).1;omega)
                  have hne:=HNE.out
                  have HAT:=As (show atOk l k = true by simp [atOk,K1.out,b2,c3,J2.out,b5])
                  clear s0 s1 s2 QJ QJ2 hA4 hA3 hAt Q2 QR g0 g1 g2 g3 g4 g5 g6 g7
                  cases he : EI (rc l k).kind
                  · have HE:=As he
                    clear he
                    go_wp2_with (go_at_call 133;refine (Lr (r:=rc l k) HE.out _).mono ?_;rintro e w3 ⟨rfl,hb3⟩;have HA6:=As ((hb3.block w.heap.size (by have:=(Array.getElem?_eq_some_iff.1 HA5.out).1;exact this)).trans HA5.out);have HB3:=As hb3;clear hb3)
                    go_roundw
                    case rel => exact ⟨k + 1,by omega,by go_num,⟨by rw [Eh,HL.out,HAT.out];rfl⟩,⟨⟨_,_,_,HA6.out,FQ HE.out HX.out.1,FQ HE.out HX.out.2.1,FQ HE.out HX.out.2.2⟩⟩,⟨(HBX.out.setCell (p:=⟨w.heap.size,_,none⟩) (Nat.le_refl _) _).trans (HB3.out.mono (by rw [World.size_setCell];exact HBX.out.size))⟩⟩
                    case measure => simp [intOf];omega
                  · have HE:=As he
                    clear he
                    go_wp2_with (go_at_call 133;refine (Lr (r:=rc l k) HE.out _).mono ?_;rintro e w3 ⟨rfl,hb3⟩;have hA6:=(hb3.block w.heap.size (by have:=(Array.getElem?_eq_some_iff.1 HA5.out).1;exact this)).trans HA5.out;have HB3:=As hb3;obtain ⟨yB,hyB⟩:=Px hA6 t1 (by omega : (rc l k).tx ≤ 3);have hfB:=FU hA6 (rc l k).tx.toNat;have HA7:=As (Lx (v:=0) hA6 t1 (by omega : (rc l k).tx ≤ 3));have y1:=CF hb3 (QI HNE.out z1);clear hb3 hA6)
                    go_roundw
                    case rel => exact ⟨k + 1,by omega,by go_num,⟨by rw [Eh,HL.out,HAT.out];rfl⟩,⟨⟨_,_,_,HA7.out,Gw HE.out HX.out.1,Gw HE.out HX.out.2.1,Gw HE.out HX.out.2.2⟩⟩,⟨((HBX.out.setCell (p:=⟨w.heap.size,_,none⟩) (Nat.le_refl _) _).trans (HB3.out.mono (by rw [World.size_setCell];exact HBX.out.size))).setCell (p:=⟨w.heap.size,_,none⟩) (Nat.le_refl _) _⟩⟩
                    case measure => simp [intOf];omega
                · refine Bj (fun w' => Below w2.heap.size w2 w') rfl rfl (by kernel_rfl) (Aj (Below.refl _ _)) (fun HT => ?_)
                  repeat (first
                    | (refine BX (fun wx hS => ?_))
                    | ((with_reducible refine BI (f:=132) rfl ?_);refine BJ (v:=.bool true) (args:=#[(rc l k).val]) HT rfl Tryz.func132 (by kernel_rfl) rfl rfl (by rfl) (fun _ _ _ h => h) (by simp only [List.map_toArray,List.map_cons,List.map_nil];rfl) (fun wx hS => (Ey (r:=rc l k) K1.out _).mono fun e w1 h => ⟨h.1,bj hS h.2⟩) ?_;simp only [sc0,sc1])
                    | (refine BH HT rfl (by rfl) (fun _ _ _ h => h) ?_;simp only [sc0,sc1])
                    | (refine BV (v:=?_) HT rfl (by rfl) (fun _ _ _ h => h) (fun wx hS => ?_) ?_;rotate_left;(obtain ⟨z0,z1,z2,z3,z4,z5,z6,z7⟩:=Q2.up hS;obtain ⟨y0,y1,y2,y3,y4,y5,y6,y7⟩:=QJ2.up hS;have zA:=bc hS hAt;go_simp;with_reducible rfl);rotate_left;simp only [sc0,sc1]))
                  go_wp2
                  go_ret
                  exact ⟨AJ (by rw [← HV.out];simp [AP,HF.out (by simp [atOk,J2.out,b5];intro _ _ _;exact e4.out)]),(HW.out.trans (hb2.mono HW.out.size)).trans (hS.mono ((HW.out.trans (hb2.mono HW.out.size)).size))⟩
              · refine Bj (fun w' => Below w2.heap.size w2 w') rfl rfl (by kernel_rfl) (Aj (Below.refl _ _)) (fun HT => ?_)
                repeat (first
                  | (refine BX (fun wx hS => ?_))
                  | ((with_reducible refine BI (f:=132) rfl ?_);refine BJ (v:=.bool true) (args:=#[(rc l k).val]) HT rfl Tryz.func132 (by kernel_rfl) rfl rfl (by rfl) (fun _ _ _ h => h) (by simp only [List.map_toArray,List.map_cons,List.map_nil];rfl) (fun wx hS => (Ey (r:=rc l k) K1.out _).mono fun e w1 h => ⟨h.1,bj hS h.2⟩) ?_;simp only [sc0,sc1])
                  | (refine BH HT rfl (by rfl) (fun _ _ _ h => h) ?_;simp only [sc0,sc1])
                  | (refine BV (v:=?_) HT rfl (by rfl) (fun _ _ _ h => h) (fun wx hS => ?_) ?_;rotate_left;(obtain ⟨z0,z1,z2,z3,z4,z5,z6,z7⟩:=Q2.up hS;have zA:=bc hS hAt;go_simp;with_reducible rfl);rotate_left;simp only [sc0,sc1]))
                have HBX:=As ((HW.out.trans (hb2.mono HW.out.size)).trans (hS.mono ((HW.out.trans (hb2.mono HW.out.size)).size)))
                have hA4:=(hS.block w.heap.size (Array.getElem?_eq_some_iff.1 hA3).1).trans hA3
                have HA5:=As (Lx (v:=(k : Int) + 1) hA4 t1 (by omega : (rc l k).tx ≤ 3))
                obtain ⟨yA,hyA⟩:=Px hA4 t1 (by omega : (rc l k).tx ≤ 3)
                have hfA:=FU hA4 (rc l k).tx.toNat
                obtain ⟨z0,z1,z2,z3,z4,z5,z6,z7⟩:=Q2.up hS
                have HNE:=As (show w.heap.size ≠ wr.heap.size by have:=HW.out.size;have:=(Array.getElem?_eq_some_iff.1 HA2.out).1;omega)
                have hne:=HNE.out
                have HAT:=As (show atOk l k = true by simp [atOk,K1.out,b2,c3,c4])
                clear hA4 hA3 hAt Q2 QR g0 g1 g2 g3 g4 g5 g6 g7
                cases he : EI (rc l k).kind
                · have HE:=As he
                  clear he
                  go_wp2_with (go_at_call 133;refine (Lr (r:=rc l k) HE.out _).mono ?_;rintro e w3 ⟨rfl,hb3⟩;have HA6:=As ((hb3.block w.heap.size (by have:=(Array.getElem?_eq_some_iff.1 HA5.out).1;exact this)).trans HA5.out);have HB3:=As hb3;clear hb3)
                  go_roundw
                  case rel => exact ⟨k + 1,by omega,by go_num,⟨by rw [Eh,HL.out,HAT.out];rfl⟩,⟨⟨_,_,_,HA6.out,FQ HE.out HX.out.1,FQ HE.out HX.out.2.1,FQ HE.out HX.out.2.2⟩⟩,⟨(HBX.out.setCell (p:=⟨w.heap.size,_,none⟩) (Nat.le_refl _) _).trans (HB3.out.mono (by rw [World.size_setCell];exact HBX.out.size))⟩⟩
                  case measure => simp [intOf];omega
                · have HE:=As he
                  clear he
                  go_wp2_with (go_at_call 133;refine (Lr (r:=rc l k) HE.out _).mono ?_;rintro e w3 ⟨rfl,hb3⟩;have hA6:=(hb3.block w.heap.size (by have:=(Array.getElem?_eq_some_iff.1 HA5.out).1;exact this)).trans HA5.out;have HB3:=As hb3;obtain ⟨yB,hyB⟩:=Px hA6 t1 (by omega : (rc l k).tx ≤ 3);have hfB:=FU hA6 (rc l k).tx.toNat;have HA7:=As (Lx (v:=0) hA6 t1 (by omega : (rc l k).tx ≤ 3));have y1:=CF hb3 (QI HNE.out z1);clear hb3 hA6)
                  go_roundw
                  case rel => exact ⟨k + 1,by omega,by go_num,⟨by rw [Eh,HL.out,HAT.out];rfl⟩,⟨⟨_,_,_,HA7.out,Gw HE.out HX.out.1,Gw HE.out HX.out.2.1,Gw HE.out HX.out.2.2⟩⟩,⟨((HBX.out.setCell (p:=⟨w.heap.size,_,none⟩) (Nat.le_refl _) _).trans (HB3.out.mono (by rw [World.size_setCell];exact HBX.out.size))).setCell (p:=⟨w.heap.size,_,none⟩) (Nat.le_refl _) _⟩⟩
                  case measure => simp [intOf];omega
          · refine Bj (fun w' => Below w2.heap.size w2 w') rfl rfl (by kernel_rfl) (Aj (Below.refl _ _)) (fun HT => ?_)
            repeat (first
              | (refine BX (fun wx hS => ?_))
              | ((with_reducible refine BI (f:=132) rfl ?_);refine BJ (v:=.bool true) (args:=#[(rc l k).val]) HT rfl Tryz.func132 (by kernel_rfl) rfl rfl (by rfl) (fun _ _ _ h => h) (by simp only [List.map_toArray,List.map_cons,List.map_nil];rfl) (fun wx hS => (Ey (r:=rc l k) K1.out _).mono fun e w1 h => ⟨h.1,bj hS h.2⟩) ?_;simp only [sc0,sc1])
              | (refine BH HT rfl (by rfl) (fun _ _ _ h => h) ?_;simp only [sc0,sc1])
              | (refine BV (v:=?_) HT rfl (by rfl) (fun _ _ _ h => h) (fun wx hS => ?_) ?_;rotate_left;(obtain ⟨z0,z1,z2,z3,z4,z5,z6,z7⟩:=Q2.up hS;have zA:=bc hS hAt;go_simp;with_reducible rfl);rotate_left;simp only [sc0,sc1]))
            go_outline
            go_wp2
            go_ret
            exact ⟨AJ (by rw [← HV.out];simp [AP,HF.out (by simp [atOk,b2])]),(HW.out.trans (hb2.mono HW.out.size)).trans (hS.mono ((HW.out.trans (hb2.mono HW.out.size)).size))⟩
      · obtain rfl : k = l.length:=by omega
        go_wp2
        go_ret
        exact ⟨AJ (by rw [← HV.out,AP,HL.out,decide_eq_true HLEN.out];rfl),HW.out⟩
  · go_enter Tryz.func76,Tryz.ntmps76
    go_wp2
    go_ret
    exact ⟨AJ (by rw [← HV.out,AP,decide_eq_false hlen,Bool.and_false]),(Below.refl _ _).alloc (Nat.le_refl _) _⟩
abbrev Eng.ag (e : Eng) (vd vm vl : Value) : Value:=.agg #[vd,vm,vl, .int .i64 e.safe, .bool e.down]
def Ai (w : World) (g : Nat) (e : Eng) (vd vm vl : Value) : Prop:=w.heap[g]? = some (.cells #[vd,vm,vl, .int .i64 e.safe, .bool e.down] 28 (0,0))
section
variable {w w1 : World} {g : Nat} {e : Eng} {vd vm vl : Value}
theorem Ai.c0 (h : Ai w g e vd vm vl) : w.cell? ⟨g,0,none⟩ = some vd:=by unfold Ai at h;simp [World.cell?,h]
theorem Ai.c1 (h : Ai w g e vd vm vl) : w.cell? ⟨g,1,none⟩ = some vm:=by unfold Ai at h;simp [World.cell?,h]
theorem Ai.c2 (h : Ai w g e vd vm vl) : w.cell? ⟨g,2,none⟩ = some vl:=by unfold Ai at h;simp [World.cell?,h]
theorem Ai.c3 (h : Ai w g e vd vm vl) : w.cell? ⟨g,3,none⟩ = some (.int .i64 e.safe):=by unfold Ai at h;simp [World.cell?,h]
theorem Ai.c4 (h : Ai w g e vd vm vl) : w.cell? ⟨g,4,none⟩ = some (.bool e.down):=by unfold Ai at h;simp [World.cell?,h]
theorem Ai.frz (h : Ai w g e vd vm vl) (k : Nat) : w.frozen? ⟨g,k,none⟩ = false:=by unfold Ai at h;simp [World.frozen?,h]
theorem Ai.lt (h : Ai w g e vd vm vl) : g < w.heap.size:=(Array.getElem?_eq_some_iff.1 h).1
theorem Ai.up (h : Ai w g e vd vm vl) (hb : Below w.heap.size w w1) : Ai w1 g e vd vm vl:=(hb.block g h.lt).trans h
theorem Ai.far (h : Ai w g e vd vm vl) {b : Nat} (hne : b ≠ g) (j : Nat) (u : Value) : Ai (w.setCell ⟨b,j,none⟩ u) g e vd vm vl:=(Below.heap_setCell w ⟨b,j,none⟩ u g (Ne.symm hne)).trans h
theorem Ai.mk1 (w : World) (e : Eng) (vd vm vl : Value) : Ai (w.alloc (.cells #[vd,vm,vl, .int .i64 e.safe, .bool e.down] 28)) w.heap.size e vd vm vl:=by
  show (w.heap.push _)[w.heap.size]? = _
  simp
theorem Ai.set0 (h : Ai w g e vd vm vl) (u : Value) : Ai (w.setCell ⟨g,0,none⟩ u) g e u vm vl:=heap_setCell_same h _
theorem Ai.set1 (h : Ai w g e vd vm vl) (u : Value) : Ai (w.setCell ⟨g,1,none⟩ u) g e vd u vl:=heap_setCell_same h _
theorem Ai.set2 (h : Ai w g e vd vm vl) (u : Value) : Ai (w.setCell ⟨g,2,none⟩ u) g e vd vm u:=heap_setCell_same h _
theorem Ai.Cu (h : Ai w g e vd vm vl) (x : Int) : Ai (w.setCell ⟨g,3,none⟩ (.int .i64 x)) g { e with safe:=x } vd vm vl:=heap_setCell_same h _
theorem Ai.Wh (h : Ai w g e vd vm vl) (x : Bool) : Ai (w.setCell ⟨g,4,none⟩ (.bool x)) g { e with down:=x } vd vm vl:=heap_setCell_same h _
structure DF (w : World) (e : Eng) (Ad Am Al : Option Addr) : Prop where
  d : Kd.C Dw w Ad e.disk.length e.disk
  m : Kd.C Dw w Am e.mem.length e.mem
  l : Kd.C C8 w Al e.log.length e.log
theorem DF.up {Ad Am Al : Option Addr} (h : DF w e Ad Am Al) (hb : Below w.heap.size w w1) : DF w1 e Ad Am Al:=⟨BM h.d hb,BM h.m hb,BM h.l hb⟩
abbrev Eng.val (e : Eng) (Ad Am Al : Option Addr) (cd cm cl : Nat) : Value:=e.ag (.slice Ad e.disk.length cd) (.slice Am e.mem.length cm) (.slice Al e.log.length cl)
end
abbrev Eng.obox (e : Eng) (vd vm vl : Value) : Obj:=.cells #[vd,vm,vl, .int .i64 e.safe, .bool e.down] 28
theorem Aw {P : Program} {ops : Array Oper} {l : List Oper} {Q : Exit → Act → World → Prop} {a : Act} {w : World} (e : Eng) {vd vm vl : Value} (h : ∀ w1,Below w.heap.size w w1 → w1.heap.size = w.heap.size + 1 → Ai w1 w.heap.size e vd vm vl → wpList P ops Q l a w1) : wpList P ops Q l a (w.alloc (.cells #[vd,vm,vl, .int .i64 e.safe, .bool e.down] 28)):=
  h _ ((Below.refl _ _).alloc (Nat.le_refl _) _) (BA _ _) (Ai.mk1 w e vd vm vl)
theorem DX {P : Program} {ops : Array Oper} {Q : Exit → Act → World → Prop} {S : Array Bool → Act → World → Prop} {m : Nat} {done : List Nat} {a : Act} (hok : VN ops done = true) (h : ∀ w,S (lsd ops.size done) a w → Q .normal a w) : Reg P ops Q S m done a:=by
  refine ⟨?_⟩
  have hr:=beq_iff_eq.1 hok
  generalize ops.size - done.length = n
  cases n with
  | zero => exact ⟨hr,h⟩
  | succ n => exact ⟨fun _ => h,fun i hi => by rw [hr] at hi;cases hi⟩
theorem Qo (n i j : Nat) (done : List Nat) : lsd n (i :: j :: done) = lsd n (j :: i :: done):=by
  apply Array.ext
  · simp [lsd]
  · intro k h1 h2
    simp [lsd,or_left_comm, ← or_assoc]
abbrev ptr (B : Nat) : Value:=.pointer (some ⟨B,0,none⟩)
theorem Q7 {P : Program} {ops : Array Oper} {Q : Exit → Act → World → Prop} {S : Array Bool → Act → World → Prop} {m : Nat} {done : List Nat} {L : List Value} {D : List Deferred} {o1 o2 : Oper} {ob1 ob2 : Obj} (i j : Nat) {d1 d2 : Nat} (h1 : ops.toList[i]? = some o1) (h2 : ops.toList[j]? = some o2)
    (hok : (Region.ready .any ops (lsd ops.size done) == [i,j] && (Region.ready .any ops (lsd ops.size (i :: done)) == [j] && (Region.ready .any ops (lsd ops.size (j :: done)) == [i] && decide (done.length + 1 < ops.size)))) = true)
    (hd1 : o1.dst = some d1) (hd2 : o2.dst = some d2) (hne : (d1 == d2) = false) (hg1 : ∀ t,Region.wanted o1 t = true) (hg2 : ∀ t,Region.wanted o2 t = true)
    (hr1 : ∀ (a : Act) w,(execOp a.eval o1).run P w = .ok (.value (ptr w.heap.size)) (w.alloc ob1)) (hr2 : ∀ (a : Act) w,(execOp a.eval o2).run P w = .ok (.value (ptr w.heap.size)) (w.alloc ob2))
    (s1 : ∀ w,S (lsd ops.size done) ⟨L.toArray,D⟩ w → S (lsd ops.size (i :: done)) ⟨(L.set d1 (ptr w.heap.size)).toArray,D⟩ (w.alloc ob1))
    (s2 : ∀ w,S (lsd ops.size done) ⟨L.toArray,D⟩ w → S (lsd ops.size (j :: done)) ⟨(L.set d2 (ptr w.heap.size)).toArray,D⟩ (w.alloc ob2))
    (l1 : ∀ B w,S (lsd ops.size (i :: done)) ⟨(L.set d1 (ptr B)).toArray,D⟩ w → B < w.heap.size) (l2 : ∀ B w,S (lsd ops.size (j :: done)) ⟨(L.set d2 (ptr B)).toArray,D⟩ w → B < w.heap.size)
    (s12 : ∀ B w,S (lsd ops.size (i :: done)) ⟨(L.set d1 (ptr B)).toArray,D⟩ w → S (lsd ops.size (j :: i :: done)) ⟨((L.set d1 (ptr B)).set d2 (ptr w.heap.size)).toArray,D⟩ (w.alloc ob2))
    (s21 : ∀ B w,S (lsd ops.size (j :: done)) ⟨(L.set d2 (ptr B)).toArray,D⟩ w → S (lsd ops.size (j :: i :: done)) ⟨((L.set d1 (ptr w.heap.size)).set d2 (ptr B)).toArray,D⟩ (w.alloc ob1))
    (h : ∀ B1 B2,B1 ≠ B2 → Reg P ops Q S m (j :: i :: done) ⟨((L.set d1 (ptr B1)).set d2 (ptr B2)).toArray,D⟩) : Reg P ops Q S m done ⟨L.toArray,D⟩:=by
  simp only [Bool.and_eq_true,beq_iff_eq,decide_eq_true_eq] at hok
  obtain ⟨r0,r1,r2,hl⟩:=hok
  have hne : d1 ≠ d2:=by simpa using hne
  refine AQ [i,j] (by rw [r0];simp;omega) (fun k hk w hS => ?_)
  rcases List.mem_cons.1 hk with rfl | hk
  · refine Jo (w1:=w.alloc ob1) (ptr w.heap.size) h1 (hg1 _) (hr1 _ _) ?_
    rw [hd1,Co]
    refine ⟨s1 w hS,AQ [j] (by rw [r1];simp;omega) (fun k hk w' hS' => ?_)⟩
    obtain rfl:=List.mem_singleton.1 hk
    refine Jo (w1:=w'.alloc ob2) (ptr w'.heap.size) h2 (hg2 _) (hr2 _ _) ?_
    rw [hd2,Co]
    exact ⟨s12 _ w' hS',h _ _ (by have:=l1 _ w' hS';omega)⟩
  · obtain rfl:=List.mem_singleton.1 hk
    refine Jo (w1:=w.alloc ob2) (ptr w.heap.size) h2 (hg2 _) (hr2 _ _) ?_
    rw [hd2,Co]
    refine ⟨s2 w hS,AQ [i] (by rw [r2];simp;omega) (fun k hk w' hS' => ?_)⟩
    obtain rfl:=List.mem_singleton.1 hk
    refine Jo (w1:=w'.alloc ob1) (ptr w'.heap.size) h1 (hg1 _) (hr1 _ _) ?_
    rw [hd1,Co]
    have hx:=s21 _ w' hS'
    have hy:=h w'.heap.size w.heap.size (by have:=l2 _ w' hS';omega)
    rw [List.set_comm _ _ hne] at hx hy
    rw [Qo]
    refine ⟨hx,⟨?_⟩⟩
    have hz:=hy.out
    rw [Qo] at hz
    exact hz
theorem OQ {w : World} {A : Option Addr} {l : List Rec} {n : Nat} (h : Kd.C C8 w A l.length l) (hn : n ≤ l.length) : Kd.C C8 w A (l.take n).length (l.take n):=by
  exact Kd.Sc h hn
end Go.Proofs.YtpjmlpmhgfghbaaGreat
namespace Go.Proofs.YtpjmlpmhgfghbaaGreat
def Agree (l l' : List Rec) (n : Nat) : Prop := ∀ k,k < n → rc l k = rc l' k
theorem Agree.le {l l' : List Rec} {n m : Nat} (h : Agree l l' n) (hm : m ≤ n) : Agree l l' m:=fun k hk => h k (by omega)
theorem Agree.symm {l l' : List Rec} {n : Nat} (h : Agree l l' n) : Agree l' l n:=fun k hk => (h k hk).symm
theorem KL (l : List Rec) (n : Nat) : Agree (l.take n) l n:=fun k hk => by
  simp [rc,List.getD_eq_getElem?_getD,List.getElem?_take,hk]
theorem Cn (l m : List Rec) : Agree (l ++ m) l l.length:=fun k hk => by
  simp [rc,List.getD_eq_getElem?_getD,List.getElem?_append_left hk]
theorem M4 {l m : List Rec} {k : Nat} (h : k < l.length) : rc (l ++ m) k = rc l k:=Cn l m k h
theorem BL (l : List Rec) (r : Rec) : rc (l ++ [r]) l.length = r:=by
  simp [rc,List.getD_eq_getElem?_getD]
theorem CP {l l' : List Rec} (tx : Int) : ∀ {n : Nat},Agree l l' n → Ao l tx n = Ao l' tx n
  | 0,_ => rfl
  | n + 1,h => by
    unfold Ao
    rw [h n (by omega),CP tx (h.le (Nat.le_succ n))]
theorem Mv {l l' : List Rec} {n k : Nat} (h : Agree l l' n) (hk : k < n) : BK l (k + 1) = BK l' (k + 1):=by
  simp only [BK,Nat.add_sub_cancel]
  rw [h k hk]
theorem Qk {l l' : List Rec} {n k : Nat} (h : Agree l l' n) (hk : k < n) : EG l (k + 1) = EG l' (k + 1):=by
  simp only [EG,Nat.add_sub_cancel]
  rw [h k hk]
theorem J4 {l l' : List Rec} {n : Nat} (h : Agree l l' n) (m : Nat) : m ≤ n → BD l m = BD l' m:=by
  induction m using Nat.strongRecOn with
  | _ m ih =>
    intro hm
    match m with
    | 0 => rw [Ck,Ck]
    | m + 1 =>
      rw [BD,BD,Mv h (by omega)]
      split
      · rw [ih _ (by omega) (by omega)]
      · rfl
theorem Nl {l l' : List Rec} {n : Nat} (h : Agree l l' n) (m : Nat) : m ≤ n → CW l m = CW l' m:=by
  induction m using Nat.strongRecOn with
  | _ m ih =>
    intro hm
    match m with
    | 0 => rw [D6,D6]
    | m + 1 =>
      rw [CW,CW,Mv h (by omega),Qk h (by omega),h m (by omega)]
      split
      · split
        · rw [ih _ (by omega) (by omega)]
        · rfl
      · split
        · split
          · rw [ih _ (by omega) (by omega)]
          · rfl
        · split
          · rw [ih _ (by omega) (by omega)]
          · rfl
theorem Eg {l : List Rec} (n : Nat) : ∀ m ∈ BD l n,0 < m ∧ m ≤ n:=by
  induction n using Nat.strongRecOn with
  | _ n ih =>
    intro m hm
    match n with
    | 0 => rw [Ck] at hm;cases hm
    | n + 1 =>
      rw [BD] at hm
      rcases List.mem_cons.1 hm with rfl | hm
      · omega
      · split at hm
        · have:=ih _ (by omega) m hm
          omega
        · cases hm
theorem PX {l : List Rec} (n : Nat) : ∀ m ∈ CW l n,0 < m ∧ m ≤ n:=by
  induction n using Nat.strongRecOn with
  | _ n ih =>
    intro m hm
    match n with
    | 0 => rw [D6] at hm;cases hm
    | n + 1 =>
      rw [CW] at hm
      split at hm
      · rcases List.mem_cons.1 hm with rfl | hm
        · omega
        · split at hm
          · have:=ih _ (by omega) m hm
            omega
          · cases hm
      · split at hm
        · split at hm
          · have:=ih _ (by omega) m hm
            omega
          · cases hm
        · split at hm
          · have:=ih _ (by omega) m hm
            omega
          · cases hm
theorem Km {α : Type} {l : List α} {p q : α → Bool} (h : ∀ x ∈ l,p x = q x) : l.any p = l.any q:=by
  induction l with
  | nil => rfl
  | cons a t ih => rw [List.any_cons,List.any_cons,h a (by simp),ih fun x hx => h x (by simp [hx])]
theorem RF {l l' : List Rec} {n : Nat} (h : Agree l l' n) (p : Int) {m : Nat} (hm : m ≤ n) : Gr l m p = Gr l' m p:=by
  rw [Gr,Gr,J4 h m hm]
  exact Km fun x hx => by
    have:=Eg m x hx
    rw [h (x - 1) (by omega)]
theorem Qr {l l' : List Rec} {n : Nat} (h : Agree l l' n) (p : Int) {m : Nat} (hm : m ≤ n) : EP l m p = EP l' m p:=by
  rw [EP,EP,J4 h m hm]
  exact Km fun x hx => by
    have:=Eg m x hx
    rw [h (x - 1) (by omega)]
theorem RN {l l' : List Rec} {n k : Nat} (h : Agree l l' n) (hk : k < n) : atOk l k = atOk l' k:=by
  have hl:=CP (rc l' k).tx (h.le (show k ≤ n by omega))
  unfold atOk
  rw [h k hk,hl]
  by_cases hn : (rc l' k).next ≤ k
  · by_cases h0 : (rc l' k).next ≤ 0
    · simp [h0]
    · rw [h ((rc l' k).next.toNat - 1) (by omega)]
  · simp [hn]
theorem IU {l l' : List Rec} : ∀ {n : Nat},Agree l l' n → Eh l n = Eh l' n
  | 0,_ => rfl
  | n + 1,h => by
    unfold Eh
    rw [IU (h.le (Nat.le_succ n)),RN h (by omega)]
theorem Ee {l l' : List Rec} (p : Int) : ∀ {n : Nat},Agree l l' n → BF l p n = BF l' p n
  | 0,_ => rfl
  | n + 1,h => by
    unfold BF
    rw [Ee p (h.le (Nat.le_succ n)),h n (by omega)]
theorem KD {l : List Rec} (h : AP l = true) (n : Nat) : AP (l.take n) = true:=by
  simp only [AP,Bool.and_eq_true,decide_eq_true_eq] at h ⊢
  rw [List.length_take]
  refine ⟨?_,by omega⟩
  rcases Nat.lt_or_ge n l.length with hn | hn
  · rw [Nat.min_eq_left (by omega),IU (KL l n)]
    have hp : ∀ {m k},Eh l m = true → k ≤ m → Eh l k = true:=by
      intro m
      induction m with
      | zero => intro k hm hk; obtain rfl : k = 0 := by omega
                exact hm
      | succ m ih =>
        intro k hm hk
        rcases Nat.eq_or_lt_of_le hk with rfl | hk
        · exact hm
        · simp only [Eh,Bool.and_eq_true] at hm
          exact ih hm.1 (by omega)
    exact hp h.1 (by omega)
  · rw [List.take_of_length_le hn,Nat.min_eq_right hn]
    exact h.1
theorem IQ {l : List Rec} {r : Rec} (h : AP l = true) (hr : CU r = true) (hp : r.prev = Ao l r.tx l.length) (hn : r.next ≤ l.length) (hn2 : r.next ≤ 0 ∨ (rc l (r.next.toNat - 1)).tx = r.tx) (hl : l.length + 1 ≤ 150) : AP (l ++ [r]) = true:=by
  simp only [AP,Bool.and_eq_true,decide_eq_true_eq] at h ⊢
  rw [List.length_append,List.length_singleton]
  refine ⟨?_,hl⟩
  rw [Eh,IU (Cn l [r]),h.1,Bool.true_and,atOk,BL,CP r.tx (Cn l [r])]
  simp only [Bool.and_eq_true,beq_iff_eq,decide_eq_true_eq,Bool.or_eq_true]
  refine ⟨⟨⟨hr,hp⟩,hn⟩,?_⟩
  rcases hn2 with hn2 | hn2
  · exact .inl hn2
  · by_cases h0 : r.next ≤ 0
    · exact .inl h0
    · refine .inr ?_
      rw [M4 (by omega)]
      exact hn2
def U (l : List Rec) (tx : Int) (n : Nat) : List Nat:=CW l (Ao l tx n)
def Ch (l : List Rec) (tx : Int) (n : Nat) : List Nat:=BD l (Ao l tx n)
def has (l : List Rec) (tx : Int) (n : Nat) (p : Int) : Bool:=Gr l (Ao l tx n) p
theorem SK {l : List Rec} {tx p : Int} {n : Nat} : has l tx n p = true ↔ ∃ m ∈ Ch l tx n,(rc l (m - 1)).page = p:=by
  simp [has,Gr,Ch]
theorem FR {l : List Rec} {tx : Int} {k : Nat} (h : (rc l k).tx ≠ tx) : Ao l tx (k + 1) = Ao l tx k:=by
  rw [Ao,if_neg h]
theorem Iq {l : List Rec} {tx : Int} {k : Nat} (h : (rc l k).tx = tx) (he : EI (rc l k).kind = true) : Ao l tx (k + 1) = 0:=by
  rw [Ao,if_pos h,if_pos he]
theorem Fa {l : List Rec} {tx : Int} {k : Nat} (h : (rc l k).tx = tx) (he : EI (rc l k).kind = false) : Ao l tx (k + 1) = k + 1:=by
  rw [Ao,if_pos h,if_neg (by simp [he])]
theorem Hw {l : List Rec} {tx : Int} {k : Nat} (h : (rc l k).tx ≠ tx) : U l tx (k + 1) = U l tx k:=by rw [U,FR h,U]
theorem OH {l : List Rec} {tx : Int} {k : Nat} (h : (rc l k).tx = tx) (he : EI (rc l k).kind = true) : U l tx (k + 1) = []:=by rw [U,Iq h he,D6]
theorem Eb {k : Int} (h : k = 1 ∨ k = 2 ∨ k = 3 ∨ k = 6) : EI k = false:=by
  simp only [EI,Bool.or_eq_false_iff,beq_eq_false_iff_ne];omega
theorem Tc {l : List Rec} (hl : AP l = true) {k : Nat} (hk : k < l.length) (h : (rc l k).kind = 1 ∨ (rc l k).kind = 2) : U l (rc l k).tx (k + 1) = (k + 1) :: U l (rc l k).tx k:=by
  have F:=AB hl hk
  rw [U,Fa rfl (Eb (by omega)),KS h F.prev_le,F.last,U]
theorem RS {l : List Rec} (hl : AP l = true) {k : Nat} (hk : k < l.length) (h : (rc l k).kind = 3) : U l (rc l k).tx (k + 1) = U l (rc l k).tx k:=by
  have F:=AB hl hk
  rw [U,Fa rfl (Eb (by omega)),LV (by omega) (by omega) (by omega) F.prev_le,F.last,U]
theorem NW {l : List Rec} {tx : Int} {k : Nat} (h : (rc l k).tx ≠ tx) : Ch l tx (k + 1) = Ch l tx k:=by rw [Ch,FR h,Ch]
theorem WN {l : List Rec} {tx : Int} {k : Nat} (h : (rc l k).tx = tx) (he : EI (rc l k).kind = true) : Ch l tx (k + 1) = []:=by rw [Ch,Iq h he,Ck]
theorem LK {l : List Rec} (hl : AP l = true) {k : Nat} (hk : k < l.length) (h : EI (rc l k).kind = false) : Ch l (rc l k).tx (k + 1) = (k + 1) :: Ch l (rc l k).tx k:=by
  have F:=AB hl hk
  rw [Ch,Fa rfl h,DV F.prev_le,F.last,Ch]
structure Gt (l : List Rec) (k : Nat) : Prop where
  own : (rc l k).kind = 2 → (rc l k).new ≠ 0 → (rc l k).old = 0
  Jq : (rc l k).kind = 6 → ∃ m ms,U l (rc l k).tx k = m :: ms ∧ rc l k = Bq (rc l (m - 1)) (rc l k).prev
  ended : (rc l k).kind = 5 → U l (rc l k).tx k = []
  fin : EI (rc l k).kind = true → 0 < Ao l (rc l k).tx k
  lock : (rc l k).kind = 1 ∨ (rc l k).kind = 2 ∨ (rc l k).kind = 3 → ∀ t,t ≠ (rc l k).tx → has l t k (rc l k).page = false
def EJ (l : List Rec) : Prop := ∀ k,k < l.length → Gt l k
theorem Gs {l l' : List Rec} {n : Nat} (h : Agree l l' n) (tx : Int) {k : Nat} (hk : k ≤ n) : U l tx k = U l' tx k:=by
  rw [U,U,CP tx (h.le hk)]
  exact Nl h _ (by have:=Bb l' tx k;omega)
theorem R4 {l l' : List Rec} {n : Nat} (h : Agree l l' n) (tx : Int) {k : Nat} (hk : k ≤ n) : Ch l tx k = Ch l' tx k:=by
  rw [Ch,Ch,CP tx (h.le hk)]
  exact J4 h _ (by have:=Bb l' tx k;omega)
theorem JW {l l' : List Rec} {n : Nat} (h : Agree l l' n) (tx p : Int) {k : Nat} (hk : k ≤ n) : has l tx k p = has l' tx k p:=by
  rw [has,has,CP tx (h.le hk)]
  exact RF h p (by have:=Bb l' tx k;omega)
theorem MR {l : List Rec} {tx : Int} {n m : Nat} (h : m ∈ U l tx n) : 0 < m ∧ m ≤ n:=by
  have:=PX _ m h
  have:=Bb l tx n
  omega
theorem Ka {l l' : List Rec} {n k : Nat} (h : Agree l l' n) (hk : k < n) (hp : Gt l k) : Gt l' k:=by
  have e:=h k hk
  obtain ⟨h1,h2,h3,h4,h5⟩:=hp
  rw [e] at h1 h2 h3 h4 h5
  refine ⟨h1,fun k6 => ?_,fun k5 => ?_,fun he => ?_,fun hk3 t ht => ?_⟩
  · obtain ⟨m,ms,hm,hb⟩:=h2 k6
    have hm2 : m ∈ U l (rc l' k).tx k:=by rw [hm];simp
    have:=MR hm2
    refine ⟨m,ms,by rw [← Gs h _ (by omega)];exact hm,?_⟩
    rw [← h (m - 1) (by omega)]
    exact hb
  · rw [← Gs h _ (by omega)];exact h3 k5
  · rw [← CP _ (h.le (by omega))];exact h4 he
  · rw [← JW h _ _ (by omega)];exact h5 hk3 t ht
theorem Qb {l : List Rec} (h : EJ l) (n : Nat) : EJ (l.take n):=fun k hk => by
  rw [List.length_take] at hk
  exact Ka (KL l n).symm (by omega) (h k (by omega))
theorem F6 {l : List Rec} {r : Rec} (h : EJ l) (hr : Gt (l ++ [r]) l.length) : EJ (l ++ [r]):=fun k hk => by
  rw [List.length_append,List.length_singleton] at hk
  rcases Nat.lt_or_ge k l.length with hlt | hge
  · exact Ka (Cn l [r]).symm hlt (h k hlt)
  · obtain rfl : k = l.length:=by omega
    exact hr
theorem RQ {l : List Rec} (hl : AP l = true) (hp : EJ l) {k : Nat} (hk : k < l.length) (h : (rc l k).kind = 6) : ∃ m,U l (rc l k).tx k = m :: U l (rc l k).tx (k + 1) ∧ rc l k = Bq (rc l (m - 1)) (rc l k).prev:=by
  have F:=AB hl hk
  obtain ⟨m,ms,hm,hb⟩:=(hp k hk).Jq h
  refine ⟨m,?_,hb⟩
  have hmk:=MR (show m ∈ U l (rc l k).tx k by rw [hm];simp)
  have hnx : EG l (k + 1) = BK l m:=by
    simp only [EG,BK,Nat.add_sub_cancel]
    rw [hb]
    rfl
  obtain ⟨h1,h2,h3,h4⟩:=FM _ m ms hm
  have Fm:=AB hl (k:=m - 1) (by omega)
  have hpm:=Fm.prev_le
  rw [show m - 1 + 1 = m by omega] at hpm
  rw [hm,(h4 (by omega)).1,U,Fa rfl (Eb (by omega)),LQ h F.next_le,hnx]
theorem KI {l : List Rec} (hl : AP l = true) {k : Nat} (hk : k < l.length) : (rc l k).kind = 1 ∨ (rc l k).kind = 2 ∨ (rc l k).kind = 3 ∨ (rc l k).kind = 4 ∨ (rc l k).kind = 5 ∨ (rc l k).kind = 6:=by
  have:=(AB hl hk).ok
  rw [D7] at this
  omega
theorem VP {l : List Rec} (hl : AP l = true) (hp : EJ l) (tx : Int) : ∀ n,n ≤ l.length → ∀ m ∈ U l tx n,m ∈ Ch l tx n
  | 0,_,m,h => by simp [U,Ao,D6] at h
  | n + 1,hn,m,h => by
    have ih:=VP hl hp tx n (by omega)
    by_cases ht : (rc l n).tx = tx
    · subst ht
      rcases KI hl (k:=n) (by omega) with hk | hk | hk | hk | hk | hk
      · rw [LK hl (by omega) (Eb (by omega))]
        rw [Tc hl (by omega) (.inl hk)] at h
        rcases List.mem_cons.1 h with rfl | h
        · simp
        · exact List.mem_cons_of_mem _ (ih m h)
      · rw [LK hl (by omega) (Eb (by omega))]
        rw [Tc hl (by omega) (.inr hk)] at h
        rcases List.mem_cons.1 h with rfl | h
        · simp
        · exact List.mem_cons_of_mem _ (ih m h)
      · rw [LK hl (by omega) (Eb (by omega))]
        rw [RS hl (by omega) hk] at h
        exact List.mem_cons_of_mem _ (ih m h)
      · rw [OH rfl (by rw [hk];rfl)] at h;cases h
      · rw [OH rfl (by rw [hk];rfl)] at h;cases h
      · rw [LK hl (by omega) (Eb (by omega))]
        obtain ⟨m',hm',_⟩:=RQ hl hp (k:=n) (by omega) hk
        exact List.mem_cons_of_mem _ (ih m (by rw [hm'];exact List.mem_cons_of_mem _ h))
    · rw [Hw ht] at h
      rw [NW ht]
      exact ih m h
theorem QF {l : List Rec} (hl : AP l = true) {k : Nat} (hk : k < l.length) (h : EI (rc l k).kind = false) (p : Int) : has l (rc l k).tx (k + 1) p = ((rc l k).page == p || has l (rc l k).tx k p):=by
  have F:=AB hl hk
  rw [has,Fa rfl h,OE F.prev_le,F.last,has]
theorem Fb {l : List Rec} {tx : Int} {k : Nat} (h : (rc l k).tx ≠ tx) (p : Int) : has l tx (k + 1) p = has l tx k p:=by rw [has,FR h,has]
theorem SL {l : List Rec} {tx : Int} {k : Nat} (h : (rc l k).tx = tx) (he : EI (rc l k).kind = true) (p : Int) : has l tx (k + 1) p = false:=by rw [has,Iq h he,Iu]
theorem NI {l : List Rec} (hl : AP l = true) (hp : EJ l) {tx : Int} {n m : Nat} (hn : n ≤ l.length) (h : m ∈ U l tx n) : has l tx n (rc l (m - 1)).page = true:=SK.2 ⟨m,VP hl hp tx n hn m h,rfl⟩
theorem GL {l : List Rec} (hl : AP l = true) (hp : EJ l) : ∀ n,n ≤ l.length → ∀ t t' p,t ≠ t' → has l t n p = true → has l t' n p = false
  | 0,_,t,t',p,_,h => by simp [has,Ao,Iu] at h
  | n + 1,hn,t,t',p,hne,h => by
    have ih:=GL hl hp n (by omega)
    have hn' : n < l.length:=by omega
    cases he : EI (rc l n).kind
    · have hnew : ∀ s,s ≠ (rc l n).tx → has l s n (rc l n).page = false:=by
        intro s hs
        rcases KI hl hn' with hk | hk | hk | hk | hk | hk
        · exact (hp n hn').lock (by omega) s hs
        · exact (hp n hn').lock (by omega) s hs
        · exact (hp n hn').lock (by omega) s hs
        · rw [hk] at he;cases he
        · rw [hk] at he;cases he
        · obtain ⟨m,hm,hb⟩:=RQ hl hp hn' hk
          have h1:=NI hl hp (tx:=(rc l n).tx) (n:=n) (m:=m) (by omega) (by rw [hm];simp)
          have h2 : (rc l n).page = (rc l (m - 1)).page:=by rw [hb];rfl
          rw [h2]
          exact ih _ _ _ (Ne.symm hs) h1
      by_cases ht : (rc l n).tx = t
      · subst ht
        rw [Fb hne]
        rw [QF hl hn' he,Bool.or_eq_true,beq_iff_eq] at h
        rcases h with rfl | h
        · exact hnew t' (Ne.symm hne)
        · exact ih _ _ _ hne h
      · rw [Fb ht] at h
        by_cases ht' : (rc l n).tx = t'
        · subst ht'
          rw [QF hl hn' he,ih _ _ _ hne h,Bool.or_false,beq_eq_false_iff_ne]
          rintro rfl
          rw [hnew t hne] at h
          cases h
        · rw [Fb ht']
          exact ih _ _ _ hne h
    · by_cases ht : (rc l n).tx = t
      · rw [SL ht he] at h;cases h
      · rw [Fb ht] at h
        by_cases ht' : (rc l n).tx = t'
        · exact SL ht' he p
        · rw [Fb ht']
          exact ih _ _ _ hne h
def F (l : List Rec) (n : Nat) (p t : Int) : List Nat:=(U l t n).filter fun m => (rc l (m - 1)).page == p
def UA (l : List Rec) (n : Nat) (p : Int) : List Nat:=F l n p 1 ++ (F l n p 2 ++ F l n p 3)
theorem Vf {l : List Rec} (hl : AP l = true) (hp : EJ l) {n : Nat} (hn : n ≤ l.length) {p t : Int} (h : has l t n p = false) : F l n p t = []:=by
  rw [F,List.filter_eq_nil_iff]
  intro m hm
  have h1:=NI hl hp hn hm
  rw [beq_iff_eq]
  rintro rfl
  rw [h] at h1
  cases h1
theorem Jt {l : List Rec} (hl : AP l = true) {k : Nat} (hk : k < l.length) : (rc l k).tx = 1 ∨ (rc l k).tx = 2 ∨ (rc l k).tx = 3:=by
  have F:=AB hl hk
  have:=F.tx1
  have:=F.tx3
  omega
theorem KM {l : List Rec} (hl : AP l = true) (hp : EJ l) {n : Nat} (hn : n ≤ l.length) {p t : Int} (ht : t = 1 ∨ t = 2 ∨ t = 3) (h : ∀ s,s ≠ t → has l s n p = false) : UA l n p = F l n p t:=by
  have hF : ∀ s,s ≠ t → F l n p s = []:=fun s hs => Vf hl hp hn (h s hs)
  rw [UA]
  rcases ht with rfl | rfl | rfl
  · rw [hF 2 (by decide),hF 3 (by decide)];simp
  · rw [hF 1 (by decide),hF 3 (by decide)];simp
  · rw [hF 1 (by decide),hF 2 (by decide)];simp
theorem ES {l l' : List Rec} {n : Nat} (h : Agree l l' n) (p : Int) {k : Nat} (hk : k ≤ n) : UA l k p = UA l' k p:=by
  have hF : ∀ t,F l k p t = F l' k p t:=fun t => by
    rw [F,F,Gs h t hk]
    refine List.filter_congr fun m hm => ?_
    have:=MR hm
    rw [h (m - 1) (by omega)]
  rw [UA,UA,hF,hF,hF]
theorem LB {l : List Rec} {n : Nat} {p : Int} (h : ∀ t,F l (n + 1) p t = F l n p t) : UA l (n + 1) p = UA l n p:=by
  rw [UA,UA,h,h,h]
theorem RU {l : List Rec} (hl : AP l = true) (hp : EJ l) {n : Nat} (hn : n < l.length) (h : (rc l n).kind = 1 ∨ (rc l n).kind = 2) (p : Int) : UA l (n + 1) p = if (rc l n).page = p then (n + 1) :: UA l n p else UA l n p:=by
  have hU:=Tc hl hn h
  split
  · rename_i e
    subst e
    have hlk:=(hp n hn).lock (by omega)
    rw [KM hl hp (by omega) (Jt hl hn) hlk,KM hl hp (n:=n + 1) (by omega) (Jt hl hn) (fun s hs => by rw [Fb (Ne.symm hs)];exact hlk s hs),F,hU,List.filter_cons,F]
    simp
  · rename_i e
    refine LB fun t => ?_
    by_cases ht : (rc l n).tx = t
    · subst ht
      rw [F,hU,List.filter_cons,F]
      simp [e]
    · rw [F,Hw ht,F]
theorem Te {l : List Rec} (hl : AP l = true) {n : Nat} (hn : n < l.length) (h : (rc l n).kind = 3) (p : Int) : UA l (n + 1) p = UA l n p:=by
  refine LB fun t => ?_
  by_cases ht : (rc l n).tx = t
  · subst ht
    rw [F,RS hl hn h,F]
  · rw [F,Hw ht,F]
theorem NR {l : List Rec} (hp : EJ l) {n : Nat} (hn : n < l.length) (h : (rc l n).kind = 5) (p : Int) : UA l (n + 1) p = UA l n p:=by
  refine LB fun t => ?_
  by_cases ht : (rc l n).tx = t
  · subst ht
    rw [F,OH rfl (by rw [h];rfl),F,(hp n hn).ended h]
  · rw [F,Hw ht,F]
theorem VA {l : List Rec} (hl : AP l = true) (hp : EJ l) {n : Nat} (hn : n < l.length) (h : (rc l n).kind = 4) (p : Int) : UA l (n + 1) p = if has l (rc l n).tx n p = true then [] else UA l n p:=by
  have hF : F l (n + 1) p (rc l n).tx = []:=by rw [F,OH rfl (by rw [h];rfl)];rfl
  split
  · rename_i e
    rw [KM hl hp (n:=n + 1) (by omega) (Jt hl hn) (fun s hs => by rw [Fb (Ne.symm hs)];exact GL hl hp n (by omega) _ _ _ (Ne.symm hs) e),hF]
  · rename_i e
    refine LB fun t => ?_
    by_cases ht : (rc l n).tx = t
    · subst ht
      rw [hF,Vf hl hp (by omega) (by simpa using e)]
    · rw [F,Hw ht,F]
theorem PD {l : List Rec} (hl : AP l = true) (hp : EJ l) {n : Nat} (hn : n < l.length) (h : (rc l n).kind = 6) : ∃ m,rc l n = Bq (rc l (m - 1)) (rc l n).prev ∧ ∀ p,UA l n p = if (rc l n).page = p then m :: UA l (n + 1) p else UA l (n + 1) p:=by
  obtain ⟨m,hm,hb⟩:=RQ hl hp hn h
  refine ⟨m,hb,fun p => ?_⟩
  have hpg : (rc l n).page = (rc l (m - 1)).page:=by rw [hb];rfl
  have hhas:=NI hl hp (tx:=(rc l n).tx) (n:=n) (m:=m) (by omega) (by rw [hm];simp)
  rw [← hpg] at hhas
  split
  · rename_i e
    subst e
    have hlk : ∀ s,s ≠ (rc l n).tx → has l s n (rc l n).page = false:=fun s hs => GL hl hp n (by omega) _ _ _ (Ne.symm hs) hhas
    rw [KM hl hp (by omega) (Jt hl hn) hlk,KM hl hp (n:=n + 1) (by omega) (Jt hl hn) (fun s hs => by rw [Fb (Ne.symm hs)];exact hlk s hs),F,hm,List.filter_cons,F]
    simp [hpg]
  · rename_i e
    refine (LB fun t => ?_).symm
    by_cases ht : (rc l n).tx = t
    · subst ht
      rw [F,F,hm,List.filter_cons]
      rw [hpg] at e
      simp [e]
    · rw [F,Hw ht,F]
theorem JK (p : Page) (r : Rec) : (Be p r).lsn = p.lsn:=by
  unfold Be
  split
  · rfl
  · split <;> rfl
theorem Tv (p : Page) (r : Rec) (k : Int) : Be ⟨k,p.owner,p.vals⟩ r = ⟨k,(Be p r).owner,(Be p r).vals⟩:=by
  unfold Be
  split
  · rfl
  · split <;> rfl
theorem H9 {p q : Page} (r : Rec) (h : p.owner = q.owner) : (Be p r).owner = (Be q r).owner:=by
  unfold Be
  split
  · exact h
  · split <;> rfl
theorem GI {p : Page} {k : Int} (h : Bv p = true) (h0 : 0 ≤ k) (h1 : k ≤ 150) : Bv ⟨k,p.owner,p.vals⟩ = true:=by
  rw [Cg] at h ⊢
  exact ⟨h0,h1,h.2.2⟩
theorem Qe {p q : Page} (h1 : p.lsn = q.lsn) (h2 : p.owner = q.owner) (h3 : p.vals = q.vals) : p = q:=by
  cases p;cases q
  simp only at h1 h2 h3
  rw [h1,h2,h3]
def Ew (l : List Rec) (c : Page) : List Nat → Page → Prop
  | [],P => Bv P = true ∧ P.owner = c.owner ∧ P.vals = c.vals
  | m :: ms,P => Bv P = true ∧ Ew l c ms (Be P (Bq (rc l (m - 1)) 0))
theorem Ij {l : List Rec} {c : Page} {ms : List Nat} {P : Page} (h : Ew l c ms P) : Bv P = true:=by
  cases ms
  · exact h.1
  · exact h.1
theorem IL {l : List Rec} {c : Page} {k : Int} (h0 : 0 ≤ k) (h1 : k ≤ 150) : ∀ {ms : List Nat} {P : Page},Ew l c ms P → Ew l c ms ⟨k,P.owner,P.vals⟩
  | [],P,h => ⟨GI h.1 h0 h1,h.2⟩
  | m :: ms,P,h => ⟨GI h.1 h0 h1,by rw [Tv];exact IL h0 h1 h.2⟩
theorem CY {l l' : List Rec} {c : Page} {n : Nat} (h : Agree l l' n) : ∀ {ms : List Nat} {P : Page},(∀ m ∈ ms,0 < m ∧ m ≤ n) → Ew l c ms P → Ew l' c ms P
  | [],_,_,hp => hp
  | m :: ms,P,hm,hp => ⟨hp.1,by
    have:=hm m (by simp)
    rw [← h (m - 1) (by omega)]
    exact CY h (fun x hx => hm x (by simp [hx])) hp.2⟩
def Po (l : List Rec) (ms : List Nat) : Prop := ∃ m ∈ ms,(rc l (m - 1)).slot < 0 ∧ (rc l (m - 1)).old = 0
theorem DZ {l l' : List Rec} {n : Nat} {ms : List Nat} (h : Agree l l' n) (hm : ∀ m ∈ ms,0 < m ∧ m ≤ n) (hz : Po l ms) : Po l' ms:=by
  obtain ⟨m,h1,h2,h3⟩:=hz
  have:=hm m h1
  rw [h (m - 1) (by omega)] at h2 h3
  exact ⟨m,h1,h2,h3⟩
theorem FL {p : Page} {r : Rec} (h : r.slot < 0) (h0 : r.new = 0) : Be p r = ⟨p.lsn,0, [0,0,0]⟩:=by
  rw [Be,if_neg (by omega),if_pos h0]
theorem U9 {vs : List Int} (h : vs.length = 3) (h0 : ∀ x ∈ vs,x = 0) : vs = [0,0,0]:=by
  match vs,h with
  | [a,b,c],_ => rw [h0 a (by simp),h0 b (by simp),h0 c (by simp)]
theorem Ql {vs : List Int} {i : Nat} {x y : Int} (h : y ∈ vs.set i x) : y ∈ vs ∨ y = x:=List.mem_or_eq_of_mem_set h
theorem Vl {vs : List Int} {i : Nat} {x : Int} (h : i < vs.length) : x ∈ vs.set i x:=by
  rw [List.mem_iff_getElem?]
  exact ⟨i,by simp [h]⟩
theorem Ub {P P' : Page} {r : Rec} (hr : r.slot ≤ 2) (h : Bv P = true) (h' : Bv P' = true) (ho : P'.owner = P.owner) (hw : Bv (Be P r) = true) : Bv (Be P' r) = true:=by
  rw [Cg] at h h' hw ⊢
  rw [JK] at hw ⊢
  have hown:=H9 (p:=P') (q:=P) r ho
  rw [hown]
  refine ⟨h'.1,h'.2.1,hw.2.2.1,hw.2.2.2.1,JL h'.2.2.2.2.1,?_⟩
  rcases Int.lt_or_le r.slot 0 with hs | hs
  · by_cases h0 : r.new = 0
    · rw [FL hs h0]
      intro x hx
      simp at hx
      rw [hx]
      simp
    · have e1 : Be P' r = ⟨P'.lsn,r.new,P'.vals⟩:=by rw [Be,if_neg (by omega),if_neg h0]
      have e2 : Be P r = ⟨P.lsn,r.new,P.vals⟩:=by rw [Be,if_neg (by omega),if_neg h0]
      rw [e1,e2]
      intro x hx
      have:=h'.2.2.2.2.2 x hx
      exact ⟨this.1,this.2.1,fun e => absurd e h0⟩
  · have e1 : Be P' r = ⟨P'.lsn,P'.owner,P'.vals.set r.slot.toNat r.new⟩:=by rw [Be,if_pos hs]
    have e2 : Be P r = ⟨P.lsn,P.owner,P.vals.set r.slot.toNat r.new⟩:=by rw [Be,if_pos hs]
    rw [e2] at hw ⊢
    rw [e1]
    have hnew:=hw.2.2.2.2.2 r.new (Vl (by rw [h.2.2.2.2.1];omega))
    intro x hx
    rcases Ql hx with hx | rfl
    · have:=h'.2.2.2.2.2 x hx
      exact ⟨this.1,this.2.1,fun e => this.2.2 (by rw [ho];exact e)⟩
    · exact hnew
theorem JA {l : List Rec} {c : Page} : ∀ {ms : List Nat} {P P' : Page},(∀ m ∈ ms,(rc l (m - 1)).slot ≤ 2) → Po l ms → Bv P' = true → P'.owner = P.owner → Ew l c ms P → Ew l c ms P'
  | [],_,_,_,⟨_,h,_⟩,_,_,_ => by cases h
  | m :: ms,P,P',hs,hz,h',ho,h => by
    refine ⟨h',?_⟩
    have hok:=Ij h.2
    have hb : (Bq (rc l (m - 1)) 0).slot ≤ 2:=hs m (by simp)
    have hw:=Ub hb h.1 h' ho hok
    by_cases hzz : (rc l (m - 1)).slot < 0 ∧ (rc l (m - 1)).old = 0
    · have e1 : Be P' (Bq (rc l (m - 1)) 0) = ⟨P'.lsn,0, [0,0,0]⟩:=FL hzz.1 hzz.2
      have e2 : Be P (Bq (rc l (m - 1)) 0) = ⟨P.lsn,0, [0,0,0]⟩:=FL hzz.1 hzz.2
      rw [e1]
      have h2:=h.2
      rw [e2] at h2
      rw [Cg] at h'
      exact IL h'.1 h'.2.1 h2
    · refine JA (fun x hx => hs x (by simp [hx])) ?_ hw (H9 _ ho) h.2
      obtain ⟨x,hx,h1,h2⟩:=hz
      rcases List.mem_cons.1 hx with rfl | hx
      · exact absurd ⟨h1,h2⟩ hzz
      · exact ⟨x,hx,h1,h2⟩
def C9 (P : Page) (l : List Rec) (p : Nat) : Nat → Page
  | 0 => P
  | n + 1 => if Cx (rc l n).kind = true ∧ (rc l n).page = p ∧ (C9 P l p n).lsn < (n + 1 : Nat) then doR (C9 P l p n) (rc l n) (n + 1 : Nat) else C9 P l p n
theorem Fg {ps : List Page} {i j : Nat} {q : Page} (h : i < ps.length) : pg (ps.set i q) j = if i = j then q else pg ps j:=by
  by_cases e : i = j
  · subst e
    simp [pg,List.getD_eq_getElem?_getD,h]
  · simp [pg,List.getD_eq_getElem?_getD,e]
theorem Ie (ps : List Page) (l : List Rec) (n : Nat) : (Cj ps l n).length = ps.length:=by
  induction n with
  | zero => rfl
  | succ n ih =>
    rw [Cj,E9]
    split
    · rw [List.length_set,ih]
    · exact ih
theorem L8 {ps : List Page} {l : List Rec} (h5 : ps.length = 5) (hl : ∀ k,k < l.length → CU (rc l k) = true) (p : Nat) : ∀ n,n ≤ l.length → pg (Cj ps l n) p = C9 (pg ps p) l p n
  | 0,_ => rfl
  | n + 1,hn => by
    have ih:=fun p => L8 h5 hl p n (by omega)
    rw [Cj,E9,C9]
    by_cases hc : Cx (rc l n).kind = true
    · have hpg:=GY (hl n (by omega)) hc
      by_cases hp : (rc l n).page = p
      · have e : (rc l n).page.toNat = p:=by omega
        rw [e,ih p]
        by_cases hlt : (C9 (pg ps p) l p n).lsn < ((n + 1 : Nat) : Int)
        · rw [if_pos ⟨hc,hlt⟩,if_pos ⟨hc,hp,hlt⟩,Fg (by rw [Ie];omega),if_pos rfl]
        · rw [if_neg (fun h => hlt h.2),if_neg (fun h => hlt h.2.2),ih p]
      · rw [if_neg (c:=_ ∧ _ = _ ∧ _) (fun h => hp h.2.1)]
        split
        · rw [Fg (by rw [Ie];omega),if_neg (by omega),ih p]
        · exact ih p
    · rw [if_neg (fun h => hc h.1),if_neg (fun h => hc h.1),ih p]
theorem Hl {l l' : List Rec} (P : Page) (p : Nat) : ∀ {n : Nat},Agree l l' n → C9 P l p n = C9 P l' p n
  | 0,_ => rfl
  | n + 1,h => by
    unfold C9
    rw [Hl P p (h.le (Nat.le_succ n)),h n (by omega)]
theorem M0 {P : Page} {l : List Rec} {p : Nat} : ∀ n : Nat,P.lsn ≤ (C9 P l p n).lsn ∧ ((C9 P l p n).lsn ≤ P.lsn ∨ (C9 P l p n).lsn ≤ n)
  | 0 => ⟨Int.le_refl _, .inl (Int.le_refl _)⟩
  | n + 1 => by
    have ih:=M0 (P:=P) (l:=l) (p:=p) n
    rw [C9]
    split
    · rename_i h
      have : (doR (C9 P l p n) (rc l n) ((n + 1 : Nat) : Int)).lsn = ((n + 1 : Nat) : Int):=rfl
      rw [this]
      have:=h.2.2
      omega
    · omega
def SS (l : List Rec) (p k : Nat) : Prop:=Cx (rc l k).kind = true ∧ (rc l k).page = p
theorem Nt {P : Page} {l : List Rec} {p : Nat} : ∀ {n : Nat} {k : Nat},k < n → (C9 P l p n).lsn < (k + 1 : Nat) → ¬ SS l p k
  | 0,k,hk,_ => by omega
  | n + 1,k,hk,h => by
    rw [C9] at h
    split at h
    · have : (doR (C9 P l p n) (rc l n) ((n + 1 : Nat) : Int)).lsn = ((n + 1 : Nat) : Int):=rfl
      rw [this] at h
      omega
    · rename_i hc
      rcases Nat.eq_or_lt_of_le (Nat.le_of_lt_succ hk) with rfl | hlt
      · exact fun hch => hc ⟨hch.1,hch.2,h⟩
      · exact Nt hlt h
theorem II {P : Page} {l : List Rec} {p : Nat} : ∀ {n : Nat},(∀ k,k < n → P.lsn < (k + 1 : Nat) → ¬ SS l p k) → C9 P l p n = P
  | 0,_ => rfl
  | n + 1,h => by
    have ih:=II (P:=P) (l:=l) (p:=p) (n:=n) (fun k hk => h k (by omega))
    rw [C9,ih,if_neg]
    exact fun hc => h n (by omega) hc.2.2 ⟨hc.1,hc.2.1⟩
theorem GD {P : Page} {l : List Rec} {r : Rec} {p : Nat} : C9 P (l ++ [r]) p (l.length + 1) = if Cx r.kind = true ∧ r.page = p ∧ (C9 P l p l.length).lsn < (l.length + 1 : Nat) then doR (C9 P l p l.length) r (l.length + 1 : Nat) else C9 P l p l.length:=by
  rw [C9,BL,Hl P p (Cn l [r])]
theorem DR {l : List Rec} {n m : Nat} {p : Int} (h : m ∈ UA l n p) : 0 < m ∧ m ≤ n ∧ (rc l (m - 1)).page = p ∧ ∃ t,m ∈ U l t n:=by
  have hF : ∀ t,m ∈ F l n p t → 0 < m ∧ m ≤ n ∧ (rc l (m - 1)).page = p ∧ ∃ t,m ∈ U l t n:=fun t hm => by
    obtain ⟨h1,h2⟩:=List.mem_filter.1 hm
    have:=MR h1
    exact ⟨this.1,this.2,by simpa using h2,t,h1⟩
  rw [UA,List.mem_append,List.mem_append] at h
  rcases h with h | h | h
  · exact hF _ h
  · exact hF _ h
  · exact hF _ h
theorem Pz {l : List Rec} (hl : AP l = true) {t : Int} {n m : Nat} (hn : n ≤ l.length) (h : m ∈ U l t n) : (rc l (m - 1)).kind = 1 ∨ (rc l (m - 1)).kind = 2:=by
  have:=Bb l t n
  exact (Sk hl _ (by omega) m h).2.2
theorem Td {l : List Rec} (hl : AP l = true) {n : Nat} {p : Int} (hn : n ≤ l.length) : ∀ m ∈ UA l n p,(rc l (m - 1)).slot ≤ 2:=fun m hm => by
  obtain ⟨h1,h2,h3,t,h4⟩:=DR hm
  have:=(He hl (m:=m) h1 (by omega) (Pz hl hn h4)).2.2.2
  omega
theorem QT {l : List Rec} (hl : AP l = true) (hp : EJ l) {p m : Nat} : ∀ {n : Nat},m ≤ n → n ≤ l.length → (∀ k,m ≤ k → k < n → ¬ SS l p k ∧ (rc l k).kind ≠ 4) → UA l n p = UA l m p
  | 0, hm, _, _ => by obtain rfl : m = 0 := by omega
                      rfl
  | n + 1,hm,hn,h => by
    rcases Nat.eq_or_lt_of_le hm with rfl | hlt
    · rfl
    · have ih:=QT hl hp (p:=p) (m:=m) (n:=n) (by omega) (by omega) (fun k h1 h2 => h k h1 (by omega))
      obtain ⟨h1,h2⟩:=h n (by omega) (by omega)
      rw [← ih]
      rcases KI hl (k:=n) (by omega) with hk | hk | hk | hk | hk | hk
      · rw [RU hl hp (by omega) (.inl hk),if_neg fun e => h1 ⟨by rw [hk];rfl,e⟩]
      · rw [RU hl hp (by omega) (.inr hk),if_neg fun e => h1 ⟨by rw [hk];rfl,e⟩]
      · rw [Te hl (by omega) hk]
      · exact absurd hk h2
      · rw [NR hp (by omega) hk]
      · obtain ⟨x,_,hx⟩:=PD hl hp (n:=n) (by omega) hk
        rw [hx p,if_neg fun e => h1 ⟨by rw [hk];rfl,e⟩]
def cst (l : List Rec) (t : Int) (n : Nat) : Nat:=(U l t n).length + (if Ao l t n = 0 then 0 else 1)
def Br (l : List Rec) (n : Nat) : Nat:=cst l 1 n + (cst l 2 n + cst l 3 n)
theorem N9 (l : List Rec) : need l = Br l l.length:=by
  have e1 : (3 - ((2 : Nat) : Int)) = 1:=rfl
  have e2 : (3 - ((1 : Nat) : Int)) = 2:=rfl
  have e3 : (3 - ((0 : Nat) : Int)) = 3:=rfl
  rw [need,Ik,Ik,Ik,Ik,e1,e2,e3]
  rfl
theorem JX {l l' : List Rec} {n : Nat} (h : Agree l l' n) (t : Int) {k : Nat} (hk : k ≤ n) : cst l t k = cst l' t k:=by
  rw [cst,cst,Gs h t hk,CP t (h.le hk)]
theorem Gj {l l' : List Rec} {n : Nat} (h : Agree l l' n) {k : Nat} (hk : k ≤ n) : Br l k = Br l' k:=by
  rw [Br,Br,JX h 1 hk,JX h 2 hk,JX h 3 hk]
theorem U1 {l : List Rec} {t : Int} {n : Nat} (h : (rc l n).tx ≠ t) : cst l t (n + 1) = cst l t n:=by
  rw [cst,cst,Hw h,FR h]
theorem JC {l : List Rec} {n : Nat} {t : Int} (ht : (rc l n).tx = t) (h3 : t = 1 ∨ t = 2 ∨ t = 3) : Br l (n + 1) + cst l t n = Br l n + cst l t (n + 1):=by
  have ho : ∀ s,s ≠ t → cst l s (n + 1) = cst l s n:=fun s hs => U1 (by rw [ht];exact Ne.symm hs)
  rw [Br,Br]
  rcases h3 with rfl | rfl | rfl
  · rw [ho 2 (by decide),ho 3 (by decide)];omega
  · rw [ho 1 (by decide),ho 3 (by decide)];omega
  · rw [ho 1 (by decide),ho 2 (by decide)];omega
def Di (e : Eng) (p : Nat) : Page:=C9 (pg e.disk p) e.log p e.log.length
structure Core (e : Eng) (C : Nat → Page) (B : Nat) : Prop where
  dlen : e.disk.length = 5
  dok : ∀ p,p < 5 → Bv (pg e.disk p) = true
  log : AP e.log = true
  prop : EJ e.log
  s0 : 0 ≤ e.safe
  s1 : e.safe ≤ e.log.length
  b150 : B ≤ 150
  room : ∀ n,n ≤ e.log.length → n + Br e.log n ≤ B
  done : ∀ k,k < e.log.length → (rc e.log k).kind = 4 → ((k + 1 : Nat) : Int) ≤ e.safe
  Lu : ∀ p,p < 5 → (pg e.disk p).lsn ≤ e.safe
  good : ∀ n : Nat,e.safe ≤ n → n ≤ e.log.length → ∀ p,p < 5 → Ew e.log (C p) (UA e.log n p) (C9 (pg e.disk p) e.log p n)
theorem Core.mem {e : Eng} {C : Nat → Page} {B : Nat} (h : Core e C B) (m : List Page) (d : Bool) : Core { e with mem:=m,down:=d } C B:=
  ⟨h.dlen,h.dok,h.log,h.prop,h.s0,h.s1,h.b150,h.room,h.done,h.Lu,h.good⟩
theorem Core.Vu {e : Eng} {C : Nat → Page} {B : Nat} (h : Core e C B) : e.log.length ≤ 150:=Bg h.log
theorem Core.Vn {e : Eng} {C : Nat → Page} {B : Nat} (h : Core e C B) {p n : Nat} (hp : p < 5) (hn : e.safe ≤ n) : (C9 (pg e.disk p) e.log p n).lsn ≤ n:=by
  have h1:=M0 (P:=pg e.disk p) (l:=e.log) (p:=p) n
  have h2:=h.Lu p hp
  omega
theorem Core.rok {e : Eng} {C : Nat → Page} {B : Nat} (h : Core e C B) {p n : Nat} (hp : p < 5) (hn : e.safe ≤ n) (hl : n ≤ e.log.length) : Bv (C9 (pg e.disk p) e.log p n) = true:=Ij (h.good n hn hl p hp)
theorem Core.snoc {e : Eng} {C : Nat → Page} {B B' : Nat} {r : Rec} (h : Core e C B) (hB : B ≤ B') (hB' : B' ≤ 150) (hl : AP (e.log ++ [r]) = true) (hr : Gt (e.log ++ [r]) e.log.length) (hk : r.kind ≠ 4)
    (hroom : e.log.length + 1 + Br (e.log ++ [r]) (e.log.length + 1) ≤ B') (hg : ∀ p,p < 5 → Ew (e.log ++ [r]) (C p) (UA (e.log ++ [r]) (e.log.length + 1) p) (C9 (pg e.disk p) (e.log ++ [r]) p (e.log.length + 1))) : Core { e with log:=e.log ++ [r] } C B':=by
  have hA:=Cn e.log [r]
  have hlen : (e.log ++ [r]).length = e.log.length + 1:=by simp
  refine ⟨h.dlen,h.dok,hl,F6 h.prop hr,h.s0,?_,hB',fun n hn => ?_,fun k hk' hk4 => ?_,h.Lu,fun n hs hn p hp => ?_⟩
  · have:=h.s1
    show e.safe ≤ ((e.log ++ [r]).length : Nat)
    rw [hlen];omega
  · have hn : n ≤ (e.log ++ [r]).length:=hn
    show n + Br (e.log ++ [r]) n ≤ B'
    rw [hlen] at hn
    rcases Nat.lt_or_ge e.log.length n with hlt | hge
    · obtain rfl : n = e.log.length + 1:=by omega
      exact hroom
    · rw [Gj hA hge]
      have:=h.room n hge
      omega
  · have hk' : k < (e.log ++ [r]).length:=hk'
    have hk4 : (rc (e.log ++ [r]) k).kind = 4:=hk4
    rw [hlen] at hk'
    rcases Nat.lt_or_ge k e.log.length with hlt | hge
    · rw [M4 hlt] at hk4
      exact h.done k hlt hk4
    · obtain rfl : k = e.log.length:=by omega
      rw [BL] at hk4
      exact absurd hk4 hk
  · have hn : n ≤ (e.log ++ [r]).length:=hn
    rw [hlen] at hn
    show Ew (e.log ++ [r]) (C p) (UA (e.log ++ [r]) n p) (C9 (pg e.disk p) (e.log ++ [r]) p n)
    rcases Nat.lt_or_ge e.log.length n with hlt | hge
    · obtain rfl : n = e.log.length + 1:=by omega
      exact hg p hp
    · rw [ES hA p hge,Hl _ p (hA.le hge)]
      exact CY hA.symm (fun m hm => by have:=DR hm;omega) (h.good n hs hge p hp)
def ld (l : List Rec) (t : Int) (n : Nat) (p : Int) : Bool:=EP l (Ao l t n) p
theorem UB (l : List Rec) (p : Int) : Im l p 3 = (ld l 1 l.length p || (ld l 2 l.length p || ld l 3 l.length p)):=by
  have e1 : (3 - ((2 : Nat) : Int)) = 1:=rfl
  have e2 : (3 - ((1 : Nat) : Int)) = 2:=rfl
  have e3 : (3 - ((0 : Nat) : Int)) = 3:=rfl
  rw [Im,Im,Im,Im,e1,e2,e3,Bool.or_false]
  rfl
theorem UD {l : List Rec} {t p : Int} {n : Nat} : ld l t n p = true ↔ ∃ m ∈ Ch l t n,(rc l (m - 1)).kind = 3 ∧ (rc l (m - 1)).page = p:=by
  simp [ld,EP,Ch]
theorem Ma {l : List Rec} {t p : Int} {n : Nat} (h : ld l t n p = true) : has l t n p = true:=by
  obtain ⟨m,h1,_,h2⟩:=UD.1 h
  exact SK.2 ⟨m,h1,h2⟩
theorem GQ {l l' : List Rec} {n : Nat} (h : Agree l l' n) (t p : Int) {k : Nat} (hk : k ≤ n) : ld l t k p = ld l' t k p:=by
  rw [ld,ld,CP t (h.le hk)]
  exact Qr h p (by have:=Bb l' t k;omega)
theorem Lh {l : List Rec} {t : Int} {k : Nat} (h : (rc l k).tx ≠ t) (p : Int) : ld l t (k + 1) p = ld l t k p:=by rw [ld,FR h,ld]
theorem Rv {l : List Rec} {t : Int} {k : Nat} (h : (rc l k).tx = t) (he : EI (rc l k).kind = true) (p : Int) : ld l t (k + 1) p = false:=by rw [ld,Iq h he,KE]
theorem SC {l : List Rec} (hl : AP l = true) {k : Nat} (hk : k < l.length) (h : EI (rc l k).kind = false) (p : Int) : ld l (rc l k).tx (k + 1) p = (((rc l k).kind == 3 && (rc l k).page == p) || ld l (rc l k).tx k p):=by
  have F:=AB hl hk
  rw [ld,Fa rfl h,Rt F.prev_le,F.last,ld]
def lds (l : List Rec) (n : Nat) (p : Int) : Bool:=ld l 1 n p || (ld l 2 n p || ld l 3 n p)
theorem Lg {l : List Rec} {n : Nat} {p : Int} : lds l n p = true ↔ ∃ t,(t = 1 ∨ t = 2 ∨ t = 3) ∧ ld l t n p = true:=by
  simp only [lds,Bool.or_eq_true]
  constructor
  · rintro (h | h | h)
    · exact ⟨1,by simp,h⟩
    · exact ⟨2,by simp,h⟩
    · exact ⟨3,by simp,h⟩
  · rintro ⟨t,rfl | rfl | rfl,h⟩
    · exact .inl h
    · exact .inr (.inl h)
    · exact .inr (.inr h)
theorem Qw {l : List Rec} {n : Nat} {p : Int} (h : ∀ t,ld l t (n + 1) p = ld l t n p) : lds l (n + 1) p = lds l n p:=by rw [lds,lds,h,h,h]
theorem Ip {l l' : List Rec} {n : Nat} (h : Agree l l' n) (p : Int) {k : Nat} (hk : k ≤ n) : lds l k p = lds l' k p:=by
  rw [lds,lds,GQ h 1 p hk,GQ h 2 p hk,GQ h 3 p hk]
theorem NC {l : List Rec} (hl : AP l = true) {n : Nat} (hn : n < l.length) (he : EI (rc l n).kind = false) {p : Int} (h : ¬ ((rc l n).kind = 3 ∧ (rc l n).page = p)) : lds l (n + 1) p = lds l n p:=by
  refine Qw fun t => ?_
  by_cases ht : (rc l n).tx = t
  · subst ht
    rw [SC hl hn he]
    have : ((rc l n).kind == 3 && (rc l n).page == p) = false:=by
      rw [Bool.eq_false_iff]
      intro h2
      simp only [Bool.and_eq_true,beq_iff_eq] at h2
      exact h h2
    rw [this,Bool.false_or]
  · exact Lh ht p
theorem SB {l : List Rec} {n : Nat} (he : EI (rc l n).kind = true) {p : Int} (h : ld l (rc l n).tx n p = false) : lds l (n + 1) p = lds l n p:=by
  refine Qw fun t => ?_
  by_cases ht : (rc l n).tx = t
  · subst ht
    rw [Rv rfl he,h]
  · exact Lh ht p
structure PL (e : Eng) (p : Nat) : Prop where
  ok : Bv (pg e.mem p) = true
  owner : (pg e.mem p).owner = (Di e p).owner
  lsn : (pg e.mem p).lsn ≤ e.log.length
  cases : (lds e.log e.log.length p = false ∧ pg e.mem p = Di e p) ∨ (lds e.log e.log.length p = true ∧ (pg e.mem p).lsn = BF e.log p e.log.length ∧ ((pg e.disk p).lsn < (pg e.mem p).lsn ∨ pg e.mem p = pg e.disk p) ∧ (pg e.mem p = Di e p ∨ Po e.log (UA e.log e.log.length p)))
def UpC (l : List Rec) : Prop := ∀ t, ∀ m ∈ Ch l t l.length,(rc l (m - 1)).kind ≠ 6
structure Inv (e : Eng) (C : Nat → Page) (B : Nat) : Prop where
  core : Core e C B
  mlen : e.mem.length = 5
  dn : e.down = true → e.mem = e.disk
  upc : e.down = false → UpC e.log
  upm : e.down = false → ∀ p,p < 5 → PL e p
theorem PL.alt {e : Eng} {p : Nat} (h : PL e p) : pg e.mem p = Di e p ∨ Po e.log (UA e.log e.log.length p):=by
  rcases h.cases with h | h
  · exact .inl h.2
  · exact h.2.2.2
theorem Core.Sz {e : Eng} {C : Nat → Page} {B : Nat} (h : Core e C B) {p : Nat} (hp : p < 5) {M : Page} (hok : Bv M = true) (ho : M.owner = (Di e p).owner) (ha : M = Di e p ∨ Po e.log (UA e.log e.log.length p)) : Ew e.log (C p) (UA e.log e.log.length p) M:=by
  have hg:=h.good e.log.length h.s1 (Nat.le_refl _) p hp
  rcases ha with ha | ha
  · rw [ha];exact hg
  · exact JA (Td h.log (Nat.le_refl _)) ha hok ho hg
def Eng.app (e : Eng) (r : Rec) : Eng:=
  { e with log:=e.log ++ [{ r with prev:=Ao e.log r.tx e.log.length }],mem:=if Cx r.kind = true then e.mem.set r.page.toNat (doR (pg e.mem r.page.toNat) r (e.log.length + 1 : Nat)) else e.mem }
abbrev lastT (e : Eng) (tx : Int) : Nat:=Ao e.log tx e.log.length
def Du (e : Eng) (tx : Int) : Rec:=if Bt e.log (lastT e tx) = 0 then ⟨5,tx,0,0,0,0,0,0⟩ else Bq (rc e.log (Bt e.log (lastT e tx) - 1)) 0
def Bo (e : Eng) (tx : Int) : Eng:=e.app (Du e tx)
theorem ED (p : Page) (r : Rec) (n : Int) : doR p r n = ⟨n,(Be p r).owner,(Be p r).vals⟩:=rfl
theorem KC {l : List Rec} (r : Rec) : Br (l ++ [r]) l.length = Br l l.length:=Gj (Cn l [r]) (Nat.le_refl _)
theorem Ps {l : List Rec} (r : Rec) (t : Int) : cst (l ++ [r]) t l.length = cst l t l.length:=JX (Cn l [r]) t (Nat.le_refl _)
theorem GR (l : List Rec) (tx : Int) : ∀ n,Ao l tx n = 0 ∨ (rc l (Ao l tx n - 1)).tx = tx
  | 0 => .inl rfl
  | n + 1 => by
    rw [Ao]
    split
    · rename_i h
      split
      · exact .inl rfl
      · exact .inr h
    · exact GR l tx n
theorem Vs {l : List Rec} (hl : AP l = true) {k : Nat} (hk : k < l.length) : EG l (k + 1) = 0 ∨ (rc l (EG l (k + 1) - 1)).tx = (rc l k).tx:=by
  have h:=hl
  simp only [AP,Bool.and_eq_true] at h
  have ha:=Oz h.1 hk
  simp only [atOk,Bool.and_eq_true,beq_iff_eq,decide_eq_true_eq,Bool.or_eq_true] at ha
  simp only [EG,Nat.add_sub_cancel]
  rcases ha.2 with h4 | h4
  · exact .inl (by omega)
  · exact .inr h4
theorem Vj {l : List Rec} (hl : AP l = true) (tx : Int) (n : Nat) : n ≤ l.length → (n = 0 ∨ (rc l (n - 1)).tx = tx) → ∀ m ∈ CW l n,(rc l (m - 1)).tx = tx:=by
  induction n using Nat.strongRecOn with
  | _ n ih =>
    intro hn ht m hm
    match n with
    | 0 => rw [D6] at hm;cases hm
    | n + 1 =>
      have ht : (rc l n).tx = tx:=by
        rcases ht with ht | ht
        · omega
        · simpa using ht
      have FF:=AB hl (k:=n) (by omega)
      have hp : BK l (n + 1) = 0 ∨ (rc l (BK l (n + 1) - 1)).tx = tx:=by
        rw [FF.last,ht]
        exact GR l tx n
      have h1:=FF.prev_le
      have h2:=FF.next_le
      rw [CW] at hm
      split at hm
      · rcases List.mem_cons.1 hm with rfl | hm
        · simpa using ht
        · try rw [dif_pos h1] at hm
          exact ih _ (by omega) (by omega) hp m hm
      · split at hm
        · try rw [dif_pos h2] at hm
          exact ih _ (by omega) (by omega) (by rw [← ht];exact Vs hl (by omega)) m hm
        · try rw [dif_pos h1] at hm
          exact ih _ (by omega) (by omega) hp m hm
theorem Xe {l : List Rec} (hl : AP l = true) {tx : Int} {n m : Nat} (hn : n ≤ l.length) (h : m ∈ U l tx n) : (rc l (m - 1)).tx = tx:=by
  have:=Bb l tx n
  exact Vj hl tx _ (by omega) (GR l tx n) m h
inductive StepKind (l : List Rec) (tx : Int) : Rec → Prop
  | fin (h : U l tx l.length = []) : StepKind l tx ⟨5,tx,0,0,0,0,Ao l tx l.length,0⟩
  | Jq (m : Nat) (ms : List Nat) (h : U l tx l.length = m :: ms) (h0 : 0 < m) (hm : m ≤ l.length) (hk : (rc l (m - 1)).kind = 1 ∨ (rc l (m - 1)).kind = 2) (ht : (rc l (m - 1)).tx = tx) : StepKind l tx (Bq (rc l (m - 1)) (Ao l tx l.length))
def CO (e : Eng) (tx : Int) : Rec:={ Du e tx with prev:=Ao e.log (Du e tx).tx e.log.length }
theorem EB {e : Eng} (hl : AP e.log = true) (tx : Int) : StepKind e.log tx (CO e tx):=by
  have hle:=Bb e.log tx e.log.length
  unfold CO Du
  split
  · rename_i h0
    exact .fin (Gf h0)
  · rename_i h0
    obtain ⟨ms,hm⟩:=Ms (l:=e.log) (n:=lastT e tx) rfl (by omega)
    obtain ⟨h1,h2,h3,h4⟩:=FM _ _ ms hm
    have hU : U e.log tx e.log.length = Bt e.log (lastT e tx) :: ms:=hm
    have ht:=Xe hl (Nat.le_refl _) (tx:=tx) (m:=Bt e.log (lastT e tx)) (by rw [hU];exact List.mem_cons_self)
    have:=StepKind.Jq (l:=e.log) (tx:=tx) (Bt e.log (lastT e tx)) ms hU h1 (by unfold lastT at h2 ⊢;omega) h3 ht
    have e1 : Ao e.log tx e.log.length = Ao e.log (Bq (rc e.log (Bt e.log (lastT e tx) - 1)) 0).tx e.log.length:=by
      show Ao e.log tx e.log.length = Ao e.log (rc e.log (Bt e.log (lastT e tx) - 1)).tx e.log.length
      rw [ht]
    rw [← e1]
    exact this
theorem StepKind.tx {l : List Rec} {tx : Int} {r : Rec} (h : StepKind l tx r) : r.tx = tx:=by
  cases h with
  | fin => rfl
  | Jq m ms _ _ _ _ ht => exact ht
theorem StepKind.prev {l : List Rec} {tx : Int} {r : Rec} (h : StepKind l tx r) : r.prev = Ao l tx l.length:=by
  cases h <;> rfl
theorem StepKind.ne4 {l : List Rec} {tx : Int} {r : Rec} (h : StepKind l tx r) : r.kind ≠ 4:=by
  cases h <;> simp [Bq]
theorem StepKind.ok {l : List Rec} {tx : Int} {r : Rec} (hl : AP l = true) (h : StepKind l tx r) (ht : 1 ≤ tx ∧ tx ≤ 3) : CU r = true:=by
  have hle:=Bb l tx l.length
  have h150:=Bg hl
  cases h with
  | fin => rw [D7];simp;omega
  | Jq m ms h h0 hm hk ht =>
    have hr:=(He hl h0 hm hk).1
    have FF:=AB hl (k:=m - 1) (by omega)
    have hp:=FF.prev
    have hpl:=FF.prev_le
    rw [D7] at hr
    rw [D7]
    simp only [Bq]
    have hs:=Bb l tx l.length
    refine ⟨.inr (.inr (.inr (.inr ⟨trivial,by omega,by omega,by omega,by omega,trivial,by omega,fun _ => by omega,by omega,by omega,by omega⟩))),by omega,by omega,by omega,by omega⟩
theorem StepKind.log {l : List Rec} {tx : Int} {r : Rec} (hl : AP l = true) (h : StepKind l tx r) (ht : 1 ≤ tx ∧ tx ≤ 3) (h150 : l.length + 1 ≤ 150) : AP (l ++ [r]) = true:=by
  have hok:=h.ok hl ht
  refine IQ hl hok (by rw [h.prev,h.tx]) ?_ ?_ h150
  · cases h with
    | fin => simp
    | Jq m ms h h0 hm hk ht =>
      have FF:=AB hl (k:=m - 1) (by omega)
      have h1:=FF.prev
      have h2:=FF.prev_le
      simp only [Bq]
      omega
  · cases h with
    | fin => exact .inl (Int.le_refl _)
    | Jq m ms h h0 hm hk ht =>
      have FF:=AB hl (k:=m - 1) (by omega)
      have h1:=FF.prev
      have h3:=GR l (rc l (m - 1)).tx (m - 1)
      rw [← FF.last] at h3
      rw [show m - 1 + 1 = m by omega] at h1 h3
      simp only [Bq]
      rcases h3 with h3 | h3
      · exact .inl (by omega)
      · refine .inr ?_
        rw [h1]
        exact h3
theorem StepKind.next {l : List Rec} {tx : Int} {r : Rec} (hl : AP l = true) (h : StepKind l tx r) (ht : 1 ≤ tx ∧ tx ≤ 3) (h150 : l.length + 1 ≤ 150) : U (l ++ [r]) tx (l.length + 1) = (U l tx l.length).tail ∧ (∀ t,t ≠ tx → U (l ++ [r]) t (l.length + 1) = U l t l.length ∧ Ao (l ++ [r]) t (l.length + 1) = Ao l t l.length) ∧ Ao (l ++ [r]) tx (l.length + 1) = if U l tx l.length = [] then 0 else l.length + 1:=by
  have hl':=h.log hl ht h150
  have hA:=Cn l [r]
  have hlen : l.length < (l ++ [r]).length:=by simp
  have hrt : (rc (l ++ [r]) l.length).tx = tx:=by rw [BL,h.tx]
  refine ⟨?_,fun t hne => ?_,?_⟩
  · cases h with
    | fin h =>
      rw [OH hrt (by rw [BL];rfl),h]
      rfl
    | Jq m ms h h0 hm hk htx =>
      have FF:=AB hl' hlen
      have hn : EG (l ++ [Bq (rc l (m - 1)) (Ao l tx l.length)]) (l.length + 1) = BK l m:=by
        simp only [EG,BK,Nat.add_sub_cancel]
        rw [BL]
        rfl
      have h2:=FM _ _ _ h
      have Fm:=AB hl (k:=m - 1) (by omega)
      have hpm:=Fm.prev_le
      rw [show m - 1 + 1 = m by omega] at hpm
      rw [U,Fa hrt (by rw [BL];rfl),LQ (by rw [BL];rfl) FF.next_le,hn,Nl hA _ (by omega),h,List.tail_cons,(h2.2.2.2 (by omega)).1]
  · have hne' : (rc (l ++ [r]) l.length).tx ≠ t:=by rw [hrt];exact Ne.symm hne
    rw [Hw hne',FR hne',Gs hA t (Nat.le_refl _),CP t hA]
    exact ⟨rfl,rfl⟩
  · cases h with
    | fin h => rw [if_pos h,Iq hrt (by rw [BL];rfl)]
    | Jq m ms h h0 hm hk htx => rw [if_neg (by rw [h];simp),Fa hrt (by rw [BL];rfl)]
theorem StepKind.need {l : List Rec} {tx : Int} {r : Rec} (hl : AP l = true) (h : StepKind l tx r) (ht : tx = 1 ∨ tx = 2 ∨ tx = 3) (h150 : l.length + 1 ≤ 150) (hlast : Ao l tx l.length ≠ 0) : Br (l ++ [r]) (l.length + 1) + 1 = Br l l.length:=by
  have hN:=h.next hl (by omega) h150
  have hs:=JC (l:=l ++ [r]) (n:=l.length) (t:=tx) (by rw [BL,h.tx]) ht
  rw [KC,Ps] at hs
  have e1 : cst (l ++ [r]) tx (l.length + 1) = (U l tx l.length).tail.length + (if U l tx l.length = [] then 0 else 1):=by
    rw [cst,hN.1,hN.2.2]
    split
    · simp
    · simp
  have e2 : cst l tx l.length = (U l tx l.length).length + 1:=by rw [cst,if_neg hlast]
  rw [e1,e2] at hs
  cases hU : U l tx l.length with
  | nil => rw [hU] at hs;simp at hs;omega
  | cons a t => rw [hU] at hs;simp at hs;omega
end Go.Proofs.YtpjmlpmhgfghbaaGreat
