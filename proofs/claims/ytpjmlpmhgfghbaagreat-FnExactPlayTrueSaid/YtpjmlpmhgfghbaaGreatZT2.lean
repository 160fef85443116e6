/- A part of the proof: what the last text of the claim says leans on this one. -/
import Derived.Test.YtpjmlpmhgfghbaaGreatZT1
import Derived.IntWalk
import Derived.RangeFuncNested
import Derived.RangeFuncBound
import Derived.RangeFuncCalls
import Derived.RangeFuncLeaves
import Derived.RangeFuncBox
import Derived.Shelf.Abstract
import Derived.Shelf.RegionOpen
import Derived.OwnWalkIn
import Derived.TacticsInMore
import Derived.LoopNIn
import Derived.LoopIn
import Derived.Sort.OwnSortedInts
set_option linter.unusedVariables false
set_option linter.unusedSimpArgs false
/- The reference's l11Redo. -/
namespace Go.Proofs.YtpjmlpmhgfghbaaGreat
open Go.RowKit Go.Proofs.YtpjmlpmhgfghbaaGreatW.PrintWords Go.Proofs.YtpjmlpmhgfghbaaGreatW.PrintLast Go.Proofs.YtpjmlpmhgfghbaaGreatW.PrintMore
set_option maxRecDepth 100000 in
/-- Three cells stored into a row of the call's own: what the operation does. -/
theorem Wt {α : Type} (d : Kd α) (hsz : d.sz = 3) {o : Oper} {a : Act} {w0 W : World} {g n cap : Nat} {xs : List α} {x' z : α} {q : Page} {v : Value} {ok okp : Nat → Prop} (i : Nat) (s x : Operand) (ho : o.op = .store 81 s x)
    (haddr : a.eval s = .pointer (some ⟨g,i * 3,none⟩)) (hx : a.eval x = q.own v) (hv1 : ∃ A c,v = .slice A q.vals.length c) (HO : d.R 81 W w0.heap.size ok (.slice (some ⟨g,0,none⟩) n cap) xs) (hi : i < n) (HB : Below w0.heap.size w0 W)
    (hM : d.M W w0.heap.size okp x' [.int .i64 q.lsn, .int .i64 q.owner,v]) (hokp : ∀ k,okp k → ok k ∧ k ≠ g) :
    ∃ w1,(execOp a.eval o).run Tryz.prog W = .ok .skip w1 ∧ d.R 81 w1 w0.heap.size ok (.slice (some ⟨g,0,none⟩) n cap) (xs.set i x') ∧ Below w0.heap.size w0 w1 ∧ W.grownBy w1 (some g):=by
  obtain ⟨c,hl,hM0,hc,hf⟩:=Kd.Ml HO z (i : Int) (by omega) (by omega)
  obtain ⟨A1,c1,rfl⟩:=hv1
  have hl3 : c.length = 3:=hl.trans hsz
  obtain ⟨hrow,hg⟩:=Kd.VY (okp:=okp) HO (i : Int) (by omega) (by omega) (seg := [.int .i64 q.lsn, .int .i64 q.owner, .slice A1 q.vals.length c1]) (j:=0) (x':=x') hl hc (by rw [hsz];exact Nat.le_refl 3) (by
    rw [List.take_zero,List.nil_append,List.drop_of_length_le (by simp [hl3]),List.append_nil]
    exact hM) hokp
  rw [hsz] at hrow hg
  have hbg : w0.heap.size ≤ g:=Kd.SG HO g (by simp [Value.ownBlock])
  have hB : Below w0.heap.size w0 (W.setCells g ((i : Int).toNat * 3 + 0) [.int .i64 q.lsn, .int .i64 q.owner, .slice A1 q.vals.length c1]):=HB.trans ⟨hg.os,hg.tape,hg.output,hg.size,fun k hk => by
    rcases Nat.lt_or_ge k W.heap.size with hlt | hge
    · exact hg.block k hlt (fun he => by injection he with he;omega)
    · exact Gg _ _ k (by omega)⟩
  refine ⟨_,?_,hrow,hB,hg⟩
  obtain ⟨_,inner,hown,hr⟩:=HO
  have hnx : n = xs.length:=by
    rcases hown.2 with ⟨hv,h0⟩ | ⟨g',cap',cur,hv,_⟩
    · cases hv
    · injection hv
  have hrun : (Instr.storeAt 81 (.pointer (some ⟨g,i * 3 + 0,none⟩)) (q.own (.slice A1 q.vals.length c1))).run Tryz.prog W = .ok () (W.setCells g (i * 3 + 0) [.int .i64 q.lsn, .int .i64 q.owner, .slice A1 q.vals.length c1]):=by
    rcases hown.2 with ⟨hv,_⟩ | ⟨g',cap',cur,hv,hb,hh,hnc,hcm,hcs,_⟩
    · cases hv
    injection hv with ha _ hc
    injection ha with ha
    injection ha with hg'
    subst hg';subst hc
    refine Ke _ _ _ hh rfl (by kernel_rfl) ?_ (by simp [Value.oneCell'])
    have h3 : cur.size = cap * 3:=by rw [← hsz];exact hcs
    simp
    omega
  unfold execOp
  simp only [ho,haddr,hx,Sem.run_bind,Sem.run_pure]
  rw [Nat.add_zero] at hrun
  rw [hrun]
  rfl
/-- The same, no two pages sharing slots. -/
theorem Ej {ops : Array Oper} {Q : Exit → Act → World → Prop} {K : Act → World → Prop} {i0 : Nat} {o : Oper} {a : Act} {w0 W : World} {g n cap N : Nat} {ps : List Page} {q : Page} {v : Value} {ok : Nat → Prop} (i : Nat) (hn : ps.length = n) (s x : Operand) (hi0 : ops.toList[i0]? = some o) (hw : Region.wanted o (yielded ops a.tmps) = true) (ho : o.op = .store 81 s x)
    (haddr : a.eval s = .pointer (some ⟨g,i * 3,none⟩)) (hx : a.eval x = q.own v) (hp : AV W N v q.vals) (hN0 : w0.heap.size ≤ N) (HO : OwnPk W w0.heap.size (fun k => ok k ∧ k < N) (.slice (some ⟨g,0,none⟩) n cap) ps) (hi : i < n) (HB : Below w0.heap.size w0 W)
    (h : ∀ w1,OwnPk w1 w0.heap.size (fun k => ok k ∨ some k = v.ownBlock) (.slice (some ⟨g,0,none⟩) n cap) (ps.set i q) → Below w0.heap.size w0 w1 → W.grownBy w1 (some g) → K (a.put o.dst undef) w1) : wpOp Tryz.prog ops Q i0 K a W:=by
  subst hn
  have hgN:=L8 HO g rfl
  obtain ⟨f,hf,hR⟩:=Kd.TW HO i (fun k => some k = v.ownBlock) (fun k hk h2 => by have:=Cq hp k hk.symm;omega)
  have hR2:=Kd.Eh (ok':=fun k => ok k ∨ some k = v.ownBlock) hR (fun k hk => .inl hk.1)
  have hl0 : ps.zipIdx.length = ps.length:=List.length_zipIdx
  obtain ⟨A1,c1,hv,_,_⟩:=AV.reads hp
  obtain ⟨w1,hr,h1,h2,h3⟩:=Wt (Kd.tag f Dn) rfl (z:=(z0,0)) (x':=(q,i)) (okp:=fun k => some k = v.ownBlock) i s x ho haddr hx ⟨A1,c1,hv⟩ hR2 hi HB (FQ W _ _ q (Kd.G5 (En hp hN0) (fun k hk => ⟨hk.symm,hf k hk.symm⟩))) (fun k hk => ⟨.inr hk,fun e => by have:=Cq hp k hk.symm;omega⟩)
  exact BJ hi0 hw hr (h w1 ⟨f,by rw [P9];exact h1⟩ h2 h3)
set_option maxRecDepth 100000 in
set_option maxHeartbeats 4000000 in
theorem Ol {w0 w : World} {A B : Option Addr} {c d : Nat} {ps : List Page} {l : List Rec} (hg : geo ps) (hok : ∀ k,k < l.length → CS (rc l k) = true) (hl : l.length ≤ 150) (hb : Below w0.heap.size w0 w) (hr : Kd.C Dn w0 A ps.length ps) (hr2 : Kd.C Ca w0 B l.length l) : Calls Tryz.prog 94 #[.slice A ps.length c, .slice B l.length d] w (O6 w (Ck ps l l.length)):=by
  have HR:=As (Bu hr hb)
  have HR2:=As (Bu hr2 hb)
  have HG:=As hg
  have HK:=As hok
  clear hr hr2 hb hok hg
  go_enter Tryz.func94,Tryz.ntmps94
  go_wp2_with (go_at_call 100;refine (EU (Gr HG.out) (by have:=HG.out.1;omega) (Below.refl _ _) HR.out).mono ?_;rintro e w1 ⟨v,rfl,hO,hb1⟩;obtain ⟨g,cap,rfl,hgb,hgl⟩:=Cb hO (by have:=HG.out.1;omega);have HO:=As hO;have HB:=As hb1;have HGB:=As (And.intro hgb hgl);clear hO hb1 hgb hgl)
  have h5:=HG.out.1
  rw [h5] at HO ⊢
  clear h5
  go_loopw [6] (fun i wr => ∃ k : Nat,k ≤ l.length ∧ i = .int .i64 (k : Int) ∧ Ac (E9 wr w.heap.size (.slice (some ⟨g,0,none⟩) 5 cap) (Ck ps l k)) ∧ Ac (Below w.heap.size w wr)) (fun i _ => (l.length - intOf i).toNat)
  case atStart => exact ⟨0,Nat.zero_le _,rfl,HO,HB⟩
  case round =>
    obtain ⟨k,hk,rfl,HO,HW⟩:=hrel
    have HGk:=As (JE HG.out HK.out k hk)
    by_cases hlt : k < l.length
    · obtain ⟨ad,rfl,QR⟩:=Ce (Bu HR2.out HW.out) k hlt
      obtain ⟨z0,z1,z2,z3,z4,z5,z6,z7⟩:=QR
      cases hc : Cx (rc l k).kind
      · have HC:=As hc
        clear hc
        go_wp2_with (first | (with_reducible refine Ct (rc l k) ?_;intro w3 hb2 hz2 hq2;have HW3:=As (bj HW.out hb2);have HO3:=As (Kd.Br HO.out hb2);have HQ3:=As hq2;obtain ⟨x0,x1,x2,x3,x4,x5,x6,x7⟩:=hq2;simp only [Nat.zero_add] at x1 x2 x3 x4 x5 x6 x7;clear hb2) | (go_at_call 159;refine (Fj HC.out _).mono ?_;rintro e w4 ⟨rfl,rfl⟩))
        go_roundw
        case rel => exact ⟨k + 1,by omega,by go_num,⟨by rw [Ck,DZ,if_neg (by rw [HC.out];simp)];exact HO3.out⟩,HW3⟩
        case measure => simp [intOf];omega
      · have HC:=As hc
        have hP:=GU (HK.out k hlt) hc
        have hp0 : 0 ≤ (rc l k).page:=hP.1
        have hp5 : (rc l k).page < 5:=by omega
        have hpn : (rc l k).page.toNat < 5:=by omega
        have HP:=As hP
        clear hc hP
        rcases lts (pg (Ck ps l k) (rc l k).page.toNat).lsn (k + 1 : Int) with ⟨e1,b1,c1⟩ | ⟨e1,b1,c1⟩
        · go_wp2_with (first | (with_reducible refine Ct (rc l k) ?_;intro w3 hb2 hz2 hq2;have HW3:=As (bj HW.out hb2);have HO3:=As (Kd.Br HO.out hb2);have HQ3:=As hq2;obtain ⟨x0,x1,x2,x3,x4,x5,x6,x7⟩:=hq2;simp only [Nat.zero_add] at x1 x2 x3 x4 x5 x6 x7;obtain ⟨A3,c3,p0,p1,p2,pC, -⟩:=Dz HO3.out (rc l k).page.toNat hpn;have HPC:=As pC;clear pC;clear hb2) | (go_at_call 159;refine (Fj HC.out _).mono ?_;rintro e w4 ⟨rfl,rfl⟩))
          obtain ⟨q,hq⟩ : ∃ q,doR (pg (Ck ps l k) (rc l k).page.toNat) (rc l k) ((k : Int) + 1) = q:=⟨_,rfl⟩
          have HQ:=As hq
          have hg3:=EW HGk.out hpn
          have HG3:=As hg3
          have hcall : ∀ wx,Below w3.heap.size w3 wx → Calls Tryz.prog 160 #[(pg (Ck ps l k) (rc l k).page.toNat).val A3 c3,(rc l k).val, .int .i64 ((k : Int) + 1)] wx (Ox wx q):=fun wx hb => HQ.out ▸ NR (rc l k) ((k : Int) + 1) (by rw [HG3.out];decide) (by rw [HG3.out];have:=HP.out;omega) hb HPC.out
          have hwr : IntKind.i64.wrap ((k : Int) + 1) = (k : Int) + 1:=by simp (disch:=omega) only [IntWalk.i64_in]
          clear hq hg3
          refine AX (fun lx a wx => (Below w.heap.size w wx ∧ Below w3.heap.size w3 wx) ∧ Sl 11 45 (fun v wx => ∃ u,v = q.own u ∧ AV wx w3.heap.size u q.vals) lx a wx) 13 rfl (by kernel_rfl) (⟨⟨Ak HW3.out,Ak (Below.refl _ _)⟩,Bc⟩) (fun HT => ?_)
          refine Ae (i:=0) (v:=?_) HT rfl (by kernel_rfl) rfl (kA Aa (Ab rfl rfl)) (by rfl) (fun _ _ _ h => h) (fun lx ax wx hS => ?_) ?_;rotate_left;(obtain ⟨⟨-,hbx⟩, -⟩:=hS;obtain ⟨x0,x1,x2,x3,x4,x5,x6,x7⟩:=HQ3.out.up hbx;simp only [Nat.zero_add] at x1 x2 x3 x4 x5 x6 x7;replace p0:=bc hbx p0;replace p1:=bc hbx p1;replace p2:=bc hbx p2;go_simp;with_reducible rfl);rotate_left;simp only [sc0,sc1]
          refine Ae (i:=1) (v:=?_) HT rfl (by kernel_rfl) rfl (kA Aa (Ab rfl rfl)) (by rfl) (fun _ _ _ h => h) (fun lx ax wx hS => ?_) ?_;rotate_left;(obtain ⟨⟨-,hbx⟩, -⟩:=hS;obtain ⟨x0,x1,x2,x3,x4,x5,x6,x7⟩:=HQ3.out.up hbx;simp only [Nat.zero_add] at x1 x2 x3 x4 x5 x6 x7;replace p0:=bc hbx p0;replace p1:=bc hbx p1;replace p2:=bc hbx p2;go_simp;with_reducible rfl);rotate_left;simp only [sc0,sc1]
          refine Ae (i:=2) (v:=?_) HT rfl (by kernel_rfl) rfl (kA Aa (Ab rfl rfl)) (by rfl) (fun _ _ _ h => h) (fun lx ax wx hS => ?_) ?_;rotate_left;(obtain ⟨⟨-,hbx⟩, -⟩:=hS;obtain ⟨x0,x1,x2,x3,x4,x5,x6,x7⟩:=HQ3.out.up hbx;simp only [Nat.zero_add] at x1 x2 x3 x4 x5 x6 x7;replace p0:=bc hbx p0;replace p1:=bc hbx p1;replace p2:=bc hbx p2;go_simp;with_reducible rfl);rotate_left;simp only [sc0,sc1]
          refine Ae (i:=3) (v:=?_) HT rfl (by kernel_rfl) rfl (kA Aa (Ab rfl rfl)) (by rfl) (fun _ _ _ h => h) (fun lx ax wx hS => ?_) ?_;rotate_left;(obtain ⟨⟨-,hbx⟩, -⟩:=hS;obtain ⟨x0,x1,x2,x3,x4,x5,x6,x7⟩:=HQ3.out.up hbx;simp only [Nat.zero_add] at x1 x2 x3 x4 x5 x6 x7;replace p0:=bc hbx p0;replace p1:=bc hbx p1;replace p2:=bc hbx p2;go_simp;with_reducible rfl);rotate_left;simp only [sc0,sc1]
          refine Ae (i:=4) (v:=?_) HT rfl (by kernel_rfl) rfl (kA Aa (Ab rfl rfl)) (by rfl) (fun _ _ _ h => h) (fun lx ax wx hS => ?_) ?_;rotate_left;(obtain ⟨⟨-,hbx⟩, -⟩:=hS;obtain ⟨x0,x1,x2,x3,x4,x5,x6,x7⟩:=HQ3.out.up hbx;simp only [Nat.zero_add] at x1 x2 x3 x4 x5 x6 x7;replace p0:=bc hbx p0;replace p1:=bc hbx p1;replace p2:=bc hbx p2;go_simp;with_reducible rfl);rotate_left;simp only [sc0,sc1]
          refine Ae (i:=5) (v:=?_) HT rfl (by kernel_rfl) rfl (kA Aa (Ab rfl rfl)) (by rfl) (fun _ _ _ h => h) (fun lx ax wx hS => ?_) ?_;rotate_left;(obtain ⟨⟨-,hbx⟩, -⟩:=hS;obtain ⟨x0,x1,x2,x3,x4,x5,x6,x7⟩:=HQ3.out.up hbx;simp only [Nat.zero_add] at x1 x2 x3 x4 x5 x6 x7;replace p0:=bc hbx p0;replace p1:=bc hbx p1;replace p2:=bc hbx p2;go_simp;with_reducible rfl);rotate_left;simp only [sc0,sc1]
          refine Ae (i:=6) (v:=?_) HT rfl (by kernel_rfl) rfl (kA Aa (Ab rfl rfl)) (by rfl) (fun _ _ _ h => h) (fun lx ax wx hS => ?_) ?_;rotate_left;(obtain ⟨⟨-,hbx⟩, -⟩:=hS;obtain ⟨x0,x1,x2,x3,x4,x5,x6,x7⟩:=HQ3.out.up hbx;simp only [Nat.zero_add] at x1 x2 x3 x4 x5 x6 x7;replace p0:=bc hbx p0;replace p1:=bc hbx p1;replace p2:=bc hbx p2;go_simp;with_reducible rfl);rotate_left;simp only [sc0,sc1]
          refine Ae (i:=7) (v:=?_) HT rfl (by kernel_rfl) rfl (kA Aa (Ab rfl rfl)) (by rfl) (fun _ _ _ h => h) (fun lx ax wx hS => ?_) ?_;rotate_left;(obtain ⟨⟨-,hbx⟩, -⟩:=hS;obtain ⟨x0,x1,x2,x3,x4,x5,x6,x7⟩:=HQ3.out.up hbx;simp only [Nat.zero_add] at x1 x2 x3 x4 x5 x6 x7;replace p0:=bc hbx p0;replace p1:=bc hbx p1;replace p2:=bc hbx p2;go_simp;with_reducible rfl);rotate_left;simp only [sc0,sc1]
          refine Ae (i:=8) (v:=?_) HT rfl (by kernel_rfl) rfl (kA Aa (Ab rfl rfl)) (by rfl) (fun _ _ _ h => h) (fun lx ax wx hS => ?_) ?_;rotate_left;(obtain ⟨⟨-,hbx⟩, -⟩:=hS;obtain ⟨x0,x1,x2,x3,x4,x5,x6,x7⟩:=HQ3.out.up hbx;simp only [Nat.zero_add] at x1 x2 x3 x4 x5 x6 x7;replace p0:=bc hbx p0;replace p1:=bc hbx p1;replace p2:=bc hbx p2;go_simp;with_reducible rfl);rotate_left;simp only [sc0,sc1]
          refine Ae (i:=9) (v:=?_) HT rfl (by kernel_rfl) rfl (kA Aa (Ab rfl rfl)) (by rfl) (fun _ _ _ h => h) (fun lx ax wx hS => ?_) ?_;rotate_left;(obtain ⟨⟨-,hbx⟩, -⟩:=hS;obtain ⟨x0,x1,x2,x3,x4,x5,x6,x7⟩:=HQ3.out.up hbx;simp only [Nat.zero_add] at x1 x2 x3 x4 x5 x6 x7;replace p0:=bc hbx p0;replace p1:=bc hbx p1;replace p2:=bc hbx p2;go_simp;with_reducible rfl);rotate_left;simp only [sc0,sc1]
          refine Ae (i:=10) (v:=?_) HT rfl (by kernel_rfl) rfl (kA Aa (Ab rfl rfl)) (by rfl) (fun _ _ _ h => h) (fun lx ax wx hS => ?_) ?_;rotate_left;(obtain ⟨⟨-,hbx⟩, -⟩:=hS;obtain ⟨x0,x1,x2,x3,x4,x5,x6,x7⟩:=HQ3.out.up hbx;simp only [Nat.zero_add] at x1 x2 x3 x4 x5 x6 x7;replace p0:=bc hbx p0;replace p1:=bc hbx p1;replace p2:=bc hbx p2;go_simp;with_reducible rfl);rotate_left;simp only [sc0,sc1]
          refine C9 (i:=11) (f:=160) (args:=#[(pg (Ck ps l k) (rc l k).page.toNat).val A3 c3,(rc l k).val, .int .i64 ((k : Int) + 1)]) (fun v => ∃ u,v = q.own u) rfl (by kernel_rfl) rfl Tryz.func160 (by kernel_rfl) rfl rfl (by rfl) (by simp only [List.map_toArray,List.map_cons,List.map_nil];rfl) (fun wx hS => (hcall wx hS.1.2).mono (by rintro e w6 ⟨u,rfl,ho,hb⟩;exact ⟨_,rfl,⟨u,rfl⟩,⟨bj hS.1.1 hb,bj hS.1.2 hb⟩,fun _ => ⟨u,rfl,ho.lower hS.1.2.size⟩⟩)) (fun vx hg => ?_);simp only [sc0,sc1]
          obtain ⟨u,rfl⟩:=hg
          refine Ae (i:=12) (v:=?_) HT rfl (by kernel_rfl) rfl (kA Aa (Ab rfl rfl)) (by rfl) (fun _ _ _ h => h) (fun lx ax wx hS => ?_) ?_;rotate_left;(go_simp;with_reducible rfl);rotate_left;simp only [sc0,sc1]
          refine Cg (i:=13) (by kernel_rfl) rfl (fun wx hS => ?_)
          obtain ⟨⟨h1,h2⟩,h3⟩:=hS
          obtain ⟨u1,hu1,hown⟩:=h3 (by kernel_rfl)
          have hu1 : q.own u = q.own u1:=hu1
          obtain rfl : u = u1:=by simpa using hu1
          refine Ej (ok:=fun _ => True) (w0:=w) (N:=w3.heap.size) (q:=q) (rc l k).page.toNat (Lu HGk.out) (.tmp 46) (.tmp 45) rfl (by rfl) rfl rfl rfl hown HW3.out.size (Kd.DC HO3.out h2) hpn h1 (fun w8 hO8 hB8 _ => ?_)
          have HO8:=As (Kd.DN (ok':=fun _ => True) hO8 (fun _ _ => trivial))
          have HB8:=As hB8
          clear hO8 hB8 hown h1 h2 h3 hu1 hcall
          refine BQ (by kernel_rfl) ?_
          go_wp2
          go_roundw
          case rel => exact ⟨k + 1,by omega,by go_num,⟨by rw [Ck,DZ,if_pos ⟨HC.out,by have:=e1.out;push_cast;omega⟩];push_cast;rw [HQ.out];exact HO8.out⟩,HB8⟩
          case measure => simp [intOf];omega
        · go_wp2_with (first | (with_reducible refine Ct (rc l k) ?_;intro w3 hb2 hz2 hq2;have HW3:=As (bj HW.out hb2);have HO3:=As (Kd.Br HO.out hb2);have HQ3:=As hq2;obtain ⟨x0,x1,x2,x3,x4,x5,x6,x7⟩:=hq2;simp only [Nat.zero_add] at x1 x2 x3 x4 x5 x6 x7;obtain ⟨A3,c3,p0,p1,p2,pC, -⟩:=Dz HO3.out (rc l k).page.toNat hpn;have HPC:=As pC;clear pC;clear hb2) | (go_at_call 159;refine (Fj HC.out _).mono ?_;rintro e w4 ⟨rfl,rfl⟩))
          go_roundw
          case rel => exact ⟨k + 1,by omega,by go_num,⟨by rw [Ck,DZ,if_neg (by have:=e1.out;simp;intro _;omega)];exact HO3.out⟩,HW3⟩
          case measure => simp [intOf];omega
    · have hke : k = l.length:=by omega
      have HE:=As hke
      clear hke
      go_wp2
      go_ret
      exact ⟨_,rfl,by rw [← HE.out];exact HO.out,HW.out⟩
/-- Does a page come up in the chain? -/
def G8 (l : List Rec) (n : Nat) (page : Int) : Bool:=(BA l n).any fun m => (rc l (m - 1)).page == page
theorem Gw (l : List Rec) (p : Int) : G8 l 0 p = false:=by simp [G8,Cm]
theorem P6 {l : List Rec} {n : Nat} {p : Int} (h : BH l (n + 1) ≤ n) : G8 l (n + 1) p = ((rc l n).page == p || G8 l (BH l (n + 1)) p):=by
  simp [G8,DU h]
set_option maxHeartbeats 1000000 in
theorem JC {w0 w : World} {A : Option Addr} {c : Nat} {l : List Rec} {tx page : Int} {b : Bool} (hv : G8 l (Aj l tx l.length) page = b) (hb : Below w0.heap.size w0 w) (hr : Kd.C Ca w0 A l.length l) (hl : AP l = true) : Calls Tryz.prog 56 #[.slice A l.length c, .int .i64 tx, .int .i64 page] w fun e w' => e = .returned (.bool b) ∧ w = w':=by
  have HR:=As hr
  have HB:=As hb
  have HL:=As hl
  have HV:=As hv
  have hm:=(CJ hr).2
  clear hr hb hl hv
  go_enter Tryz.func56,Tryz.ntmps56
  go_wp2_with (go_at_call 115;refine (IL tx HB.out HR.out).mono ?_;rintro e w' ⟨rfl,rfl⟩)
  go_loop [7] (fun i => ∃ k : Nat,k ≤ l.length ∧ i = .int .i64 (k : Int) ∧ Ac (G8 l k page = b)) (fun i => (intOf i).toNat)
  case atStart => exact ⟨Aj l tx l.length,AY _ _ _,rfl,HV⟩
  case round =>
    obtain ⟨k,hk,rfl,HK⟩:=hrel
    rcases k with _ | k
    · go_wp2
      go_ret
      exact ⟨AB (by rw [← HK.out,Gw]),rfl⟩
    · have F:=AA HL.out (k:=k) (by omega)
      obtain ⟨ad,rfl,QR⟩:=Ce HR.out k (by omega)
      have QW:=QR.up HB.out
      obtain ⟨g0,g1,g2,g3,g4,g5,g6,g7⟩:=QW
      have hp:=P6 (p:=page) F.prev_le
      have HP:=As hp
      have hle:=F.prev_le
      rw [F.prev] at g6
      clear hp F QR
      rcases BO (rc l k).page page with ⟨e1,b1,c1⟩ | ⟨e1,b1,c1⟩
      · go_wp2
        go_ret
        exact ⟨AB (by rw [← HK.out,HP.out,b1];rfl),rfl⟩
      · go_wp2
        go_round
        case rel => exact ⟨BH l (k + 1),by omega,rfl,⟨by rw [← HK.out,HP.out,b1,Bool.false_or]⟩⟩
        case measure => simp [intOf];omega
theorem H8 {l : List Rec} {n : Nat} (hk : (rc l n).kind = 1 ∨ (rc l n).kind = 2) (h : BH l (n + 1) ≤ n) : Bq l (n + 1) = n + 1:=by
  rw [Bq,KT hk h];rfl
theorem KU {l : List Rec} {n : Nat} (hk : (rc l n).kind = 6) (h : EB l (n + 1) ≤ n) : Bq l (n + 1) = Bq l (EB l (n + 1)):=by
  rw [Bq,LW hk h];rfl
theorem KV {l : List Rec} {n : Nat} (h1 : (rc l n).kind ≠ 1) (h2 : (rc l n).kind ≠ 2) (h6 : (rc l n).kind ≠ 6) (h : BH l (n + 1) ≤ n) : Bq l (n + 1) = Bq l (BH l (n + 1)):=by
  rw [Bq,LY h1 h2 h6 h];rfl
theorem OJ (l : List Rec) : Bq l 0 = 0:=by rw [Bq,D5];rfl
set_option maxHeartbeats 2000000 in
theorem FV {w0 w : World} {A : Option Addr} {c n : Nat} {l : List Rec} (hn : n ≤ l.length) (hb : Below w0.heap.size w0 w) (hr : Kd.C Ca w0 A l.length l) (hl : AP l = true) : Calls Tryz.prog 161 #[.slice A l.length c, .int .i64 n] w fun e w' => e = .returned (.int .i64 (Bq l n)) ∧ Below w0.heap.size w0 w':=by
  have HR:=As hr
  have HB:=As hb
  have HL:=As hl
  have hm:=(CJ hr).2
  clear hr hb hl
  go_enter Tryz.func161,Tryz.ntmps161
  go_wp2
  go_loopw [1] (fun i wr => ∃ k : Nat,k ≤ l.length ∧ i = .int .i64 (k : Int) ∧ Ac (Bq l n = Bq l k) ∧ Ac (Below w0.heap.size w0 wr)) (fun i _ => (intOf i).toNat)
  case atStart => exact ⟨n,hn,rfl,⟨rfl⟩,HB⟩
  case round =>
    obtain ⟨k,hk,rfl,HK,HW⟩:=hrel
    rcases k with _ | k
    · go_wp2
      go_ret
      exact ⟨Cs (by rw [HK.out,OJ];rfl),HW.out⟩
    · have F:=AA HL.out (k:=k) (by omega)
      obtain ⟨ad,rfl,QR⟩:=Ce HR.out k (by omega)
      have QW:=QR.up HW.out
      obtain ⟨g0,g1,g2,g3,g4,g5,g6,g7⟩:=QW
      have hle:=F.prev_le
      have hle2:=F.next_le
      rw [F.prev] at g6
      rw [F.next] at g7
      clear F QR
      rcases BO (rc l k).kind 1 with ⟨e1,b1,c1⟩ | ⟨e1,b1,c1⟩
      · go_wp2
        go_ret
        exact ⟨Cs (by rw [HK.out,H8 (.inl e1.out) hle]),Dh HW.out _⟩
      · rcases BO (rc l k).kind 2 with ⟨e2,b2,c2⟩ | ⟨e2,b2,c2⟩
        · go_wp2
          go_ret
          exact ⟨Cs (by rw [HK.out,H8 (.inr e2.out) hle]),Dh HW.out _⟩
        · rcases BO (rc l k).kind 6 with ⟨e3,b3,c3⟩ | ⟨e3,b3,c3⟩
          · go_wp2
            go_roundw
            case rel => exact ⟨EB l (k + 1),by omega,rfl,⟨by rw [HK.out,KU e3.out hle2]⟩,⟨Dh HW.out _⟩⟩
            case measure => simp [intOf];omega
          · go_wp2
            go_roundw
            case rel => exact ⟨BH l (k + 1),by omega,rfl,⟨by rw [HK.out,KV e1.out e2.out e3.out hle]⟩,⟨Dh HW.out _⟩⟩
            case measure => simp [intOf];omega
/-- The number of the last record of a page among the first n. -/
def BD (l : List Rec) (page : Int) : Nat → Nat
  | 0 => 0
  | n + 1 => if (rc l n).page = page ∧ (Cx (rc l n).kind = true ∨ (rc l n).kind = 3) then n + 1 else BD l page n
open Go.RowKit Go.Shelf Go.Proofs.YtpjmlpmhgfghbaaGreatW.PrintWords Go.Proofs.YtpjmlpmhgfghbaaGreatW.PrintLast Go.Proofs.YtpjmlpmhgfghbaaGreatW.PrintMore
attribute [local go_sem] Oper.semAt_some
/-- n - 1, n - 2, ..: k of them. -/
def J9 (n k : Nat) : List Nat:=(List.range k).map fun j => n - 1 - j
theorem FR (n k : Nat) : J9 n (k + 1) = J9 n k ++ [n - 1 - k]:=by simp [J9,List.range_succ]
theorem Fs (n k : Nat) : (J9 n k).length = k:=by simp [J9]
/-- A place in a list of n. -/
abbrev J4 (n : Nat) : Type:={ k : Nat // k < n }
set_option maxRecDepth 100000 in
set_option maxHeartbeats 4000000 in
theorem VO (F : Fence) (n : Nat) (h7 : F.fn 181) (hro : F.round = none) (hn : 1 ≤ n) (l Bs n₀ cap : Nat) (A : Option Addr) (rs : List Rec) (w0 : World) (hC : Kd.C Ca w0 A rs.length rs) (J Jx : List (J4 rs.length) → World → Prop) (hw0 : w0.heap.size ≤ n₀) (hBn : Bs < n₀)
    (hY : ∀ pre x W,J pre W → pre.length < rs.length → YieldAt F (n - 1) Tryz.prog l #[.int .i64 (x.1 : Nat),(rc rs x.1).val] W fun e W' =>
      (e = .returned (.bool true) ∧ J (pre ++ [x]) W' ∧ Below n₀ W W') ∨ (e = .returned (.bool false) ∧ Jx (pre ++ [x]) W'))
    (W : World) (hBs : W.cell? ⟨Bs,0,none⟩ = some (.slice A rs.length cap)) (hW : Below w0.heap.size w0 W) (h0 : J [] W) :
    CallsIn F n Tryz.prog 181 #[.func (.yield l) #[] #[], .pointer (some ⟨Bs,0,none⟩)] W fun e W' => (∃ v,e = .returned v) ∧
      ((∃ ys : List (J4 rs.length),ys.map (·.1) = J9 rs.length rs.length ∧ J ys W') ∨ (∃ pre : List (J4 rs.length),(∃ k,k ≤ rs.length ∧ pre.map (·.1) = J9 rs.length k) ∧ Jx pre W')):=by
  have HC:=As hC
  have HW:=As hW
  have hm:=(CJ hC).2
  clear hC hW
  refine callsIn_of_wp Tryz.func181 rfl h7 ?_ hro
  simp only [Tryz.ntmps181,List.size_toArray,List.length_cons,List.length_nil,Nat.reduceAdd,Nat.reduceSub,Array.replicate_succ,Array.replicate_zero,List.push_toArray,List.append_toArray,List.nil_append,List.cons_append]
  gi_wp2
  gi_loopw [3] (fun i wr => ∃ (k : Nat) (pre : List (J4 rs.length)),k ≤ rs.length ∧ i = .int .i64 (((rs.length - k : Nat) : Int) - 1) ∧ Ac (pre.map (·.1) = J9 rs.length k) ∧ Ac (J pre wr) ∧ Ac (Below n₀ W wr))
    (fun i _ => (intOf i + 1).toNat)
  case atStart => exact ⟨0, [],Nat.zero_le _,by simp,⟨rfl⟩,⟨h0⟩,⟨Below.refl _ _⟩⟩
  case round =>
    obtain ⟨k,pre,hk,rfl,HP,HJ,HX⟩:=hrel
    have hbx : wr.cell? ⟨Bs,0,none⟩ = some (.slice A rs.length cap):=(HX.out.cell (p:=⟨Bs,0,none⟩) hBn).trans hBs
    obtain ⟨m,hm2⟩ : ∃ m,rs.length - k = m:=⟨_,rfl⟩
    rw [hm2]
    rcases m with _ | m
    · have hkk : k = rs.length:=by omega
      gi_wp2
      go_end0
      exact ⟨⟨_,rfl⟩, .inl ⟨pre,by rw [HP.out,hkk],HJ.out⟩⟩
    · obtain ⟨ad,rfl,QR⟩:=Ce HC.out m (by omega)
      have hWr : Below w0.heap.size w0 wr:=HW.out.trans (HX.out.mono hw0)
      obtain ⟨g0,g1,g2,g3,g4,g5,g6,g7⟩:=QR.up hWr
      have hpl : pre.length < rs.length:=by
        have:=congrArg List.length HP.out
        rw [List.length_map,Fs] at this
        omega
      have HM:=As hm2
      have hml : m < rs.length:=by omega
      clear hm2
      obtain ⟨fn,tmps,assign,body,hy,hR⟩:=hY pre ⟨m,hml⟩ wr HJ.out hpl
      have HR:=As hR
      clear hWr hR
      gi_wp2
      refine HR.out.mono ?_
      rintro e W3 (⟨rfl,hJ3,hk3⟩ | ⟨rfl,hJx3⟩)
      · have HJ3:=As hJ3
        have HK3:=As hk3
        clear hJ3 hk3
        gi_wp2
        go_roundw
        case rel => exact ⟨k + 1,pre ++ [⟨m,hml⟩],by have:=HM.out;omega,by have:=HM.out;rw [show rs.length - (k + 1) = m by omega],⟨by rw [List.map_append,HP.out,FR];have:=HM.out;simp;omega⟩,HJ3,⟨HX.out.trans HK3.out⟩⟩
        case measure => simp [intOf]
      · have HJ3:=As hJx3
        clear hJx3
        gi_wp2
        refine bodyPost_ret (results_none rfl _ _ _) rfl ?_
        exact ⟨⟨_,rfl⟩, .inr ⟨pre ++ [⟨m,hml⟩],⟨k + 1,by have:=HM.out;omega,by rw [List.map_append,HP.out,FR];have:=HM.out;simp;omega⟩,HJ3.out⟩⟩
set_option maxHeartbeats 1000000 in
theorem TR (F : Fence) (n : Nat) (h5 : F.fn 165) (hro : F.round = none) (a : Option Addr) (len cap : Nat) (w : World) :
    CallsIn F n Tryz.prog 165 #[.slice a len cap] w fun e w' => e = .returned (.func (.func 181) #[] #[.pointer (some ⟨w.heap.size,0,none⟩)]) ∧ w' = w.alloc (.cells #[.slice a len cap] 26):=by
  refine callsIn_of_wp Tryz.func165 rfl h5 ?_ hro
  simp only [Tryz.ntmps165,List.size_toArray,List.length_cons,List.length_nil,Nat.reduceAdd,Nat.reduceSub,Array.replicate_succ,Array.replicate_zero,List.push_toArray,List.append_toArray,List.nil_append,List.cons_append]
  gi_wp2
  go_ret
  exact ⟨rfl,rfl⟩
theorem O0 (F : Fence) (n : Nat) (h7 : F.fn 181) (hro : F.round = none) (hn : 1 ≤ n) (Bs n₀ cap : Nat) (A : Option Addr) (rs : List Rec) (w0 w : World) (hC : Kd.C Ca w0 A rs.length rs) (hw0 : w0.heap.size ≤ n₀) (hBn : Bs < n₀) (hn₀ : n₀ ≤ w.heap.size)
    (hb : Below w0.heap.size w0 w) (hc : w.cell? ⟨Bs,0,none⟩ = some (.slice A rs.length cap)) :
    SeqStopsK F n Tryz.prog 181 #[.pointer (some ⟨Bs,0,none⟩)] (fun x : J4 rs.length => #[Value.int .i64 (x.1 : Nat),(rc rs x.1).val]) (Below n₀) (fun ys => ys.map (·.1) = J9 rs.length rs.length) (fun pre => ∃ k,k ≤ rs.length ∧ pre.map (·.1) = J9 rs.length k) rs.length w:=fun l J Jx W hW _ _ hY h0 => by
  have hc':=(hW.cell (p:=⟨Bs,0,none⟩) (by show Bs < _;omega)).trans hc
  have hW' : Below w0.heap.size w0 W:=hb.trans (hW.mono hb.size)
  refine (VO F n h7 hro hn l Bs n₀ cap A rs w0 hC J Jx hw0 hBn hY W hc' hW' h0).mono ?_
  rintro e W' ⟨he,⟨ys,h1,h2⟩ | ⟨pre,h1,h2⟩⟩
  · exact ⟨he, .inl ⟨ys,h1,h2⟩⟩
  · exact ⟨he, .inr ⟨pre,h1,h2⟩⟩
/-- What has come tells the last record. -/
theorem KH {l : List Rec} {tx : Int} {n : Nat} : ∀ {k : Nat},k ≤ n → (∀ x ∈ J9 n k,(rc l x).tx ≠ tx) → Aj l tx n = Aj l tx (n - k)
  | 0,_,_ => rfl
  | k + 1,hk,h => by
    rw [FR] at h
    rw [KH (k:=k) (by omega) (fun x hx => h x (List.mem_append_left _ hx))]
    have h1:=h (n - 1 - k) (by simp)
    rw [show n - k = (n - (k + 1)) + 1 by omega]
    rw [Aj,show n - (k + 1) = n - 1 - k by omega,if_neg h1]
end Go.Proofs.YtpjmlpmhgfghbaaGreat
/- impl.last: the number of the last record of a transaction. -/
namespace Go.Proofs.YtpjmlpmhgfghbaaGreat
open Go.RowKit Go.Shelf Go.Proofs.YtpjmlpmhgfghbaaGreatW.PrintWords Go.Proofs.YtpjmlpmhgfghbaaGreatW.PrintLast Go.Proofs.YtpjmlpmhgfghbaaGreatW.PrintMore
attribute [local go_sem] Oper.semAt_some
/-- A block of cells, whole. -/
def Blk (W : World) (B : Nat) (t : TypeId) (cs : Array Value) : Prop:=W.heap[B]? = some (.cells cs t (0,0))
theorem Blk.lt {W : World} {B : Nat} {t : TypeId} {cs : Array Value} (h : Blk W B t cs) : B < W.heap.size:=(Array.getElem?_eq_some_iff.1 h).1
theorem TQ {β : Type} (B : Nat) (t : TypeId) (f : β → Array Value) : Own (fun s W => Blk W B t (f s)):=fun s X Y row hs hg hrow =>
  (hg.block B hs.lt (fun e' => by obtain ⟨o,ho,hc⟩:=hrow B e'.symm;rw [show X.heap[B]? = _ from hs] at ho;cases ho;cases hc)).trans hs
theorem Blk.new (W : World) (t : TypeId) (cs : Array Value) : Blk (W.alloc (.cells cs t)) W.heap.size t cs:=World.alloc_heap_new W _
theorem Blk.recAt {W : World} {B : Nat} {t : TypeId} {r : Rec} (h : Blk W B t #[.int .i64 r.kind, .int .i64 r.tx, .int .i64 r.page, .int .i64 r.slot, .int .i64 r.old, .int .i64 r.new, .int .i64 r.prev, .int .i64 r.next]) : FZ W ⟨B,0,none⟩ r:=by
  have hc : ∀ j u,(#[.int .i64 r.kind, .int .i64 r.tx, .int .i64 r.page, .int .i64 r.slot, .int .i64 r.old, .int .i64 r.new, .int .i64 r.prev, .int .i64 r.next] : Array Value)[j]? = some u → W.cell? ⟨B,j,none⟩ = some u:=fun j u hu => by
    rw [World.cell?,show W.heap[B]? = _ from h]
    simpa using hu
  exact ⟨hc 0 _ rfl,hc 1 _ rfl,hc 2 _ rfl,hc 3 _ rfl,hc 4 _ rfl,hc 5 _ rfl,hc 6 _ rfl,hc 7 _ rfl⟩
theorem E5 {B : Nat} {W W1 : World} (h : Below W.heap.size W W1) : KeepsFrom B W W1:=⟨h.size,fun k _ _ hk _ => (h.block k (Array.getElem?_eq_some_iff.1 hk).1).trans hk⟩
set_option maxRecDepth 100000 in
set_option maxHeartbeats 4000000 in
theorem IJ {w0 w : World} {A : Option Addr} {c : Nat} {l : List Rec} (tx : Int) (hb : Below w0.heap.size w0 w) (hr : Kd.C Ca w0 A l.length l) : Calls Tryz.prog 107 #[.slice A l.length c, .int .i64 tx] w fun e w' => e = .returned (.int .i64 (Aj l tx l.length)) ∧ Below w.heap.size w w':=by
  have HR:=As hr
  have HB:=As hb
  have hm:=(CJ hr).2
  clear hr hb
  refine (callsIn_wide (n:=5)).1 ?_
  have hro : Fence.wide.round = none:=rfl
  have h1 : 1 ≤ 5:=by omega
  refine callsIn_of_wp_marks Tryz.func107 rfl trivial ?_ hro
  simp only [Tryz.ntmps107,List.size_toArray,List.length_cons,List.length_nil,Nat.reduceAdd,Nat.reduceSub,Array.replicate_succ,Array.replicate_zero,List.push_toArray,List.append_toArray,List.nil_append,List.cons_append]
  gi_wp2_with (refine ⟨trivial,?_⟩;gi_at_call 165;refine (TR Fence.wide _ trivial hro _ _ _ _).mono ?_;rintro e w' ⟨rfl,rfl⟩)
  have b3:=((Blk.new w 3 #[.int .i64 tx]) : Blk _ _ _ _)
  obtain ⟨W0,hW0⟩ : ∃ W0,((w.alloc (.cells #[.int .i64 tx] 3)).alloc (.cells #[.int .i64 0] 3)).alloc (.cells #[.slice A l.length c] 26) = W0:=⟨_,rfl⟩
  have hsz : W0.heap.size = w.heap.size + 3:=by rw [← hW0];simp
  have hB0 : Below w.heap.size w W0:=by rw [← hW0];exact (((Below.refl _ w).alloc (Nat.le_refl _) _).alloc (by simp) _).alloc (by simp;omega) _
  have bT : Blk W0 w.heap.size 3 #[.int .i64 tx]:=by
    rw [← hW0];exact ((Below.heap_alloc _ _ _ (by simp;omega)).trans (Below.heap_alloc _ _ _ (by simp))).trans (World.alloc_heap_new w _)
  have bR : Boxed W0 (w.heap.size + 1) 3 (.int .i64 0):=by
    rw [← hW0];refine (Below.heap_alloc _ _ _ (by simp)).trans ?_
    have:=World.alloc_heap_new (w.alloc (.cells #[.int .i64 tx] 3)) (.cells #[.int .i64 0] 3);rwa [World.size_alloc] at this
  have bS : W0.cell? ⟨w.heap.size + 1 + 1,0,none⟩ = some (.slice A l.length c):=by
    have : Boxed W0 (w.heap.size + 1 + 1) 26 (.slice A l.length c):=by
      rw [← hW0];have:=World.alloc_heap_new ((w.alloc (.cells #[.int .i64 tx] 3)).alloc (.cells #[.int .i64 0] 3)) (.cells #[.slice A l.length c] 26);rwa [World.size_alloc,World.size_alloc] at this
    exact this.cell
  rw [hW0]
  clear hW0 b3
  have hw0 : Below w0.heap.size w0 W0:=bj HB.out hB0
  have HSZ:=As hsz
  refine wpIn_rangeFunc_ownH (α:=J4 l.length) hro h1 (gf:=181) (lb:=#[.pointer (some ⟨w.heap.size + 1 + 1,0,none⟩)]) rfl trivial (enters_of Tryz.func181 (by kernel_rfl) rfl)
    (O0 Fence.wide _ trivial hro (by omega) (w.heap.size + 1 + 1) W0.heap.size c A l w0 W0 HR.out hw0.size (by omega) (Nat.le_refl _) hw0 bS) belowK_t (belowK_b (Nat.le_refl _)) (Below.refl _ _) (fun _ => rfl)
    (fun pre W => (∀ x ∈ pre,(rc l x.1).tx ≠ tx) ∧ Below W0.heap.size W0 W)
    (fun cc pre W => ((cc = .ret ∧ ∃ pre0 x,pre = pre0 ++ [x] ∧ (∀ y ∈ pre0,(rc l y.1).tx ≠ tx) ∧ (rc l x.1).tx = tx) ∧ (∃ x : J4 l.length,pre.getLast? = some x ∧ Boxed W (w.heap.size + 1) 3 (.int .i64 (if ED (rc l x.1).kind = true then 0 else (x.1 : Int) + 1)))) ∧ Below w.heap.size w W)
    (OwnFrom.and (ownFrom_pure _ _) (ownFrom_below (Nat.le_refl _) (Nat.le_refl _)))
    (fun cc => OwnFrom.and (OwnFrom.and (ownFrom_pure _ _) (fun s X Y row hs hg hr => by obtain ⟨x,e1,e2⟩:=hs;exact ⟨x,e1,boxed_own _ _ (fun (_ : Unit) => _) () X Y row e2 hg (fun r e => (hr r e).2)⟩)) (ownFrom_below (Nat.le_refl _) (by omega)))
    ⟨by simp,Below.refl _ _⟩
    (fun x a' W => ∃ Bx,W0.heap.size ≤ Bx ∧ Blk W Bx 98 #[.int .i64 (rc l x.1).kind, .int .i64 (rc l x.1).tx, .int .i64 (rc l x.1).page, .int .i64 (rc l x.1).slot, .int .i64 (rc l x.1).old, .int .i64 (rc l x.1).new, .int .i64 (rc l x.1).prev, .int .i64 (rc l x.1).next] ∧ a' = { tmps:=#[.slice A l.length c, .int .i64 tx,undef, .pointer (some ⟨w.heap.size,0,none⟩), .pointer (some ⟨w.heap.size + 1,0,none⟩), .int .i64 (x.1 : Nat), .pointer (some ⟨Bx,0,none⟩), .slice A l.length c, .func (.func 181) #[] #[.pointer (some ⟨w.heap.size + 1 + 1,0,none⟩)], .int .i64 (x.1 : Nat),(rc l x.1).val,undef,undef,undef,undef,undef,undef,undef,undef],defers := [] })
    (fun x a' _ X Y row hs hg hr => by obtain ⟨Bx,e1,e2,e3⟩:=hs;exact ⟨Bx,e1,TQ Bx 98 (fun (_ : Unit) => #[.int .i64 (rc l x.1).kind, .int .i64 (rc l x.1).tx, .int .i64 (rc l x.1).page, .int .i64 (rc l x.1).slot, .int .i64 (rc l x.1).old, .int .i64 (rc l x.1).new, .int .i64 (rc l x.1).prev, .int .i64 (rc l x.1).next]) () X Y row e2 hg (fun r e => (hr r e).2),e3⟩)
    ?assign ?body ?done ?stop
  all_goals clear hsz
  case assign =>
    rintro lp pre x W K ⟨hp,hB1⟩ hK
    gi_wp2
    exact hK _ _ ((KeepsOthers.alloc _ _).from _) ((Below.refl _ W).alloc hB1.size _) ⟨hp,hB1.alloc hB1.size _⟩ ⟨W.heap.size,hB1.size,Blk.new W _ _,rfl⟩
  case body =>
    rintro lp pre x a' W hlp - ⟨hp,hB1⟩ ⟨Bx,hBx,bX,rfl⟩ hlt
    obtain ⟨g0,g1,g2,g3,g4,g5,g6,g7⟩:=bX.recAt
    have cT : W.cell? ⟨w.heap.size,0,none⟩ = some (.int .i64 tx):=(hB1.cell (p:=⟨w.heap.size,0,none⟩) (by show w.heap.size < _;have:=HSZ.out;omega)).trans (Boxed.cell bT)
    have bR1 : Boxed W (w.heap.size + 1) 3 (.int .i64 0):=(hB1.block _ (by have:=HSZ.out;omega)).trans bR
    have cR:=bR1.cell
    have fR:=bR1.frozen
    have h1' : 1 ≤ 5 - 1 - 1:=by omega
    have hxl : ((x.1 : Nat) : Int) < 9223372036854775807:=by have:=x.2;omega
    have hx0 : (0 : Int) ≤ ((x.1 : Nat) : Int):=Int.natCast_nonneg _
    rcases BO (rc l x.1).tx tx with ⟨e1,b1,c1⟩ | ⟨e1,b1,c1⟩
    · cases he : ED (rc l x.1).kind
      all_goals
        have HE:=As he
        clear he
        gi_wp2_with (refine ⟨trivial,?_⟩;gi_at_call 133;refine (CallsIn.inRound lp (callsIn_wide.2 (LB (r:=rc l x.1) HE.out _))).mono ?_;rintro e w1 ⟨rfl,hb1⟩;have cR1:=CB hb1 cR;have fR1:=(hb1.frozen (p:=⟨w.heap.size + 1,0,none⟩) (World.block_lt_of_cell? _ _ cR)).trans fR)
      · refine ⟨(E5 hb1).trans ((KeepsOthers.setCell _ _ _).from _),⟨⟨rfl,pre,x,rfl,hp,e1.out⟩,x,by simp,?_⟩,((hB0.trans (hB1.mono hB0.size)).trans (hb1.mono ((hB0.trans (hB1.mono hB0.size)).size))).setCell (p:=⟨w.heap.size + 1,0,none⟩) (by simp) _⟩
        rw [HE.out,if_neg (by simp)]
        exact (show Boxed w1 (w.heap.size + 1) 3 (.int .i64 0) from (hb1.block _ bR1.lt).trans bR1).set _
      · refine ⟨(E5 hb1).trans ((KeepsOthers.setCell _ _ _).from _),⟨⟨rfl,pre,x,rfl,hp,e1.out⟩,x,by simp,?_⟩,((hB0.trans (hB1.mono hB0.size)).trans (hb1.mono ((hB0.trans (hB1.mono hB0.size)).size))).setCell (p:=⟨w.heap.size + 1,0,none⟩) (by simp) _⟩
        rw [HE.out,if_pos rfl]
        exact (show Boxed w1 (w.heap.size + 1) 3 (.int .i64 0) from (hb1.block _ bR1.lt).trans bR1).set _
    · gi_wp2
      exact ⟨KeepsFrom.refl _ _,Below.refl _ _,fun z hzl hz => (List.mem_append.1 hz).elim (hp ⟨z,hzl⟩) (fun e => by have e2:=List.mem_singleton.1 e;rw [← e2] at e1;exact e1.out),hB1⟩
  case done =>
    rintro D xs W hD hS ⟨hp,hB1⟩ hK
    have bR1 : Boxed W (w.heap.size + 1) 3 (.int .i64 0):=(hB1.block _ (by have:=HSZ.out;omega)).trans bR
    have cR:=bR1.cell
    have fR:=bR1.frozen
    gi_wp2
    have hK':=(KeepsOthers.setCell W ⟨w.heap.size + 1,0,none⟩ (.int .i64 0)).same D _ hK rfl
    refine ⟨by simp, .inl ⟨_,_,rfl,run_takeDeferred hK',?_⟩⟩
    have hc5:=cell_kept (bR1.set (.int .i64 0)).cell (grownBy_putObj' _ D (.deferred none)) (fun r e => by cases e;exact ⟨_,hK',rfl⟩)
    refine ⟨.int .i64 0,?_,?_,((hB0.trans (hB1.mono hB0.size)).setCell (p:=⟨w.heap.size + 1,0,none⟩) (by simp) _).trans (belowK_b (w:=w) (Nat.le_refl _) _ D _ _ (by have:=HSZ.out;omega) hK' rfl rfl)⟩
    · simp [results,Tryz.f107,go_sem,hc5]
    · refine Cs ?_
      have:=KH (l:=l) (tx:=tx) (Nat.le_refl _) (fun y hy => by
        rw [← hS] at hy
        obtain ⟨z,hz,rfl⟩:=List.mem_map.1 hy
        exact hp z hz)
      rw [this,Nat.sub_self]
      rfl
  case stop =>
    rintro D cc pre W hD ⟨k,hk,hpk⟩ ⟨⟨⟨rfl,pre0,x,rfl,hp,hx⟩,x',hl',bR1⟩,hB1⟩ hK
    obtain rfl : x = x':=by simpa using hl'
    gi_wp2
    refine ⟨by simp, .inl ⟨_,_,rfl,run_takeDeferred hK,?_⟩⟩
    have hc5:=cell_kept bR1.cell (grownBy_putObj' _ D (.deferred none)) (fun r e => by cases e;exact ⟨_,hK,rfl⟩)
    refine ⟨.int .i64 (if ED (rc l x.1).kind = true then 0 else (x.1 : Int) + 1),?_,?_,hB1.trans (belowK_b (w:=w) (Nat.le_refl _) W D _ _ (by have:=HSZ.out;omega) hK rfl rfl)⟩
    · simp [results,Tryz.f107,go_sem,hc5]
    · refine Cs ?_
      rw [List.map_append,List.map_cons,List.map_nil] at hpk
      have hkl : k = pre0.length + 1:=by
        have:=congrArg List.length hpk
        rw [Fs] at this
        simp at this
        omega
      subst hkl
      rw [FR] at hpk
      obtain ⟨h2,h3⟩:=List.append_inj hpk (by simp [Fs])
      have hx2 : x.1 = l.length - 1 - pre0.length:=by simpa using h3
      have:=KH (l:=l) (tx:=tx) (n:=l.length) (k:=pre0.length) (by omega) (fun y hy => by
        rw [← h2] at hy
        obtain ⟨z,hz,rfl⟩:=List.mem_map.1 hy
        exact hp z hz)
      rw [this,show l.length - pre0.length = x.1 + 1 by have:=x.2;omega,Aj,if_pos hx]
      split <;> simp
theorem Gn {w0 w : World} {A : Option Addr} {c m : Nat} {l : List Rec} {tx : Int} (h : Aj l tx l.length = m) (hb : Below w0.heap.size w0 w) (hr : Kd.C Ca w0 A l.length l) : Calls Tryz.prog 107 #[.slice A l.length c, .int .i64 tx] w fun e w' => e = .returned (.int .i64 m) ∧ Below w.heap.size w w':=(IJ tx hb hr).mono fun _ _ x => ⟨h ▸ x.1,x.2⟩
end Go.Proofs.YtpjmlpmhgfghbaaGreat
/- Walks over logs: the program's toUndo, chain, undos, open. -/
namespace Go.Proofs.YtpjmlpmhgfghbaaGreat
open Go.RowKit Go.Proofs.YtpjmlpmhgfghbaaGreatW.PrintWords Go.Proofs.YtpjmlpmhgfghbaaGreatW.PrintLast Go.Proofs.YtpjmlpmhgfghbaaGreatW.PrintMore
set_option maxHeartbeats 2000000 in
theorem IA {w0 w : World} {A : Option Addr} {c n : Nat} {l : List Rec} (hn : n ≤ l.length) (hb : Below w0.heap.size w0 w) (hr : Kd.C Ca w0 A l.length l) (hl : AP l = true) : Calls Tryz.prog 108 #[.slice A l.length c, .int .i64 n] w fun e w' => e = .returned (.int .i64 (Bq l n)) ∧ Below w0.heap.size w0 w':=by
  have HR:=As hr
  have HB:=As hb
  have HL:=As hl
  have hm:=(CJ hr).2
  clear hr hb hl
  go_enter Tryz.func108,Tryz.ntmps108
  go_wp2
  go_loopw [1] (fun i wr => ∃ k : Nat,k ≤ l.length ∧ i = .int .i64 (k : Int) ∧ Ac (Bq l n = Bq l k) ∧ Ac (Below w0.heap.size w0 wr)) (fun i _ => (intOf i).toNat)
  case atStart => exact ⟨n,hn,rfl,⟨rfl⟩,HB⟩
  case round =>
    obtain ⟨k,hk,rfl,HK,HW⟩:=hrel
    rcases k with _ | k
    · go_wp2
      go_ret
      exact ⟨Cs (by rw [HK.out,OJ];rfl),HW.out⟩
    · have F:=AA HL.out (k:=k) (by omega)
      obtain ⟨ad,rfl,QR⟩:=Ce HR.out k (by omega)
      have QW:=QR.up HW.out
      obtain ⟨g0,g1,g2,g3,g4,g5,g6,g7⟩:=QW
      have hle:=F.prev_le
      have hle2:=F.next_le
      rw [F.prev] at g6
      rw [F.next] at g7
      clear F QR
      rcases BO (rc l k).kind 1 with ⟨e1,b1,c1⟩ | ⟨e1,b1,c1⟩
      · go_wp2
        go_ret
        exact ⟨Cs (by rw [HK.out,H8 (.inl e1.out) hle]),Dh HW.out _⟩
      · rcases BO (rc l k).kind 2 with ⟨e2,b2,c2⟩ | ⟨e2,b2,c2⟩
        · go_wp2
          go_ret
          exact ⟨Cs (by rw [HK.out,H8 (.inr e2.out) hle]),Dh HW.out _⟩
        · rcases BO (rc l k).kind 6 with ⟨e3,b3,c3⟩ | ⟨e3,b3,c3⟩
          · go_wp2
            go_roundw
            case rel => exact ⟨EB l (k + 1),by omega,rfl,⟨by rw [HK.out,KU e3.out hle2]⟩,⟨Dh HW.out _⟩⟩
            case measure => simp [intOf];omega
          · go_wp2
            go_roundw
            case rel => exact ⟨BH l (k + 1),by omega,rfl,⟨by rw [HK.out,KV e1.out e2.out e3.out hle]⟩,⟨Dh HW.out _⟩⟩
            case measure => simp [intOf];omega
def ints (l : List Nat) : List Int:=l.map fun n : Nat => (n : Int)
theorem P5 (l : List Nat) (n : Nat) : ints l ++ [(n : Int)] = ints (l ++ [n]):=by simp [ints]
theorem GV {l : List Rec} (n : Nat) : (BA l n).length ≤ n:=by
  induction n using Nat.strongRecOn with
  | _ n ih =>
    match n with
    | 0 => rw [Cm];simp
    | n + 1 =>
      rw [BA]
      split
      · have:=ih (BH l (n + 1)) (by omega);simp;omega
      · simp
set_option maxHeartbeats 4000000 in
theorem Ho {w0 w : World} {A : Option Addr} {c : Nat} {l : List Rec} (tx : Int) (hb : Below w0.heap.size w0 w) (hr : Kd.C Ca w0 A l.length l) (hl : AP l = true) : Calls Tryz.prog 149 #[.slice A l.length c, .int .i64 tx] w (UK w (ints (BA l (Aj l tx l.length)))):=by
  have HR:=As hr
  have HB:=As hb
  have HL:=As hl
  have hm:=Be hl
  clear hr hb hl
  go_enter Tryz.func149,Tryz.ntmps149
  go_wp2_with (go_at_call 107;refine (IJ tx HB.out HR.out).mono ?_;rintro e w1 ⟨rfl,hb1⟩;have HX:=As hb1;clear hb1)
  go_loopw [5,6] (fun v i wr => ∃ (k : Nat) (pre : List Nat),k ≤ l.length ∧ i = .int .i64 (k : Int) ∧ Ac (AV wr w.heap.size v (ints pre)) ∧ Ac (pre ++ BA l k = BA l (Aj l tx l.length)) ∧ Ac (Below w.heap.size w wr)) (fun _ i _ => (intOf i).toNat)
  case atStart => exact ⟨Aj l tx l.length, [],AY _ _ _,rfl,⟨(AV.nil _ _ : AV _ _ _ [])⟩,⟨rfl⟩,HX⟩
  case round =>
    obtain ⟨k,pre,hk,rfl,HO,HK,HW⟩:=hrel
    have HW0:=As (bj HB.out HW.out)
    rcases k with _ | k
    · go_wp2
      go_ret
      exact ⟨_,rfl,by have:=HK.out;rw [Cm,List.append_nil] at this;rw [← this];exact HO.out,HW.out⟩
    · have F:=AA HL.out (k:=k) (by omega)
      obtain ⟨ad,rfl,QR⟩:=Ce HR.out k (by omega)
      obtain ⟨g0,g1,g2,g3,g4,g5,g6,g7⟩:=QR.up HW0.out
      have hle:=F.prev_le
      have HC:=As (DU F.prev_le)
      have hpl : (ints pre).length ≤ 150:=by
        have:=congrArg List.length HK.out
        rw [List.length_append] at this
        have h2:=GV (l:=l) (Aj l tx l.length)
        have h3:=AY l tx l.length
        simp only [ints,List.length_map]
        omega
      have HPL:=As hpl
      have HPR:=As F.prev
      have HQR:=As QR
      clear F QR hpl g0 g1 g2 g3 g4 g5 g6 g7
      go_wp2_with (at_builtin;(refine Di w.heap.size rfl (.tmp 18) (.tmp 20) 33 3 .i64 8 rfl Dy EL (by omega) _ (ints pre) ((k : Int) + 1) rfl rfl HO.out HW.out HW.out.size (by have:=HPL.out;omega) ?_;intro v1 w1 hown1 hb1 _ _;have HO1:=As hown1;have HW1:=As hb1;obtain ⟨y0,y1,y2,y3,y4,y5,y6,y7⟩:=HQR.out.up (bj HB.out hb1);rw [HPR.out] at y6;clear hown1 hb1))
      go_roundw
      case rel => exact ⟨BH l (k + 1),pre ++ [k + 1],by omega,rfl,⟨by have:=HO1.out;rwa [show ((k : Int) + 1) = ((k + 1 : Nat) : Int) from rfl,P5] at this⟩,⟨by rw [← HK.out,HC.out];simp⟩,HW1⟩
      case measure => simp [intOf];omega
theorem KS {l : List Rec} (n : Nat) : (CU l n).length ≤ n:=by
  induction n using Nat.strongRecOn with
  | _ n ih =>
    match n with
    | 0 => rw [D5];simp
    | n + 1 =>
      rw [CU]
      split
      · split
        · have:=ih (BH l (n + 1)) (by omega);simp;omega
        · simp
      · split
        · split
          · have:=ih (EB l (n + 1)) (by omega);omega
          · simp
        · split
          · have:=ih (BH l (n + 1)) (by omega);omega
          · simp
set_option maxHeartbeats 4000000 in
theorem Kl {w0 w : World} {A : Option Addr} {c : Nat} {l : List Rec} (hb : Below w0.heap.size w0 w) (hr : Kd.C Ca w0 A l.length l) (hl : AP l = true) : Calls Tryz.prog 95 #[.slice A l.length c] w fun e w' => e = .returned (.int .i64 (need l)) ∧ Below w0.heap.size w0 w':=by
  have HR:=As hr
  have HB:=As hb
  have HL:=As hl
  have hm:=Be hl
  clear hr hb hl
  go_enter Tryz.func95,Tryz.ntmps95
  go_wp2
  go_loopw [3,4] (fun n i wr => ∃ (j a : Nat),j ≤ 3 ∧ i = .int .i64 (4 - j : Int) ∧ n = .int .i64 (a : Int) ∧ a ≤ 200 * (3 - j) ∧ Ac (a + Ic l j = need l) ∧ Ac (Below w0.heap.size w0 wr)) (fun _ i _ => (4 - intOf i).toNat)
  case atStart => exact ⟨3,0,by omega,rfl,rfl,by omega,⟨by simp [need]⟩,HB⟩
  case round =>
    obtain ⟨j,a,hj,rfl,rfl,ha,HK,HW⟩:=hrel
    rcases j with _ | j
    · go_wp2
      go_ret
      exact ⟨Cs (by rw [← HK.out];simp [Ic]),HW.out⟩
    · have hw : (4 - ((j + 1 : Nat) : Int)) = 3 - (j : Int):=by omega
      rw [hw]
      have h1 : (3 - (j : Int)) ≤ 3:=by omega
      have h2 : 1 ≤ (3 - (j : Int)):=by omega
      obtain ⟨n0,hn0⟩ : ∃ n0,Aj l (3 - (j : Int)) l.length = n0:=⟨_,rfl⟩
      have hle:=AY l (3 - (j : Int)) l.length
      rw [hn0] at hle
      have hlen:=KS (l:=l) n0
      have HN:=As hn0
      clear hw hn0
      rcases n0 with _ | n0
      all_goals
        go_wp2_with (first | (go_at_call 115;refine (Du HN.out HW.out HR.out).mono ?_;rintro e w' ⟨rfl,rfl⟩) | (go_at_call 161;refine (FV (by omega) HW.out HR.out HL.out).mono ?_;rintro e w1 ⟨rfl,hb1⟩;have HX:=As hb1;clear hb1))
      · skip
        go_loopw [3,5] (fun n i wr => ∃ (k b : Nat),k ≤ l.length ∧ i = .int .i64 (Bq l k : Int) ∧ n = .int .i64 (b : Int) ∧ b ≤ 350 + 200 * (2 - j) ∧ Ac (b + (CU l k).length = a + (CU l (0)).length) ∧ Ac (Below w0.heap.size w0 wr)) (fun _ i _ => (intOf i).toNat)
        case atStart => exact ⟨0,a,by omega,rfl,by go_num,by omega,⟨rfl⟩,HX⟩
        case round =>
          obtain ⟨k,b,hk,rfl,rfl,hb,HQ,HY⟩:=hrel
          obtain ⟨m,hm'⟩ : ∃ m,Bq l k = m:=⟨_,rfl⟩
          rw [hm']
          rcases m with _ | m
          · have HZ:=As (Gf hm')
            clear hm'
            go_wp2
            go_roundw
            case rel => exact ⟨j,b,by omega,by go_num,rfl,by have:=HQ.out;rw [HZ.out] at this;simp at this;omega,⟨by rw [← HK.out,Ic,HN.out];have:=HQ.out;rw [HZ.out] at this;simp at this ⊢;omega⟩,HY⟩
            case measure => simp [intOf];omega
          · obtain ⟨h3,h4,h5,h6⟩:=LX HL.out hk hm'
            have F:=AA HL.out h4
            obtain ⟨ad,rfl,QR⟩:=Ce HR.out m h4
            obtain ⟨g0,g1,g2,g3,g4,g5,g6,g7⟩:=QR.up HY.out
            have HS:=As h3
            have hpl:=GA (l:=l) (n:=BH l (m + 1))
            have hbl : b + 1 ≤ 350 + 200 * (2 - j):=by have:=HQ.out;rw [h3] at this;simp at this;omega
            rw [F.prev] at g6
            clear h3 h6 F QR hm'
            go_wp2_with (go_at_call 161;refine (FV (by omega) HY.out HR.out HL.out).mono ?_;rintro e w2 ⟨rfl,hb2⟩;have HX2:=As hb2;clear hb2)
            go_roundw
            case rel => exact ⟨BH l (m + 1),b + 1,by omega,rfl,by go_num,hbl,⟨by rw [← HQ.out,HS.out];simp;omega⟩,HX2⟩
            case measure => simp [intOf];omega
      · skip
        go_loopw [3,5] (fun n i wr => ∃ (k b : Nat),k ≤ l.length ∧ i = .int .i64 (Bq l k : Int) ∧ n = .int .i64 (b : Int) ∧ b ≤ 350 + 200 * (2 - j) ∧ Ac (b + (CU l k).length = a + 1 + (CU l (n0 + 1)).length) ∧ Ac (Below w0.heap.size w0 wr)) (fun _ i _ => (intOf i).toNat)
        case atStart => exact ⟨n0 + 1,a + 1,by omega,rfl,by go_num,by omega,⟨rfl⟩,HX⟩
        case round =>
          obtain ⟨k,b,hk,rfl,rfl,hb,HQ,HY⟩:=hrel
          obtain ⟨m,hm'⟩ : ∃ m,Bq l k = m:=⟨_,rfl⟩
          rw [hm']
          rcases m with _ | m
          · have HZ:=As (Gf hm')
            clear hm'
            go_wp2
            go_roundw
            case rel => exact ⟨j,b,by omega,by go_num,rfl,by have:=HQ.out;rw [HZ.out] at this;simp at this;omega,⟨by rw [← HK.out,Ic,HN.out];have:=HQ.out;rw [HZ.out] at this;simp at this ⊢;omega⟩,HY⟩
            case measure => simp [intOf];omega
          · obtain ⟨h3,h4,h5,h6⟩:=LX HL.out hk hm'
            have F:=AA HL.out h4
            obtain ⟨ad,rfl,QR⟩:=Ce HR.out m h4
            obtain ⟨g0,g1,g2,g3,g4,g5,g6,g7⟩:=QR.up HY.out
            have HS:=As h3
            have hpl:=GA (l:=l) (n:=BH l (m + 1))
            have hbl : b + 1 ≤ 350 + 200 * (2 - j):=by have:=HQ.out;rw [h3] at this;simp at this;omega
            rw [F.prev] at g6
            clear h3 h6 F QR hm'
            go_wp2_with (go_at_call 161;refine (FV (by omega) HY.out HR.out HL.out).mono ?_;rintro e w2 ⟨rfl,hb2⟩;have HX2:=As hb2;clear hb2)
            go_roundw
            case rel => exact ⟨BH l (m + 1),b + 1,by omega,rfl,by go_num,hbl,⟨by rw [← HQ.out,HS.out];simp;omega⟩,HX2⟩
            case measure => simp [intOf];omega
set_option maxHeartbeats 4000000 in
theorem Mw {w0 w : World} {A : Option Addr} {c : Nat} {l : List Rec} (tx : Int) (hb : Below w0.heap.size w0 w) (hr : Kd.C Ca w0 A l.length l) (hl : AP l = true) : Calls Tryz.prog 174 #[.slice A l.length c, .int .i64 tx] w (UK w (ints (CU l (Aj l tx l.length)))):=by
  have HR:=As hr
  have HB:=As hb
  have HL:=As hl
  have hm:=Be hl
  have hnl:=AY l tx l.length
  clear hr hb hl
  go_enter Tryz.func174,Tryz.ntmps174
  go_wp2_with (first | (go_at_call 107;refine (IJ tx HB.out HR.out).mono ?_;rintro e w1 ⟨rfl,hb1⟩;have HX:=As hb1;clear hb1) | (go_at_call 108;refine (IA hnl (Below.refl _ _) (Bu HR.out (bj HB.out HX.out)) HL.out).mono ?_;rintro e w2 ⟨rfl,hb2⟩;have HX2:=As (bj HX.out hb2);clear hb2))
  go_loopw [5,6] (fun v i wr => ∃ (k : Nat) (pre : List Nat),k ≤ l.length ∧ i = .int .i64 (Bq l k : Int) ∧ Ac (AV wr w.heap.size v (ints pre)) ∧ Ac (pre ++ CU l k = CU l (Aj l tx l.length)) ∧ Ac (Below w.heap.size w wr)) (fun _ i _ => (intOf i).toNat)
  case atStart => exact ⟨Aj l tx l.length, [],AY _ _ _,rfl,⟨(AV.nil _ _ : AV _ _ _ [])⟩,⟨rfl⟩,HX2⟩
  case round =>
    obtain ⟨k,pre,hk,rfl,HO,HK,HW⟩:=hrel
    have HW0:=As (bj HB.out HW.out)
    obtain ⟨m,hm'⟩ : ∃ m,Bq l k = m:=⟨_,rfl⟩
    rw [hm']
    rcases m with _ | m
    · have HZ:=As (Gf hm')
      clear hm'
      go_wp2
      go_ret
      exact ⟨_,rfl,by have:=HK.out;rw [HZ.out,List.append_nil] at this;rw [← this];exact HO.out,HW.out⟩
    · obtain ⟨h3,h4,h5,h6⟩:=LX HL.out hk hm'
      have F:=AA HL.out h4
      obtain ⟨ad,rfl,QR⟩:=Ce HR.out m h4
      have HS:=As h3
      have hpl : (ints pre).length ≤ 150:=by
        have:=congrArg List.length HK.out
        rw [List.length_append] at this
        have h2:=KS (l:=l) (Aj l tx l.length)
        simp only [ints,List.length_map]
        omega
      have HPL:=As hpl
      have HPR:=As F.prev
      have HQR:=As QR
      have hpl2:=GA (l:=l) (n:=BH l (m + 1))
      clear h3 h6 F QR hm' hpl
      go_wp2_with (first | (at_builtin;(refine Di w.heap.size rfl (.tmp 22) (.tmp 24) 33 3 .i64 8 rfl Dy EL (by omega) _ (ints pre) ((m : Int) + 1) rfl rfl HO.out HW.out HW.out.size (by have:=HPL.out;omega) ?_;intro v1 w1 hown1 hb1 _ _;have HO1:=As hown1;have HW1:=As hb1;obtain ⟨y0,y1,y2,y3,y4,y5,y6,y7⟩:=HQR.out.up (bj HB.out hb1);rw [HPR.out] at y6;clear hown1 hb1)) | (go_at_call 108;refine (IA (n:=BH l (m + 1)) (by omega) (Below.refl _ _) (Bu HR.out (bj HB.out HW1.out)) HL.out).mono ?_;rintro e w2 ⟨rfl,hb2⟩;have HX3:=As (bj HW1.out hb2);have HO3:=As (AV.below HO1.out hb2);clear hb2))
      go_roundw
      case rel => exact ⟨BH l (m + 1),pre ++ [m + 1],by omega,rfl,⟨by have:=HO3.out;rwa [show ((m : Int) + 1) = ((m + 1 : Nat) : Int) from rfl,P5] at this⟩,⟨by rw [← HK.out,HS.out];simp⟩,HX3⟩
      case measure => simp [intOf];omega
/-- The open ones among the last j transactions. -/
def Cf (l : List Rec) : Nat → List Int
  | 0 => []
  | j + 1 => (if Aj l (3 - j : Int) l.length = 0 then [] else [3 - (j : Int)]) ++ Cf l j
set_option maxHeartbeats 4000000 in
theorem FN {w0 w : World} {A : Option Addr} {c : Nat} {l : List Rec} (hb : Below w0.heap.size w0 w) (hr : Kd.C Ca w0 A l.length l) : Calls Tryz.prog 47 #[.slice A l.length c] w (UK w (Cf l 3)):=by
  have HR:=As hr
  have HB:=As hb
  clear hr hb
  go_enter Tryz.func47,Tryz.ntmps47
  go_wp2
  go_loopw [3,4] (fun v i wr => ∃ (j : Nat) (pre : List Int),j ≤ 3 ∧ i = .int .i64 (4 - j : Int) ∧ Ac (pre.length ≤ 3 - j) ∧ Ac (AV wr w.heap.size v pre) ∧ Ac (pre ++ Cf l j = Cf l 3) ∧ Ac (Below w.heap.size w wr)) (fun _ i _ => (4 - intOf i).toNat)
  case atStart => exact ⟨3, [],by omega,rfl,⟨by simp⟩,⟨(AV.nil _ _ : AV _ _ _ [])⟩,⟨rfl⟩,⟨Below.refl _ _⟩⟩
  case round =>
    obtain ⟨j,pre,hj,rfl,HP,HO,HK,HW⟩:=hrel
    rcases j with _ | j
    · go_wp2
      go_ret
      exact ⟨_,rfl,by have:=HK.out;rw [Cf,List.append_nil] at this;rw [← this];exact HO.out,HW.out⟩
    · have hw : (4 - ((j + 1 : Nat) : Int)) = 3 - (j : Int):=by omega
      rw [hw]
      have h1 : (3 - (j : Int)) ≤ 3:=by omega
      have h2 : 1 ≤ (3 - (j : Int)):=by omega
      obtain ⟨n0,hn0⟩ : ∃ n0,Aj l (3 - (j : Int)) l.length = n0:=⟨_,rfl⟩
      have hnb:=AY l (3 - (j : Int)) l.length
      have hm:=(CJ HR.out).2
      rw [hn0] at hnb
      have HN:=As hn0
      clear hw hn0
      rcases n0 with _ | n0
      · go_wp2_with (go_at_call 107;refine (Gn HN.out (bj HB.out HW.out) HR.out).mono ?_;rintro e w1 ⟨rfl,hb1⟩;have HX:=As (bj HW.out hb1);have HO1:=As (AV.below HO.out hb1);clear hb1)
        go_roundw
        case rel => exact ⟨j,pre,by omega,by go_num,⟨by have:=HP.out;omega⟩,HO1,⟨by rw [← HK.out,Cf,HN.out,if_pos rfl,List.nil_append]⟩,HX⟩
        case measure => simp [intOf];omega
      · go_wp2_with (first | (go_at_call 107;refine (Gn HN.out (bj HB.out HW.out) HR.out).mono ?_;rintro e w1 ⟨rfl,hb1⟩;have HX:=As (bj HW.out hb1);have HO1:=As (AV.below HO.out hb1);clear hb1) | (at_builtin;(refine Di w.heap.size rfl (.tmp 13) (.tmp 15) 33 3 .i64 8 rfl Dy EL (by omega) _ pre (3 - (j : Int)) rfl rfl HO1.out HX.out HX.out.size (by have:=HP.out;omega) ?_;intro v1 w2 hown1 hb1 _ _;have HO2:=As hown1;have HW2:=As hb1;clear hown1 hb1)))
        go_roundw
        case rel => exact ⟨j,pre ++ [3 - (j : Int)],by omega,by go_num,⟨by have:=HP.out;simp;omega⟩,HO2,⟨by rw [← HK.out,Cf,HN.out,if_neg (by omega)];simp⟩,HW2⟩
        case measure => simp [intOf];omega
def MU (l : List Rec) (txs : List Int) : Nat:=(txs.map fun tx => (CU l (Aj l tx l.length)).length + 1).sum
theorem Mi (l : List Rec) : ∀ j,MU l (Cf l j) = Ic l j
  | 0 => rfl
  | j + 1 => by
    have ih:=Mi l j
    unfold Cf Ic
    split
    · rename_i h
      rw [h,D5]
      simp
      exact ih
    · simp only [MU,List.cons_append,List.nil_append,List.map_cons,List.sum_cons]
      have h2 : ((Cf l j).map fun tx => (CU l (Aj l tx l.length)).length + 1).sum = Ic l j:=ih
      omega
theorem VJ {l : List Rec} (hl : l.length ≤ 150) (txs : List Int) : MU l txs ≤ 151 * txs.length:=by
  induction txs with
  | nil => simp [MU]
  | cons t ts ih =>
    simp only [MU,List.map_cons,List.sum_cons,List.length_cons] at ih ⊢
    have h1:=KS (l:=l) (Aj l t l.length)
    have h2:=AY l t l.length
    omega
theorem I9 (l : List Rec) : ∀ j,(Cf l j).length ≤ j
  | 0 => by simp [Cf]
  | j + 1 => by
    have:=I9 l j
    unfold Cf
    split <;> simp <;> omega
set_option maxHeartbeats 4000000 in
theorem Sr {w0 w : World} {A : Option Addr} {c : Nat} {l : List Rec} (hb : Below w0.heap.size w0 w) (hr : Kd.C Ca w0 A l.length l) (hl : AP l = true) : Calls Tryz.prog 134 #[.slice A l.length c] w fun e w' => e = .returned (.int .i64 (need l)) ∧ Below w.heap.size w w':=by
  have HR:=As hr
  have HB:=As hb
  have HL:=As hl
  have hm:=Be hl
  have hol:=I9 l 3
  obtain ⟨xs,hxs⟩ : ∃ xs,Cf l 3 = xs:=⟨_,rfl⟩
  rw [hxs] at hol
  have HXS:=As hxs
  clear hr hb hl hxs
  go_enter Tryz.func134,Tryz.ntmps134
  go_wp2_with (go_at_call 47;refine (FN HB.out HR.out).mono ?_;rintro e w1 ⟨v,rfl,ho,hb1⟩;rw [HXS.out] at ho;obtain ⟨A1,c1,rfl, -,hC⟩:=ho.reads;have HX:=As hb1;have HC:=As hC;clear ho hb1 hC)
  go_loopw [3,9] (fun a i wr => ∃ (k b : Nat),k ≤ xs.length ∧ i = .int .i64 (k : Int) ∧ a = .int .i64 (b : Int) ∧ b ≤ 151 * k ∧ Ac (b + MU l (xs.drop k) = need l) ∧ Ac (Below w1.heap.size w1 wr)) (fun _ i _ => (xs.length - intOf i).toNat)
  case atStart => exact ⟨0,0,by omega,rfl,rfl,by omega,⟨by rw [List.drop_zero,Nat.zero_add, ← HXS.out];exact Mi l 3⟩,⟨Below.refl _ _⟩⟩
  case round =>
    obtain ⟨k,b,hk,rfl,rfl,hbk,HK,HW⟩:=hrel
    have HW0:=As (bj HX.out HW.out)
    have HW1:=As (bj HB.out HW0.out)
    by_cases hlt : k < xs.length
    · obtain ⟨ad,rfl,g0⟩:=Dg HC.out k hlt
      replace g0:=bc HW.out g0
      have hu:=KS (l:=l) (Aj l (iv xs k) l.length)
      have hu2:=AY l (iv xs k) l.length
      have HD:=As (JS hlt)
      go_wp2_with (go_at_call 174;refine (Mw (iv xs k) HW1.out HR.out HL.out).mono ?_;rintro e w2 ⟨v,rfl,ho,hb2⟩;obtain ⟨A2,c2,rfl, -, -⟩:=ho.reads;have HX2:=As (bj HW.out hb2);clear ho hb2;simp only [ints,List.length_map])
      go_roundw
      case rel => exact ⟨k + 1,b + ((CU l (Aj l (iv xs k) l.length)).length + 1),by omega,by go_num,by go_num,by omega,⟨by rw [← HK.out,HD.out];simp [MU];omega⟩,HX2⟩
      case measure => simp [intOf];omega
    · have hke : k = xs.length:=by omega
      go_wp2
      go_ret
      exact ⟨Cs (by rw [← HK.out,hke,List.drop_length];simp [MU]),HW0.out⟩
/-- Is there room for what undoes a log? -/
def Im (l : List Rec) : Bool:=decide (l.length + need l ≤ 150)
theorem Lf {l : List Rec} (hl : l.length ≤ 150) : need l ≤ 453:=by
  have h1:=VJ hl (Cf l 3)
  have h2:=I9 l 3
  have h3:=Mi l 3
  rw [need, ← h3]
  omega
theorem DX {w0 w : World} {A : Option Addr} {c : Nat} {l : List Rec} (hb : Below w0.heap.size w0 w) (hr : Kd.C Ca w0 A l.length l) (hl : AP l = true) : Calls Tryz.prog 78 #[.slice A l.length c] w fun e w' => e = .returned (.bool (Im l)) ∧ Below w.heap.size w w':=by
  have HR:=As hr
  have HB:=As hb
  have HL:=As hl
  have hm:=Be hl
  have hn:=Lf hm
  clear hr hb hl
  go_enter Tryz.func78,Tryz.ntmps78
  go_wp2_with (go_at_call 134;refine (Sr HB.out HR.out HL.out).mono ?_;rintro e w1 ⟨rfl,hb1⟩)
  go_ret
  exact ⟨AB (by rw [Im];exact decide_eq_decide.mpr (by omega)),hb1⟩
/-- Do pages stay valid while these records are undone? -/
def F3 (l : List Rec) : List Page → List Nat → Bool
  | _, [] => true
  | ps,m :: ms => Bt (AZ (pg ps (rc l (m - 1)).page.toNat) (Bj (rc l (m - 1)) 0)) && F3 l (ps.set (rc l (m - 1)).page.toNat (AZ (pg ps (rc l (m - 1)).page.toNat) (Bj (rc l (m - 1)) 0))) ms
/-- All that is to be undone, of the transactions named. -/
def Kv (l : List Rec) (txs : List Int) : List Nat:=txs.flatMap fun tx => CU l (Aj l tx l.length)
def Iw (l : List Rec) (ps : List Page) : Bool:=F3 l ps (Kv l (Cf l 3))
theorem SV {l : List Rec} (hl : AP l = true) (n : Nat) : n ≤ l.length → ∀ m ∈ CU l n,0 < m ∧ m ≤ l.length ∧ ((rc l (m - 1)).kind = 1 ∨ (rc l (m - 1)).kind = 2):=by
  induction n using Nat.strongRecOn with
  | _ n ih =>
    intro hn m hm
    cases e : CU l n with
    | nil => rw [e] at hm;cases hm
    | cons a t =>
      obtain ⟨h1,h2,h3,h4⟩:=FI n a t e
      have F:=AA hl (k:=a - 1) (by omega)
      have h5:=F.prev_le
      rw [show a - 1 + 1 = a by omega] at h5
      rw [e] at hm
      rcases List.mem_cons.1 hm with rfl | hm
      · exact ⟨h1,by omega,h3⟩
      · rw [(h4 (by omega)).1] at hm
        exact ih _ (by omega) (by omega) m hm
/-- What a record that is to be undone looks like. -/
theorem H7 {l : List Rec} (hl : AP l = true) {m : Nat} (h0 : 0 < m) (hm : m ≤ l.length) (hk : (rc l (m - 1)).kind = 1 ∨ (rc l (m - 1)).kind = 2) : CS (rc l (m - 1)) = true ∧ 0 ≤ (rc l (m - 1)).page ∧ (rc l (m - 1)).page < 5 ∧ (rc l (m - 1)).slot < 3:=by
  have h:=(AA hl (k:=m - 1) (by omega)).ok
  refine ⟨h,?_⟩
  rw [D7] at h
  omega
theorem Uq {w : World} {b b' g n cap : Nat} {v : Value} {xs : List Int} {ps : List Page} (h : AV w b v xs) (hp : Kr w b' (.slice (some ⟨g,0,none⟩) n cap) ps) : v.ownBlock = none ∨ v.ownBlock ≠ some g:=by
  refine .inr fun e => ?_
  obtain ⟨cells,hc1⟩:=Dr h g e
  obtain ⟨inner,ho2⟩:=Kd.Kq hp
  obtain ⟨cells2,hc2⟩:=Dr ho2 g rfl
  rw [hc1] at hc2
  injection hc2 with h1
  injection h1 with _ h2
  exact absurd h2 (by decide)
theorem Lc {w w1 : World} {b b' g n cap : Nat} {v : Value} {xs : List Int} {ps : List Page} (h : AV w b v xs) (hp : Kr w b' (.slice (some ⟨g,0,none⟩) n cap) ps) (hg : w.grownBy w1 (some g)) : AV w1 b v xs:=OP h hg (Uq h hp)
theorem OQ {w : World} {b n c : Nat} {A : Option Addr} {xs : List Int} (h : AV w b (.slice A n c) xs) : Kd.C (Kd.int .i64) w A xs.length xs:=by
  obtain ⟨A1,c1,e,_,hC⟩:=h.reads
  injection e with e1
  subst e1
  exact hC
set_option maxHeartbeats 2000000 in
theorem PD (r : Rec) (n : Int) (w : World) : Calls Tryz.prog 162 #[r.val, .int .i64 n] w fun e w' => e = .returned (Bj r n).val ∧ Below w.heap.size w w':=by
  go_enter Tryz.func162,Tryz.ntmps162
  go_wp2
  exact bodyPost_ret (v:=(Bj r n).val) (by simp [results,Tryz.results162,go_sem,Bj]) rfl ⟨rfl,by go_grown⟩
theorem Qh {P : Program} {c : Code} {Q : Exit → Act → World → Prop} {a : Act} {w : World} (r : Rec) (h : ∀ w1,Below w.heap.size w w1 → w1.heap.size = w.heap.size + 1 → FZ w1 ⟨w.heap.size,0,none⟩ r → c.wp P Q a w1) : c.wp P Q a (w.alloc (.cells #[.int .i64 r.kind, .int .i64 r.tx, .int .i64 r.page, .int .i64 r.slot, .int .i64 r.old, .int .i64 r.new, .int .i64 r.prev, .int .i64 r.next] 98)):=
  h _ ((Below.refl _ _).alloc (Nat.le_refl _) _) (BF _ _) (Gh w r)
theorem Lp {ms : List Nat} {j : Nat} (h : j < ms.length) : iv (ints ms) j = (ms[j] : Int):=by
  simp [iv,ints,List.getD_eq_getElem?_getD,h]
set_option maxRecDepth 100000 in
set_option maxHeartbeats 4000000 in
theorem Pf {w0 w : World} {B : Option Addr} {d g cap : Nat} {ps : List Page} {l : List Rec} {b : Bool} (hv : Iw l ps = b) (hg : geo ps) (hl : AP l = true) (hO : Kr w w0.heap.size (.slice (some ⟨g,0,none⟩) 5 cap) ps) (hb : Below w0.heap.size w0 w) (hr2 : Kd.C Ca w0 B l.length l) : Calls Tryz.prog 135 #[.slice (some ⟨g,0,none⟩) 5 cap, .slice B l.length d] w fun e w' => e = .returned (.bool b) ∧ Below w0.heap.size w0 w':=by
  have HR2:=As hr2
  have HB0:=As hb
  have HG:=As hg
  have HL:=As hl
  have HO0:=As hO
  have HVV:=As hv
  have hm:=Be hl
  have hgb : w0.heap.size ≤ g:=by
    obtain ⟨inner,ho⟩:=Kd.Kq hO
    exact Cq ho g rfl
  obtain ⟨xs,hxs⟩ : ∃ xs,Cf l 3 = xs:=⟨_,rfl⟩
  have hol:=I9 l 3
  rw [hxs] at hol
  have HXS:=As hxs
  clear hr2 hb hl hg hO hv hxs
  go_enter Tryz.func135,Tryz.ntmps135
  go_wp2_with (go_at_call 47;refine (FN HB0.out HR2.out).mono ?_;rintro e w1 ⟨v,rfl,ho,hb1⟩;rw [HXS.out] at ho;obtain ⟨A1,c1,rfl, -, -⟩:=ho.reads;have HXO:=As (ho.lower HB0.out.size);have HB1:=As (bj HB0.out hb1);have HO1:=As (Kd.CG HO0.out hb1);clear ho hb1)
  go_loopw [14] (fun i wr => ∃ (k : Nat) (psk : List Page),k ≤ xs.length ∧ i = .int .i64 (k : Int) ∧ Ac (geo psk) ∧ Ac (Kr wr w0.heap.size (.slice (some ⟨g,0,none⟩) 5 cap) psk) ∧ Ac (Iw l ps = F3 l psk (Kv l (xs.drop k))) ∧ Ac (AV wr w0.heap.size (.slice A1 xs.length c1) xs) ∧ Ac (Below w0.heap.size w0 wr)) (fun i _ => (xs.length - intOf i).toNat)
  case atStart => exact ⟨0,ps,by omega,rfl,HG,HO1,⟨by rw [List.drop_zero, ← HXS.out];rfl⟩,HXO,HB1⟩
  case round =>
    obtain ⟨k,psk,hk,rfl,HGp,HOp,HT,HXp,HW⟩:=hrel
    by_cases hlt : k < xs.length
    · obtain ⟨ad,rfl,g0⟩:=Dg (OQ HXp.out) k hlt
      have HD:=As (JS hlt)
      obtain ⟨ms,hms⟩ : ∃ ms,CU l (Aj l (iv xs k) l.length) = ms:=⟨_,rfl⟩
      have hml:=KS (l:=l) (Aj l (iv xs k) l.length)
      have hll:=AY l (iv xs k) l.length
      rw [hms] at hml
      have HMM:=As (SV HL.out _ hll)
      rw [hms] at HMM
      have HMN:=As hms
      clear hms
      go_wp2_with (go_at_call 174;refine (Mw (iv xs k) HW.out HR2.out HL.out).mono ?_;rintro e w2 ⟨v,rfl,ho,hb2⟩;rw [HMN.out] at ho;obtain ⟨A2,c2,rfl, -, -⟩:=ho.reads;have HMO:=As (ho.lower HW.out.size);have HB2:=As (bj HW.out hb2);have HO2:=As (Kd.CG HOp.out hb2);have HX2:=As (HXp.out.below hb2);clear ho hb2;simp only [ints,List.length_map])
      go_loopw [22] (fun i wi => ∃ (j : Nat) (cur : List Page),j ≤ ms.length ∧ i = .int .i64 (j : Int) ∧ Ac (geo cur) ∧ Ac (Kr wi w0.heap.size (.slice (some ⟨g,0,none⟩) 5 cap) cur) ∧ Ac (Iw l ps = F3 l cur (ms.drop j ++ Kv l (xs.drop (k + 1)))) ∧ Ac (AV wi w0.heap.size (.slice (some ad) xs.length c1) xs) ∧ Ac (AV wi w0.heap.size (.slice A2 (ints ms).length c2) (ints ms)) ∧ Ac (Below w0.heap.size w0 wi)) (fun i _ => (ms.length - intOf i).toNat)
      case atStart => exact ⟨0,psk,by omega,rfl,HGp,HO2,⟨by rw [HT.out,HD.out,List.drop_zero,Kv,List.flatMap_cons,HMN.out];rfl⟩,HX2,HMO,HB2⟩
      case round =>
        obtain ⟨j,cur,hj,rfl,HGk,HOi,HU2,HXi,HMi,HWi⟩:=hrel
        by_cases hjt : j < ms.length
        · obtain ⟨ad2,rfl,g1⟩:=Dg (OQ HMi.out) j (by simpa [ints] using hjt)
          rw [Lp hjt] at g1
          obtain ⟨n,hn⟩ : ∃ n,ms[j] = n:=⟨_,rfl⟩
          obtain ⟨hn0,hnl,hnk⟩:=HMM.out n (hn ▸ List.getElem_mem hjt)
          have HMS:=As (show ms.drop j = n :: ms.drop (j + 1) by rw [List.drop_eq_getElem_cons hjt,hn])
          rw [hn] at g1
          obtain ⟨hrok,hp0,hp5,hs3⟩:=H7 HL.out hn0 hnl hnk
          obtain ⟨m,rfl⟩ : ∃ m,n = m + 1:=⟨n - 1,by omega⟩
          obtain ⟨ad3,rfl,QR⟩:=Ce (Bu HR2.out HWi.out) m (by omega)
          obtain ⟨z0,z1,z2,z3,z4,z5,z6,z7⟩:=QR
          rw [show ((m + 1 : Nat) : Int) = (m : Int) + 1 from rfl] at g1
          rw [Nat.add_sub_cancel] at hrok hp0 hp5 hs3
          obtain ⟨rb,hrb⟩ : ∃ rb,Bj (rc l m) 0 = rb:=⟨_,rfl⟩
          have hpg : (rc l m).page = rb.page:=by rw [← hrb];rfl
          have hsl : (rc l m).slot = rb.slot:=by rw [← hrb];rfl
          rw [hpg] at hp0 hp5
          rw [hsl] at hs3
          have hpn : rb.page.toNat < 5:=by omega
          have HP:=As hs3
          have HRB : Ac (Bj (rc l (m + 1 - 1)) 0 = rb):=⟨by rw [Nat.add_sub_cancel];exact hrb⟩
          have HPG : Ac ((rc l (m + 1 - 1)).page.toNat = rb.page.toNat):=⟨by rw [Nat.add_sub_cancel,hpg]⟩
          have hback : ∀ w,Calls Tryz.prog 110 #[(rc l m).val, .int .i64 0] w fun e w' => e = .returned rb.val ∧ Below w.heap.size w w':=fun w => hrb ▸ O1 (rc l m) 0 w
          have HBK:=As hback
          have HT2:=HVV
          have hml2 : m < l.length:=by omega
          clear hrb hpg hsl hs3 hrok hback hn hnk hnl hn0
          go_wp2_with (first | (go_at_call 110;refine (HBK.out _).mono ?_;rintro e wb ⟨rfl,hbb⟩;have HWb:=As (bj HWi.out hbb);have HOb:=As (Kd.CG HOi.out hbb);have HXb:=As (HXi.out.below hbb);have HMb:=As (HMi.out.below hbb);clear hbb))
          refine Qh rb (fun w3 hb2 hz2 hq2 => ?_)
          have HW3:=As (bj HWb.out hb2)
          have HO3:=As (Kd.CG HOb.out hb2)
          have HXS3:=As (HXb.out.below hb2)
          have HMS3:=As (HMb.out.below hb2)
          have HQ3:=As hq2
          obtain ⟨x0,x1,x2,x3,x4,x5,x6,x7⟩:=hq2
          simp only [Nat.zero_add] at x1 x2 x3 x4 x5 x6 x7
          obtain ⟨A3,c3,p0,p1,p2,pC, -⟩:=WW HO3.out rb.page.toNat hpn
          have HPC:=As pC
          clear hb2 pC
          obtain ⟨q,hq⟩ : ∃ q,AZ (pg cur rb.page.toNat) rb = q:=⟨_,rfl⟩
          have HQ:=As hq
          have hg3:=EW HGk.out hpn
          have HG3:=As hg3
          have hgw : g < w3.heap.size:=XR HO3.out g rfl
          have hcall : ∀ wx,Below w3.heap.size w3 wx → Calls Tryz.prog 106 #[(pg cur rb.page.toNat).val A3 c3,rb.val] wx (Ox wx q):=fun wx hb => HQ.out ▸ Ku rb (by rw [HG3.out];decide) (by rw [HG3.out];have:=HP.out;omega) hb HPC.out
          clear hq hg3
          refine AX (fun lx a wx => (Below w0.heap.size w0 wx ∧ Below w3.heap.size w3 wx) ∧ (Sl 6 38 (fun v wx => ∃ u,v = q.own u ∧ AV wx w3.heap.size u q.vals) lx a wx ∧ Sl 7 10 (fun v wx => ∃ B,v = .pointer (some ⟨B,0,none⟩) ∧ w3.heap.size ≤ B ∧ AR wx B zp (.slice none 0 0)) lx a wx)) 8 rfl (by kernel_rfl) (⟨⟨Ak HW3.out,Ak (Below.refl _ _)⟩,Bc,Bc⟩) (fun HT => ?_)
          refine Ae (i:=0) (v:=?_) HT rfl (by kernel_rfl) rfl (kA Aa (kA (Ab rfl rfl) (Ab rfl rfl))) (by rfl) (fun _ _ _ h => h) (fun lx ax wx hS => ?_) ?_;rotate_left;(obtain ⟨⟨-,hbx⟩, -⟩:=hS;obtain ⟨x0,x1,x2,x3,x4,x5,x6,x7⟩:=HQ3.out.up hbx;simp only [Nat.zero_add] at x1 x2 x3 x4 x5 x6 x7;replace p0:=bc hbx p0;replace p1:=bc hbx p1;replace p2:=bc hbx p2;go_simp;with_reducible rfl);rotate_left;simp only [sc0,sc1]
          refine Ae (i:=1) (v:=?_) HT rfl (by kernel_rfl) rfl (kA Aa (kA (Ab rfl rfl) (Ab rfl rfl))) (by rfl) (fun _ _ _ h => h) (fun lx ax wx hS => ?_) ?_;rotate_left;(obtain ⟨⟨-,hbx⟩, -⟩:=hS;obtain ⟨x0,x1,x2,x3,x4,x5,x6,x7⟩:=HQ3.out.up hbx;simp only [Nat.zero_add] at x1 x2 x3 x4 x5 x6 x7;replace p0:=bc hbx p0;replace p1:=bc hbx p1;replace p2:=bc hbx p2;go_simp;with_reducible rfl);rotate_left;simp only [sc0,sc1]
          refine Ae (i:=2) (v:=?_) HT rfl (by kernel_rfl) rfl (kA Aa (kA (Ab rfl rfl) (Ab rfl rfl))) (by rfl) (fun _ _ _ h => h) (fun lx ax wx hS => ?_) ?_;rotate_left;(obtain ⟨⟨-,hbx⟩, -⟩:=hS;obtain ⟨x0,x1,x2,x3,x4,x5,x6,x7⟩:=HQ3.out.up hbx;simp only [Nat.zero_add] at x1 x2 x3 x4 x5 x6 x7;replace p0:=bc hbx p0;replace p1:=bc hbx p1;replace p2:=bc hbx p2;go_simp;with_reducible rfl);rotate_left;simp only [sc0,sc1]
          refine Ae (i:=3) (v:=?_) HT rfl (by kernel_rfl) rfl (kA Aa (kA (Ab rfl rfl) (Ab rfl rfl))) (by rfl) (fun _ _ _ h => h) (fun lx ax wx hS => ?_) ?_;rotate_left;(obtain ⟨⟨-,hbx⟩, -⟩:=hS;obtain ⟨x0,x1,x2,x3,x4,x5,x6,x7⟩:=HQ3.out.up hbx;simp only [Nat.zero_add] at x1 x2 x3 x4 x5 x6 x7;replace p0:=bc hbx p0;replace p1:=bc hbx p1;replace p2:=bc hbx p2;go_simp;with_reducible rfl);rotate_left;simp only [sc0,sc1]
          refine Ae (i:=4) (v:=?_) HT rfl (by kernel_rfl) rfl (kA Aa (kA (Ab rfl rfl) (Ab rfl rfl))) (by rfl) (fun _ _ _ h => h) (fun lx ax wx hS => ?_) ?_;rotate_left;(obtain ⟨⟨-,hbx⟩, -⟩:=hS;obtain ⟨x0,x1,x2,x3,x4,x5,x6,x7⟩:=HQ3.out.up hbx;simp only [Nat.zero_add] at x1 x2 x3 x4 x5 x6 x7;replace p0:=bc hbx p0;replace p1:=bc hbx p1;replace p2:=bc hbx p2;go_simp;with_reducible rfl);rotate_left;simp only [sc0,sc1]
          refine Ae (i:=5) (v:=?_) HT rfl (by kernel_rfl) rfl (kA Aa (kA (Ab rfl rfl) (Ab rfl rfl))) (by rfl) (fun _ _ _ h => h) (fun lx ax wx hS => ?_) ?_;rotate_left;(obtain ⟨⟨-,hbx⟩, -⟩:=hS;obtain ⟨x0,x1,x2,x3,x4,x5,x6,x7⟩:=HQ3.out.up hbx;simp only [Nat.zero_add] at x1 x2 x3 x4 x5 x6 x7;replace p0:=bc hbx p0;replace p1:=bc hbx p1;replace p2:=bc hbx p2;go_simp;with_reducible rfl);rotate_left;simp only [sc0,sc1]
          refine Ba [6,7] (by kernel_rfl) (fun i hi w4 hS => ?_)
          rcases List.mem_cons.1 hi with rfl | hi
          · refine EZ (f:=106) (args:=#[(pg cur rb.page.toNat).val A3 c3,rb.val]) rfl rfl Tryz.func106 (by kernel_rfl) rfl rfl (by rfl) (by simp only [List.map_toArray,List.map_cons,List.map_nil];rfl) ((hcall w4 hS.1.2).mono ?_)
            rintro e w6 ⟨u,rfl,ho,hb⟩
            refine ⟨_,rfl,⟨⟨bj hS.1.1 hb,bj hS.1.2 hb⟩,fun _ => ⟨u,rfl,ho.lower hS.1.2.size⟩,fun h => ?_⟩,?_⟩
            · exact (AL h (by kernel_rfl)).elim
            simp only [sc0,sc1]
            refine Ba [7] (by kernel_rfl) (fun i hi w5 hS => ?_)
            obtain rfl:=List.mem_singleton.1 hi
            refine BX (w1:=?_) (.pointer (some ⟨w5.heap.size,0,none⟩)) rfl rfl (by rfl) ?_ ?_
            rotate_left
            · go_simp
              with_reducible rfl
            refine ⟨⟨⟨Ah hS.1.1 _,Ah hS.1.2 _⟩,fun h => ?_,fun _ => ⟨w5.heap.size,rfl,hS.1.2.size,AR.mk1 w5 zp _⟩⟩,?_⟩
            · obtain ⟨u1,hu1,ho1⟩:=hS.2.1 (by kernel_rfl)
              exact ⟨u1,hu1,ho1.below (Ah (Below.refl _ _) _)⟩
            simp only [sc0,sc1]
            refine Cg (i:=8) (by kernel_rfl) rfl (fun w7 hS => ?_)
            obtain ⟨⟨h1,h2⟩,h3,h4⟩:=hS
            obtain ⟨u1,hu1,hown⟩:=h3 (by kernel_rfl)
            obtain ⟨B,hB,hBle,hbox⟩:=h4 (by kernel_rfl)
            have hu1 : q.own u = q.own u1:=hu1
            obtain rfl : u = u1:=by simpa using hu1
            obtain rfl : B = w5.heap.size:=by
              have hB : Value.pointer (some ⟨w5.heap.size,0,none⟩) = .pointer (some ⟨B,0,none⟩):=hB
              injection hB with hB
              injection hB with hB
              injection hB with hB
              exact hB.symm
            have H2:=As (Cr h2 hBle q u)
            have H1:=As (Cr (g:=w5.heap.size) h1 (by have:=HW3.out.size;omega) q u)
            have HBX:=As (hbox.Cu q u)
            have HU:=As (He hown (Eo hown hbox) q u)
            have HUN:=As (Eo hown hbox)
            have b0:=hbox.c0
            have b1:=hbox.c1
            have b2:=hbox.c2
            have d0:=hbox.frz 0
            have d1:=hbox.frz 1
            have d2:=hbox.frz 2
            obtain ⟨A8,c8,rfl, -, -⟩:=hown.reads
            refine BJ (w1:=?_) rfl (by rfl) ?_ ?_
            rotate_left
            · go_simp
              with_reducible rfl
            refine BQ (by kernel_rfl) ?_
            clear hu1 hB h1 h2 h3 h4 hown hbox b0 b1 b2 d0 d1 d2 p0 p1 p2 hcall ho
            obtain ⟨W8,hW8⟩ : ∃ W8,Cu w7 w5.heap.size q (.slice A8 q.vals.length c8) = W8:=⟨_,rfl⟩
            rw [hW8] at H1 H2 HBX HU
            have e8:=hW8
            unfold Cu at e8
            rw [e8]
            clear e8 hW8
            have b0:=HBX.out.c0
            have b1:=HBX.out.c1
            have b2:=HBX.out.c2
            have d0:=HBX.out.frz 0
            obtain ⟨-, -,x2, -, -, -, -, -⟩:=HQ3.out.up H2.out
            simp only [Nat.zero_add] at x2
            have hne : wb.heap.size ≠ w5.heap.size:=by omega
            have hne2 : w5.heap.size ≠ wb.heap.size:=by omega
            have hne3 : g ≠ w5.heap.size:=by omega
            have HLB:=As hBle
            have HLN:=As hpn
            cases hv : Bt q
            · have HV:=As hv
              clear hv
              go_wp2_with (go_at_call 131;refine (Dx HV.out (Below.refl _ _) (OQ HU.out)).mono ?_;rintro e wp ⟨rfl,hbp⟩;have H1p:=As (bj H1.out hbp);clear hbp)
              go_ret
              exact ⟨AB (by rw [← HT2.out,HU2.out,HMS.out,List.cons_append,F3,HRB.out,HPG.out,HQ.out,HV.out];rfl),H1p.out⟩
            · have HV:=As hv
              clear hv
              go_wp2_with (first | (go_at_call 131;refine (Dx HV.out (Below.refl _ _) (OQ HU.out)).mono ?_;rintro e wp ⟨rfl,hbp⟩;have H1p:=As (bj H1.out hbp);have H2p:=As (bj H2.out hbp);have HUp:=As (HU.out.below hbp);have b0':=(HBX.out.up hbp).c0;have b1':=(HBX.out.up hbp).c1;have b2':=(HBX.out.up hbp).c2;obtain ⟨-, -,x2', -, -, -, -, -⟩:=HQ3.out.up H2p.out;simp only [Nat.zero_add] at x2';clear hbp) | (with_reducible refine MP (.store 81 (.tmp 46) (.tmp 45)) rfl ?_;refine MG (w0:=w0) (N:=w3.heap.size) (q:=q) rb.page.toNat (Lu HGk.out) rfl rfl (.tmp 46) (.tmp 45) rfl rfl rfl HUp.out HW3.out.size (Kd.CG HO3.out H2p.out) HLN.out H1p.out ?_;intro w9 hO9 hB9 hg9;have HX9:=As (Lc (HXS3.out.below H2p.out) (Kd.CG HO3.out H2p.out) hg9);have HM9:=As (Lc (HMS3.out.below H2p.out) (Kd.CG HO3.out H2p.out) hg9);have HO9:=As hO9;have HB9:=As hB9;clear hO9 hB9 hg9))
              go_roundw
              case rel => exact ⟨j + 1,cur.set rb.page.toNat q,by omega,by go_num,⟨by rw [← HQ.out];exact Ls HGk.out (JL HG3.out)⟩,HO9,⟨by rw [HU2.out,HMS.out,List.cons_append,F3,HRB.out,HPG.out,HQ.out,HV.out];rfl⟩,HX9,HM9,HB9⟩
              case measure => simp [intOf];omega
          · obtain rfl:=List.mem_singleton.1 hi
            refine BX (w1:=?_) (.pointer (some ⟨w4.heap.size,0,none⟩)) rfl rfl (by rfl) ?_ ?_
            rotate_left
            · go_simp
              with_reducible rfl
            refine ⟨⟨⟨Ah hS.1.1 _,Ah hS.1.2 _⟩,fun h => ?_,fun _ => ⟨w4.heap.size,rfl,hS.1.2.size,AR.mk1 w4 zp _⟩⟩,?_⟩
            · exact (AL h (by kernel_rfl)).elim
            simp only [sc0,sc1]
            refine Ba [6] (by kernel_rfl) (fun i hi w5 hS => ?_)
            obtain rfl:=List.mem_singleton.1 hi
            refine EZ (f:=106) (args:=#[(pg cur rb.page.toNat).val A3 c3,rb.val]) rfl rfl Tryz.func106 (by kernel_rfl) rfl rfl (by rfl) (by simp only [List.map_toArray,List.map_cons,List.map_nil];rfl) ((hcall w5 hS.1.2).mono ?_)
            rintro e w6 ⟨u,rfl,ho,hb⟩
            refine ⟨_,rfl,⟨⟨bj hS.1.1 hb,bj hS.1.2 hb⟩,fun _ => ⟨u,rfl,ho.lower hS.1.2.size⟩,fun h => ?_⟩,?_⟩
            · obtain ⟨B,hB,hBle,hbox⟩:=hS.2.2 (by kernel_rfl)
              exact ⟨B,hB,hBle,hbox.up hb⟩
            simp only [sc0,sc1]
            refine Cg (i:=8) (by kernel_rfl) rfl (fun w7 hS => ?_)
            obtain ⟨⟨h1,h2⟩,h3,h4⟩:=hS
            obtain ⟨u1,hu1,hown⟩:=h3 (by kernel_rfl)
            obtain ⟨B,hB,hBle,hbox⟩:=h4 (by kernel_rfl)
            have hu1 : q.own u = q.own u1:=hu1
            obtain rfl : u = u1:=by simpa using hu1
            obtain rfl : B = w4.heap.size:=by
              have hB : Value.pointer (some ⟨w4.heap.size,0,none⟩) = .pointer (some ⟨B,0,none⟩):=hB
              injection hB with hB
              injection hB with hB
              injection hB with hB
              exact hB.symm
            have H2:=As (Cr h2 hBle q u)
            have H1:=As (Cr (g:=w4.heap.size) h1 (by have:=HW3.out.size;omega) q u)
            have HBX:=As (hbox.Cu q u)
            have HU:=As (He hown (Eo hown hbox) q u)
            have HUN:=As (Eo hown hbox)
            have b0:=hbox.c0
            have b1:=hbox.c1
            have b2:=hbox.c2
            have d0:=hbox.frz 0
            have d1:=hbox.frz 1
            have d2:=hbox.frz 2
            obtain ⟨A8,c8,rfl, -, -⟩:=hown.reads
            refine BJ (w1:=?_) rfl (by rfl) ?_ ?_
            rotate_left
            · go_simp
              with_reducible rfl
            refine BQ (by kernel_rfl) ?_
            clear hu1 hB h1 h2 h3 h4 hown hbox b0 b1 b2 d0 d1 d2 p0 p1 p2 hcall ho
            obtain ⟨W8,hW8⟩ : ∃ W8,Cu w7 w4.heap.size q (.slice A8 q.vals.length c8) = W8:=⟨_,rfl⟩
            rw [hW8] at H1 H2 HBX HU
            have e8:=hW8
            unfold Cu at e8
            rw [e8]
            clear e8 hW8
            have b0:=HBX.out.c0
            have b1:=HBX.out.c1
            have b2:=HBX.out.c2
            have d0:=HBX.out.frz 0
            obtain ⟨-, -,x2, -, -, -, -, -⟩:=HQ3.out.up H2.out
            simp only [Nat.zero_add] at x2
            have hne : wb.heap.size ≠ w4.heap.size:=by omega
            have hne2 : w4.heap.size ≠ wb.heap.size:=by omega
            have hne3 : g ≠ w4.heap.size:=by omega
            have HLB:=As hBle
            have HLN:=As hpn
            cases hv : Bt q
            · have HV:=As hv
              clear hv
              go_wp2_with (go_at_call 131;refine (Dx HV.out (Below.refl _ _) (OQ HU.out)).mono ?_;rintro e wp ⟨rfl,hbp⟩;have H1p:=As (bj H1.out hbp);clear hbp)
              go_ret
              exact ⟨AB (by rw [← HT2.out,HU2.out,HMS.out,List.cons_append,F3,HRB.out,HPG.out,HQ.out,HV.out];rfl),H1p.out⟩
            · have HV:=As hv
              clear hv
              go_wp2_with (first | (go_at_call 131;refine (Dx HV.out (Below.refl _ _) (OQ HU.out)).mono ?_;rintro e wp ⟨rfl,hbp⟩;have H1p:=As (bj H1.out hbp);have H2p:=As (bj H2.out hbp);have HUp:=As (HU.out.below hbp);have b0':=(HBX.out.up hbp).c0;have b1':=(HBX.out.up hbp).c1;have b2':=(HBX.out.up hbp).c2;obtain ⟨-, -,x2', -, -, -, -, -⟩:=HQ3.out.up H2p.out;simp only [Nat.zero_add] at x2';clear hbp) | (with_reducible refine MP (.store 81 (.tmp 46) (.tmp 45)) rfl ?_;refine MG (w0:=w0) (N:=w3.heap.size) (q:=q) rb.page.toNat (Lu HGk.out) rfl rfl (.tmp 46) (.tmp 45) rfl rfl rfl HUp.out HW3.out.size (Kd.CG HO3.out H2p.out) HLN.out H1p.out ?_;intro w9 hO9 hB9 hg9;have HX9:=As (Lc (HXS3.out.below H2p.out) (Kd.CG HO3.out H2p.out) hg9);have HM9:=As (Lc (HMS3.out.below H2p.out) (Kd.CG HO3.out H2p.out) hg9);have HO9:=As hO9;have HB9:=As hB9;clear hO9 hB9 hg9))
              go_roundw
              case rel => exact ⟨j + 1,cur.set rb.page.toNat q,by omega,by go_num,⟨by rw [← HQ.out];exact Ls HGk.out (JL HG3.out)⟩,HO9,⟨by rw [HU2.out,HMS.out,List.cons_append,F3,HRB.out,HPG.out,HQ.out,HV.out];rfl⟩,HX9,HM9,HB9⟩
              case measure => simp [intOf];omega
        · have HJ:=As (show j = ms.length by omega)
          go_wp2
          go_roundw
          case rel => exact ⟨k + 1,cur,by omega,by go_num,HGk,HOi,⟨by rw [HU2.out,HJ.out,List.drop_length,List.nil_append]⟩,HXi,HWi⟩
          case measure => simp [intOf];omega
    · have HE:=As (show k = xs.length by omega)
      go_wp2
      go_ret
      exact ⟨AB (by rw [← HVV.out,HT.out,HE.out,List.drop_length];rfl),HW.out⟩
/-- All that is to be undone of the last j transactions. -/
def Ht (l : List Rec) : Nat → List Nat
  | 0 => []
  | j + 1 => CU l (Aj l (3 - j : Int) l.length) ++ Ht l j
theorem Ji (l : List Rec) : ∀ j,Kv l (Cf l j) = Ht l j
  | 0 => rfl
  | j + 1 => by
    have ih:=Ji l j
    unfold Cf Ht
    split
    · rename_i h
      rw [h,D5,List.nil_append,List.nil_append,ih]
    · rw [Kv,List.flatMap_append]
      rw [Kv] at ih
      rw [ih]
      simp
theorem AV.form {w : World} {b : Nat} {v : Value} {xs : List Int} (h : AV w b v xs) : (v = .slice none 0 0 ∧ xs = []) ∨ ∃ g cap cur,v = .slice (some ⟨g,0,none⟩) xs.length cap ∧ b ≤ g ∧ w.heap[g]? = some (.cells cur 3 (0,0)) ∧ xs.length ≤ cap ∧ cap ≤ maxLen ∧ cur.size = cap * 1 ∧ cur.toList.take xs.length = xs.map (Value.int .i64):=by
  rcases h.2 with ⟨h1,h2⟩ | ⟨g,cap,cur,h1,h2,h3,h4,h5,h6,h7⟩
  · exact .inl ⟨h1,List.eq_nil_of_length_eq_zero h2⟩
  · exact .inr ⟨g,cap,cur,h1,h2,h3,h4,h5,h6,by rw [Nat.mul_one] at h7;exact h7⟩
/-- The order of numbers. -/
def Fy (xs : List Int) : List Int:=xs.mergeSort fun x y => decide (x ≤ y)
theorem Ky {w : World} {b : Nat} {v : Value} {xs : List Int} (hl : xs.length ≤ 1000) (h : AV w b v xs) : Calls Tryz.prog 168 #[v] w fun e w' => e = .returned (.tuple #[]) ∧ AV w' b v (Fy xs) ∧ w.grownBy w' v.ownBlock:=by
  rcases h.form with ⟨rfl,rfl⟩ | ⟨g,cap,cur,rfl,h2,h3,h4,h5,h6,h7⟩
  · refine (Tryz.slices_Sort_int_none none 0 w).mono fun e w' ⟨he,hw⟩ => ⟨he,?_,?_⟩
    · rw [hw,show Fy [] = [] by simp [Fy]];exact AV.nil _ _
    · rw [hw];exact ⟨rfl,rfl,rfl,Nat.le_refl _,fun _ _ _ => rfl⟩
  · have hg : g < w.heap.size:=(Array.getElem?_eq_some_iff.1 h3).1
    refine (Tryz.slices_Sort_int g 0 cap xs w (holds_of_blockI h3 h7) hg (by omega)).mono fun e w' ⟨he,n,os,hw⟩ => ⟨he,?_,?_⟩
    · rw [hw]
      have hs : (Fy xs).length = xs.length:=List.length_mergeSort _
      have:=ownsRow_sortedI (n:=n) (os:=os) (ts:=Fy xs) hs h2 h3 h4 h5 h6
      rw [← hs] at this
      rw [AV, ← hs]
      exact this
    · rw [hw];exact grownBy_sortedI _
theorem Vn (d : Array Int) : ∀ n j,j < n → d[j]! ∈ Go.Lib.compactUpTo d n:=by
  intro n
  induction n with
  | zero => intro j hj;omega
  | succ n ih =>
    intro j hj
    rw [Go.Lib.compactUpTo_succ,List.mem_append]
    by_cases e : j < n
    · exact .inl (ih j e)
    · obtain rfl : j = n:=by omega
      by_cases hk : Go.Lib.keeps d j = true
      · exact .inr (by simp [hk])
      · left
        have h1 : ¬ (j = 0 ∨ d[j]! ≠ d[j - 1]!):=by simpa [Go.Lib.keeps] using hk
        have h2 : d[j]! = d[j - 1]!:=by
          by_cases h : d[j]! = d[j - 1]!
          · exact h
          · exact absurd (.inr h) h1
        have h3 : j ≠ 0:=fun h => h1 (.inl h)
        rw [h2]
        exact ih (j - 1) (by omega)
theorem MV (zs : List Int) (x : Int) : x ∈ Go.Lib.compact zs ↔ x ∈ zs:=by
  constructor
  · intro h
    unfold Go.Lib.compact Go.Lib.compactUpTo at h
    obtain ⟨j,hj,rfl⟩:=List.mem_map.1 h
    have hj : j < zs.length:=by simpa using (List.mem_filter.1 hj).1
    simp [hj]
  · intro h
    obtain ⟨j,hj,rfl⟩:=List.getElem_of_mem h
    have:=Vn zs.toArray zs.length j hj
    rw [show zs.toArray[j]! = zs[j] by simp [hj]] at this
    exact this
theorem Hy {w : World} {b : Nat} {v : Value} {xs : List Int} (hl : xs.length ≤ 1000) (h : AV w b v xs) : Calls Tryz.prog 170 #[v] w fun e w' => ∃ v',e = .returned v' ∧ AV w' b v' (Go.Lib.compact xs) ∧ w.grownBy w' v.ownBlock:=by
  rcases h.form with ⟨rfl,rfl⟩ | ⟨g,cap,cur,rfl,h2,h3,h4,h5,h6,h7⟩
  · refine (Tryz.slices_Compact_int_empty none 0 w).mono fun e w' ⟨he,hw⟩ => ⟨_,he,?_,?_⟩
    · rw [hw];exact AV.nil _ _
    · rw [hw];exact ⟨rfl,rfl,rfl,Nat.le_refl _,fun _ _ _ => rfl⟩
  · refine (Tryz.slices_Compact_int g 0 cap xs w (holds_of_blockI h3 h7) (by omega) h4).mono fun e w' ⟨he,n,hw⟩ => ⟨_,he,?_,?_⟩
    · have hc:=Go.Lib.compact_length_le xs
      obtain ⟨ys,hys⟩ : ∃ ys,Go.Lib.compact xs ++ List.replicate (xs.length - (Go.Lib.compact xs).length) (0 : Int) = ys:=⟨_,rfl⟩
      have hyl : ys.length = xs.length:=by rw [← hys];simp;omega
      have:=ownsRow_sortedI (n:=n) (os:=#[]) (ts:=ys) hyl h2 h3 h4 h5 h6
      rw [Go.Sort.grow_empty] at this
      rw [hw,hys]
      have ht:=Vf this hc
      rw [Nat.mul_one] at ht
      have hy2 : (ys.map (Value.int .i64)).take (Go.Lib.compact xs).length = nums .i64 (Go.Lib.compact xs):=by
        rw [← hys,List.map_append,List.take_left' (by simp)]
        rfl
      rw [hy2] at ht
      exact ht
    · rw [hw]
      have:=grownBy_sortedI (w:=w) (g:=g) (n:=n) (os:=#[]) (Go.Lib.compact xs ++ List.replicate (xs.length - (Go.Lib.compact xs).length) (0 : Int)).toArray
      rw [Go.Sort.grow_empty] at this
      exact this
theorem UJ (r : Rec) (w : World) : Calls Tryz.prog 120 #[r.val] w fun e w' => e = .returned (.bool true) ∧ Below w.heap.size w w':=by
  go_enter Tryz.func120,Tryz.ntmps120
  go_wp2
  go_ret
  exact ⟨rfl,by go_grown⟩
theorem Hg {r : Rec} {b : Bool} (hv : (r.kind == 3) = b) (w : World) : Calls Tryz.prog 153 #[r.val] w fun e w' => e = .returned (.bool b) ∧ Below w.heap.size w w':=by
  subst hv
  go_enter Tryz.func153,Tryz.ntmps153
  go_wp2
  go_ret
  exact ⟨rfl,by go_grown⟩
theorem KM {w : World} {A : Option Addr} {n c : Nat} (hm : n ≤ 9223372036854775807) (h : n ≤ c) : Calls Tryz.prog 169 #[.slice A n c] w fun e w' => e = .returned (.slice A n n) ∧ w = w':=by
  go_enter Tryz.func169,Tryz.ntmps169
  go_wp2
  all_goals (go_ret;exact ⟨rfl,rfl⟩)
/-- A call that hands back numbers to be read. -/
def XA (w : World) (xs : List Int) (e : Ending) (w' : World) : Prop := ∃ A c,e = .returned (.slice A xs.length c) ∧ Kd.C (Kd.int .i64) w' A xs.length xs ∧ Below w.heap.size w w'
/-- The pages of those records of which something holds. -/
def Bb (l : List Rec) (hold : Rec → Bool) (ks : List Nat) : List Int:=(ks.filter fun m => hold (rc l (m - 1))).map fun m => (rc l (m - 1)).page
def isLoad (r : Rec) : Bool:=r.kind == 3
theorem JY {l : List Rec} (hl : AP l = true) (n : Nat) : n ≤ l.length → ∀ m ∈ BA l n,0 < m ∧ m ≤ l.length:=by
  induction n using Nat.strongRecOn with
  | _ n ih =>
    intro hn m hm
    match n with
    | 0 => rw [Cm] at hm;cases hm
    | n + 1 =>
      have F:=AA hl (k:=n) (by omega)
      have h5:=F.prev_le
      rw [DU h5] at hm
      rcases List.mem_cons.1 hm with rfl | hm
      · omega
      · exact ih _ (by omega) (by omega) m hm
set_option maxHeartbeats 4000000 in
theorem NK {w0 w : World} {A : Option Addr} {c : Nat} {l : List Rec} (tx : Int) (hb : Below w0.heap.size w0 w) (hr : Kd.C Ca w0 A l.length l) (hl : AP l = true) : Calls Tryz.prog 119 #[.slice A l.length c, .int .i64 tx, .func (.func 120) #[] #[]] w (XA w (Go.Lib.compact (Fy (Bb l (fun _ => true) (BA l (Aj l tx l.length)))))):=by
  have HR:=As hr
  have HB:=As hb
  have HL:=As hl
  have hm:=Be hl
  obtain ⟨ks,hks⟩ : ∃ ks,BA l (Aj l tx l.length) = ks:=⟨_,rfl⟩
  have hkl:=GV (l:=l) (Aj l tx l.length)
  have hll:=AY l tx l.length
  rw [hks] at hkl
  have HKS:=As hks
  have HMM:=As (JY hl _ hll)
  rw [hks] at HMM
  clear hr hb hl hks
  go_enter Tryz.func119,Tryz.ntmps119
  go_wp2_with (go_at_call 149;refine (Ho tx HB.out HR.out HL.out).mono ?_;rintro e w1 ⟨v,rfl,ho,hb1⟩;rw [HKS.out] at ho;obtain ⟨A1,c1,rfl, -,hC⟩:=ho.reads;have HC:=As hC;have HX:=As hb1;clear ho hb1 hC;simp only [ints,List.length_map])
  go_loopw [7,15] (fun v i wr => ∃ j : Nat,j ≤ ks.length ∧ i = .int .i64 (j : Int) ∧ Ac (AV wr w1.heap.size v (Bb l (fun _ => true) (ks.take j))) ∧ Ac (Below w1.heap.size w1 wr)) (fun _ i _ => (ks.length - intOf i).toNat)
  case atStart => exact ⟨0,by omega,rfl,⟨AV.nil _ _⟩,⟨Below.refl _ _⟩⟩
  case round =>
    obtain ⟨j,hj,rfl,HO,HW⟩:=hrel
    have HWW:=As (bj HX.out HW.out)
    have HW0:=As (bj HB.out HWW.out)
    by_cases hlt : j < ks.length
    · obtain ⟨ad,rfl,g0⟩:=Dg HC.out j (by simpa [ints] using hlt)
      replace g0:=bc HW.out g0
      rw [Lp hlt] at g0
      obtain ⟨n,hn⟩ : ∃ n,ks[j] = n:=⟨_,rfl⟩
      obtain ⟨hn0,hnl⟩:=HMM.out n (hn ▸ List.getElem_mem hlt)
      have HT:=As (show ks.take (j + 1) = ks.take j ++ [n] by rw [List.take_succ_eq_append_getElem hlt,hn])
      rw [hn] at g0
      obtain ⟨m,rfl⟩ : ∃ m,n = m + 1:=⟨n - 1,by omega⟩
      rw [show ((m + 1 : Nat) : Int) = (m : Int) + 1 from rfl] at g0
      have hml : m < l.length:=by omega
      obtain ⟨ad2,rfl,QR⟩:=Ce HR.out m hml
      obtain ⟨z0,z1,z2,z3,z4,z5,z6,z7⟩:=QR.up HW0.out
      have hpl : (Bb l (fun _ => true) (ks.take j)).length ≤ 150:=by
        rw [Bb,List.length_map]
        refine Nat.le_trans (List.length_filter_le _ _) ?_
        rw [List.length_take]
        omega
      have HPL:=As hpl
      clear hn hn0 hnl hpl QR
      go_wp2_with (first | (with_reducible refine Ct (rc l m) ?_;intro w2 hb2 hz2 hq2;have HW3:=As (bj HW.out hb2);have HO3:=As (AV.below HO.out hb2);have HQ3:=As hq2;obtain ⟨x0,x1,x2,x3,x4,x5,x6,x7⟩:=hq2;simp only [Nat.zero_add] at x1 x2 x3 x4 x5 x6 x7;clear hb2) | (go_at_call 120;refine (UJ (rc l m) _).mono ?_;rintro e w3 ⟨rfl,hb3⟩;have HW2:=As (bj HW3.out hb3);have HO2:=As (AV.below HO3.out hb3);obtain ⟨-, -,y2, -, -, -, -, -⟩:=HQ3.out.up hb3;simp only [Nat.zero_add] at y2;clear hb3) | (at_builtin;(refine Di w1.heap.size rfl (.tmp 27) (.tmp 30) 33 3 .i64 8 rfl Dy EL (by omega) _ (Bb l (fun _ => true) (ks.take j)) (rc l m).page rfl rfl HO2.out HW2.out HW2.out.size (by have:=HPL.out;omega) ?_;intro v1 w4 hown1 hb1 _ _;have HO4:=As hown1;have HW4:=As hb1;clear hown1 hb1)))
      go_roundw
      case rel => exact ⟨j + 1,by omega,by go_num,⟨by rw [HT.out,show Bb l (fun _ => true) (ks.take j ++ [m + 1]) = Bb l (fun _ => true) (ks.take j) ++ [(rc l m).page] by simp [Bb]];exact HO4.out⟩,HW4⟩
      case measure => simp [intOf];omega
    · have HE:=As (show j = ks.length by omega)
      have hps : (Bb l (fun _ => true) (ks.take j)).length ≤ 150:=by
        rw [Bb,List.length_map]
        refine Nat.le_trans (List.length_filter_le _ _) ?_
        rw [List.length_take]
        omega
      have HPS:=As hps
      clear hps
      go_wp2_with (first | (go_at_call 168;refine (Ky (by have:=HPS.out;omega) HO.out).mono ?_;rintro e w5 ⟨rfl,ho,hg⟩;have HW5:=As (HW.out.grown hg HW.out.size (fun k hk => HO.out.base hk));have HO5:=As ho;clear ho hg) | (go_at_call 170;refine (Hy (by have:=HPS.out;rw [Fy,List.length_mergeSort];omega) HO5.out).mono ?_;rintro e w6 ⟨v6,rfl,ho,hg⟩;have HW6:=As (HW5.out.grown hg HW5.out.size (fun k hk => HO5.out.base hk));obtain ⟨A6,c6,rfl,hc6,hC6⟩:=ho.reads;have HC6:=As hC6;have HL6:=As hc6;clear ho hg hC6 hc6) | (go_at_call 169;refine (KM (CJ HC6.out).2 HL6.out).mono ?_;rintro e w7 ⟨rfl,rfl⟩))
      go_ret
      have hj : ks.take j = BA l (Aj l tx l.length):=by rw [HE.out,List.take_length,HKS.out]
      rw [← hj]
      exact ⟨A6,_,rfl,HC6.out,bj HX.out HW6.out⟩
set_option maxHeartbeats 4000000 in
theorem M8 {w0 w : World} {A : Option Addr} {c : Nat} {l : List Rec} (tx : Int) (hb : Below w0.heap.size w0 w) (hr : Kd.C Ca w0 A l.length l) (hl : AP l = true) : Calls Tryz.prog 119 #[.slice A l.length c, .int .i64 tx, .func (.func 153) #[] #[]] w (XA w (Go.Lib.compact (Fy (Bb l (isLoad) (BA l (Aj l tx l.length)))))):=by
  have HR:=As hr
  have HB:=As hb
  have HL:=As hl
  have hm:=Be hl
  obtain ⟨ks,hks⟩ : ∃ ks,BA l (Aj l tx l.length) = ks:=⟨_,rfl⟩
  have hkl:=GV (l:=l) (Aj l tx l.length)
  have hll:=AY l tx l.length
  rw [hks] at hkl
  have HKS:=As hks
  have HMM:=As (JY hl _ hll)
  rw [hks] at HMM
  clear hr hb hl hks
  go_enter Tryz.func119,Tryz.ntmps119
  go_wp2_with (go_at_call 149;refine (Ho tx HB.out HR.out HL.out).mono ?_;rintro e w1 ⟨v,rfl,ho,hb1⟩;rw [HKS.out] at ho;obtain ⟨A1,c1,rfl, -,hC⟩:=ho.reads;have HC:=As hC;have HX:=As hb1;clear ho hb1 hC;simp only [ints,List.length_map])
  go_loopw [7,15] (fun v i wr => ∃ j : Nat,j ≤ ks.length ∧ i = .int .i64 (j : Int) ∧ Ac (AV wr w1.heap.size v (Bb l (isLoad) (ks.take j))) ∧ Ac (Below w1.heap.size w1 wr)) (fun _ i _ => (ks.length - intOf i).toNat)
  case atStart => exact ⟨0,by omega,rfl,⟨AV.nil _ _⟩,⟨Below.refl _ _⟩⟩
  case round =>
    obtain ⟨j,hj,rfl,HO,HW⟩:=hrel
    have HWW:=As (bj HX.out HW.out)
    have HW0:=As (bj HB.out HWW.out)
    by_cases hlt : j < ks.length
    · obtain ⟨ad,rfl,g0⟩:=Dg HC.out j (by simpa [ints] using hlt)
      replace g0:=bc HW.out g0
      rw [Lp hlt] at g0
      obtain ⟨n,hn⟩ : ∃ n,ks[j] = n:=⟨_,rfl⟩
      obtain ⟨hn0,hnl⟩:=HMM.out n (hn ▸ List.getElem_mem hlt)
      have HT:=As (show ks.take (j + 1) = ks.take j ++ [n] by rw [List.take_succ_eq_append_getElem hlt,hn])
      rw [hn] at g0
      obtain ⟨m,rfl⟩ : ∃ m,n = m + 1:=⟨n - 1,by omega⟩
      rw [show ((m + 1 : Nat) : Int) = (m : Int) + 1 from rfl] at g0
      have hml : m < l.length:=by omega
      obtain ⟨ad2,rfl,QR⟩:=Ce HR.out m hml
      obtain ⟨z0,z1,z2,z3,z4,z5,z6,z7⟩:=QR.up HW0.out
      have hpl : (Bb l (isLoad) (ks.take j)).length ≤ 150:=by
        rw [Bb,List.length_map]
        refine Nat.le_trans (List.length_filter_le _ _) ?_
        rw [List.length_take]
        omega
      have HPL:=As hpl
      clear hn hn0 hnl hpl QR
      cases hv : (rc l m).kind == 3
      · have HV:=As hv
        clear hv
        go_wp2_with (first | (with_reducible refine Ct (rc l m) ?_;intro w2 hb2 hz2 hq2;have HW3:=As (bj HW.out hb2);have HO3:=As (AV.below HO.out hb2);have HQ3:=As hq2;obtain ⟨x0,x1,x2,x3,x4,x5,x6,x7⟩:=hq2;simp only [Nat.zero_add] at x1 x2 x3 x4 x5 x6 x7;clear hb2) | (go_at_call 153;refine (Hg HV.out _).mono ?_;rintro e w3 ⟨rfl,hb3⟩;have HW2:=As (bj HW3.out hb3);have HO2:=As (AV.below HO3.out hb3);obtain ⟨-, -,y2, -, -, -, -, -⟩:=HQ3.out.up hb3;simp only [Nat.zero_add] at y2;clear hb3))
        go_roundw
        case rel => exact ⟨j + 1,by omega,by go_num,⟨by rw [HT.out,show Bb l isLoad (ks.take j ++ [m + 1]) = Bb l isLoad (ks.take j) by have hv:=HV.out;simp [Bb,List.filter_append,isLoad,hv]];exact HO2.out⟩,HW2⟩
        case measure => simp [intOf];omega
      · have HV:=As hv
        clear hv
        go_wp2_with (first | (with_reducible refine Ct (rc l m) ?_;intro w2 hb2 hz2 hq2;have HW3:=As (bj HW.out hb2);have HO3:=As (AV.below HO.out hb2);have HQ3:=As hq2;obtain ⟨x0,x1,x2,x3,x4,x5,x6,x7⟩:=hq2;simp only [Nat.zero_add] at x1 x2 x3 x4 x5 x6 x7;clear hb2) | (go_at_call 153;refine (Hg HV.out _).mono ?_;rintro e w3 ⟨rfl,hb3⟩;have HW2:=As (bj HW3.out hb3);have HO2:=As (AV.below HO3.out hb3);obtain ⟨-, -,y2, -, -, -, -, -⟩:=HQ3.out.up hb3;simp only [Nat.zero_add] at y2;clear hb3) | (at_builtin;(refine Di w1.heap.size rfl (.tmp 27) (.tmp 30) 33 3 .i64 8 rfl Dy EL (by omega) _ (Bb l (isLoad) (ks.take j)) (rc l m).page rfl rfl HO2.out HW2.out HW2.out.size (by have:=HPL.out;omega) ?_;intro v1 w4 hown1 hb1 _ _;have HO4:=As hown1;have HW4:=As hb1;clear hown1 hb1)))
        go_roundw
        case rel => exact ⟨j + 1,by omega,by go_num,⟨by rw [HT.out,show Bb l isLoad (ks.take j ++ [m + 1]) = Bb l isLoad (ks.take j) ++ [(rc l m).page] by have hv:=HV.out;simp [Bb,List.filter_append,isLoad,hv]];exact HO4.out⟩,HW4⟩
        case measure => simp [intOf];omega
    · have HE:=As (show j = ks.length by omega)
      have hps : (Bb l (isLoad) (ks.take j)).length ≤ 150:=by
        rw [Bb,List.length_map]
        refine Nat.le_trans (List.length_filter_le _ _) ?_
        rw [List.length_take]
        omega
      have HPS:=As hps
      clear hps
      go_wp2_with (first | (go_at_call 168;refine (Ky (by have:=HPS.out;omega) HO.out).mono ?_;rintro e w5 ⟨rfl,ho,hg⟩;have HW5:=As (HW.out.grown hg HW.out.size (fun k hk => HO.out.base hk));have HO5:=As ho;clear ho hg) | (go_at_call 170;refine (Hy (by have:=HPS.out;rw [Fy,List.length_mergeSort];omega) HO5.out).mono ?_;rintro e w6 ⟨v6,rfl,ho,hg⟩;have HW6:=As (HW5.out.grown hg HW5.out.size (fun k hk => HO5.out.base hk));obtain ⟨A6,c6,rfl,hc6,hC6⟩:=ho.reads;have HC6:=As hC6;have HL6:=As hc6;clear ho hg hC6 hc6) | (go_at_call 169;refine (KM (CJ HC6.out).2 HL6.out).mono ?_;rintro e w7 ⟨rfl,rfl⟩))
      go_ret
      have hj : ks.take j = BA l (Aj l tx l.length):=by rw [HE.out,List.take_length,HKS.out]
      rw [← hj]
      exact ⟨A6,_,rfl,HC6.out,bj HX.out HW6.out⟩
theorem PU (l : List Rec) (n : Nat) (p : Int) : (Go.Lib.compact (Fy (Bb l (fun _ => true) (BA l n)))).contains p = G8 l n p:=by
  rw [Bool.eq_iff_iff,List.contains_iff_mem,MV,Fy,List.mem_mergeSort,G8,List.any_eq_true,Bb,List.mem_map]
  simp
theorem Km (l : List Rec) (n : Nat) (p : Int) : (Go.Lib.compact (Fy (Bb l isLoad (BA l n)))).contains p = EJ l n p:=by
  rw [Bool.eq_iff_iff,List.contains_iff_mem,MV,Fy,List.mem_mergeSort,EJ,List.any_eq_true,Bb,List.mem_map]
  simp [isLoad,and_assoc]
/-- The last of these transactions that holds a page, and whether it is one at most. -/
def Fg (l : List Rec) (page : Int) : List Int → Int → Bool → Int × Bool
  | [],by_,ok => (by_,ok)
  | tx :: txs,by_,ok => if G8 l (Aj l tx l.length) page = true then Fg l page txs tx (by_ == 0) else Fg l page txs by_ ok
def Y0 (w : World) (r : Int × Bool) (e : Ending) (w' : World) : Prop:=e = .returned (.tuple #[.int .i64 r.1, .bool r.2]) ∧ Below w.heap.size w w'
set_option maxHeartbeats 4000000 in
theorem Er {w0 w : World} {A : Option Addr} {c : Nat} {l : List Rec} (page : Int) (hb : Below w0.heap.size w0 w) (hr : Kd.C Ca w0 A l.length l) (hl : AP l = true) : Calls Tryz.prog 60 #[.slice A l.length c, .int .i64 page] w (Y0 w (Fg l page (Cf l 3) 0 true)):=by
  have HR:=As hr
  have HB:=As hb
  have HL:=As hl
  have hm:=Be hl
  obtain ⟨xs,hxs⟩ : ∃ xs,Cf l 3 = xs:=⟨_,rfl⟩
  have hol:=I9 l 3
  rw [hxs] at hol
  have HXS:=As hxs
  clear hr hb hl hxs
  go_enter Tryz.func60,Tryz.ntmps60
  go_wp2_with (go_at_call 47;refine (FN HB.out HR.out).mono ?_;rintro e w1 ⟨v,rfl,ho,hb1⟩;rw [HXS.out] at ho;obtain ⟨A1,c1,rfl, -,hC⟩:=ho.reads;have HC:=As hC;have HX:=As hb1;clear ho hb1 hC)
  go_loopw [6,7,13] (fun b o i wr => ∃ (k : Nat) (bi : Int) (ok : Bool),k ≤ xs.length ∧ i = .int .i64 (k : Int) ∧ b = .int .i64 bi ∧ o = .bool ok ∧ Ac (Fg l page (Cf l 3) 0 true = Fg l page (xs.drop k) bi ok) ∧ Ac (Below w1.heap.size w1 wr)) (fun _ _ i _ => (xs.length - intOf i).toNat)
  case atStart => exact ⟨0,0,true,by omega,rfl,rfl,rfl,⟨by rw [HXS.out,List.drop_zero]⟩,⟨Below.refl _ _⟩⟩
  case round =>
    obtain ⟨k,bi,ok,hk,rfl,rfl,rfl,HK,HW⟩:=hrel
    have HWW:=As (bj HX.out HW.out)
    have HW0:=As (bj HB.out HWW.out)
    by_cases hlt : k < xs.length
    · obtain ⟨ad,rfl,g0⟩:=Dg HC.out k hlt
      replace g0:=bc HW.out g0
      have HD:=As (JS hlt)
      cases hv : G8 l (Aj l (iv xs k) l.length) page
      all_goals
        have HV:=As hv
        clear hv
        go_wp2_with (first | (go_at_call 119;refine (NK (iv xs k) HW0.out HR.out HL.out).mono ?_;rintro e w2 ⟨A2,c2,rfl,hC2,hb2⟩;have HC2:=As hC2;have HW2:=As (bj HW.out hb2);clear hC2 hb2) | (go_at_call 118;refine (JG page (Below.refl _ _) HC2.out).mono ?_;rintro e w3 ⟨rfl,rfl⟩;rw [PU,HV.out]))
        go_roundw
      case rel => exact ⟨k + 1,bi,ok,by omega,by go_num,rfl,rfl,⟨by rw [HK.out,HD.out,Fg,HV.out];rfl⟩,HW2⟩
      case measure => simp [intOf];omega
      case rel => exact ⟨k + 1,iv xs k,bi == 0,by omega,by go_num,rfl,rfl,⟨by rw [HK.out,HD.out,Fg,HV.out];rfl⟩,HW2⟩
      case measure => simp [intOf];omega
    · have HE:=As (show k = xs.length by omega)
      go_wp2
      go_ret2
      exact ⟨by rw [HK.out,HE.out,List.drop_length];rfl,HWW.out⟩
set_option maxRecDepth 100000 in
set_option maxHeartbeats 4000000 in
theorem Od {w0 w : World} {A : Option Addr} {c bl bp : Nat} {l : List Rec} (tx page : Int) {b : Bool} (hv : EJ l (Aj l tx l.length) page = b) (hb : Below w0.heap.size w0 w) (hr : Kd.C Ca w0 A l.length l) (hl : AP l = true) (h1 : w.cell? ⟨bl,0,none⟩ = some (.slice A l.length c)) (h2 : w.cell? ⟨bp,0,none⟩ = some (.int .i64 page)) : Calls Tryz.prog 175 #[.int .i64 tx, .pointer (some ⟨bl,0,none⟩), .pointer (some ⟨bp,0,none⟩)] w fun e w' => e = .returned (.bool b) ∧ Below w.heap.size w w':=by
  have HR:=As hr
  have HB:=As hb
  have HL:=As hl
  have HV:=As hv
  clear hr hb hl hv
  go_enter Tryz.func175,Tryz.ntmps175
  go_wp2
  obtain ⟨zs,hzs⟩ : ∃ zs,Go.Lib.compact (Fy (Bb l isLoad (BA l (Aj l tx l.length)))) = zs:=⟨_,rfl⟩
  have HZ : Ac (zs.contains page = b):=⟨by rw [← hzs,Km,HV.out]⟩
  have hcall : ∀ wx,Below w.heap.size w wx → Calls Tryz.prog 119 #[.slice A l.length c, .int .i64 tx, .func (.func 153) #[] #[]] wx (XA wx zs):=fun wx hb => hzs ▸ M8 tx (bj HB.out hb) HR.out HL.out
  clear hzs
  refine AX (fun lx a wx => Below w.heap.size w wx ∧ Sl 2 7 (fun v wx => ∃ A2 c2,v = .slice A2 zs.length c2 ∧ Kd.C (Kd.int .i64) wx A2 zs.length zs) lx a wx) 5 rfl (by kernel_rfl) (⟨Ak (Below.refl _ _),Bc⟩) (fun HT => ?_)
  refine Ae (i:=0) (v:=?_) HT rfl (by kernel_rfl) rfl (kA Aa (Ab rfl rfl)) (by rfl) (fun _ _ _ h => h) (fun lx ax wx hS => ?_) ?_;rotate_left;(have hbx:=hS.1;clear hS;replace h1:=bc hbx h1;replace h2:=bc hbx h2;go_simp;with_reducible rfl);rotate_left;simp only [sc0,sc1]
  refine Ae (i:=1) (v:=?_) HT rfl (by kernel_rfl) rfl (kA Aa (Ab rfl rfl)) (by rfl) (fun _ _ _ h => h) (fun lx ax wx hS => ?_) ?_;rotate_left;(have hbx:=hS.1;clear hS;replace h1:=bc hbx h1;replace h2:=bc hbx h2;go_simp;with_reducible rfl);rotate_left;simp only [sc0,sc1]
  refine Ae (i:=3) (v:=?_) HT rfl (by kernel_rfl) rfl (kA Aa (Ab rfl rfl)) (by rfl) (fun _ _ _ h => h) (fun lx ax wx hS => ?_) ?_;rotate_left;(have hbx:=hS.1;clear hS;replace h1:=bc hbx h1;replace h2:=bc hbx h2;go_simp;with_reducible rfl);rotate_left;simp only [sc0,sc1]
  refine C9 (i:=2) (f:=119) (args:=#[.slice A l.length c, .int .i64 tx, .func (.func 153) #[] #[]]) (fun v => ∃ A2 c2,v = .slice A2 zs.length c2) rfl (by kernel_rfl) rfl Tryz.func119 (by kernel_rfl) rfl rfl (by rfl) (by simp only [List.map_toArray,List.map_cons,List.map_nil];rfl) (fun wx hS => (hcall wx hS.1).mono (by rintro e w6 ⟨A2,c2,rfl,hC,hb⟩;exact ⟨_,rfl,⟨A2,c2,rfl⟩,bj hS.1 hb,fun _ => ⟨A2,c2,rfl,hC⟩⟩)) (fun vx hg => ?_);simp only [sc0,sc1]
  obtain ⟨A2,c2,rfl⟩:=hg
  refine C9 (i:=4) (f:=118) (args:=#[.slice A2 zs.length c2, .int .i64 page]) (fun v => v = .bool b) rfl (by kernel_rfl) rfl Tryz.func118 (by kernel_rfl) rfl rfl (by rfl) (by simp only [List.map_toArray,List.map_cons,List.map_nil];rfl) (fun wx hS => (by obtain ⟨A3,c3,e3,hC⟩:=hS.2 (by kernel_rfl);have e3 : Value.slice A2 zs.length c2 = .slice A3 zs.length c3:=e3;injection e3 with e4;subst e4;exact (JG page (Below.refl _ _) hC).mono (by rintro e w6 ⟨rfl,rfl⟩;exact ⟨_,rfl,by rw [HZ.out],hS.1,fun _ => ⟨A2,c2,rfl,hC⟩⟩))) (fun vx hg => ?_);simp only [sc0,sc1]
  subst hg
  refine Cg (i:=5) (by kernel_rfl) rfl (fun wx hS => ?_)
  refine BX (w1:=wx) (.bool b) rfl rfl (by rfl) (by go_simp) ?_
  refine BQ (by kernel_rfl) ?_
  go_wp2
  go_ret
  exact ⟨rfl,hS.1⟩
theorem OG (w : World) (u v : Value) (T U : Nat) (hu : u.oneCell' = true) (hv : v.oneCell' = true) : ((w.alloc (.cells #[u] T)).alloc (.cells #[v] U)).cell? ⟨w.heap.size,0,none⟩ = some u ∧ ((w.alloc (.cells #[u] T)).alloc (.cells #[v] U)).cell? ⟨w.heap.size + 1,0,none⟩ = some v:=by
  constructor <;> go_simp
/-- Is a page loaded by one of these? -/
def Gm (l : List Rec) (page : Int) (txs : List Int) : Bool:=txs.any fun tx => EJ l (Aj l tx l.length) page
set_option maxRecDepth 100000 in
set_option maxHeartbeats 4000000 in
theorem PL {w0 w : World} {A B : Option Addr} {c d bl bp : Nat} {l : List Rec} {xs : List Int} (page : Int) (hb : Below w0.heap.size w0 w) (hr : Kd.C Ca w0 A l.length l) (hl : AP l = true) (h1 : w.cell? ⟨bl,0,none⟩ = some (.slice A l.length c)) (h2 : w.cell? ⟨bp,0,none⟩ = some (.int .i64 page)) (hx : Kd.C (Kd.int .i64) w B xs.length xs) : Calls Tryz.prog 178 #[.slice B xs.length d, .func (.func 175) #[] #[.pointer (some ⟨bl,0,none⟩), .pointer (some ⟨bp,0,none⟩)]] w (VT (Gm l page xs) w):=by
  have HR:=As hr
  have HB:=As hb
  have HL:=As hl
  have HX:=As hx
  have H1:=As h1
  have H2:=As h2
  have hm:=(CJ hx).2
  clear hr hb hl hx h1 h2
  go_enter Tryz.func178,Tryz.ntmps178
  go_wp2
  go_loopw [8] (fun i wr => ∃ k : Nat,k ≤ xs.length ∧ i = .int .i64 (k : Int) ∧ Ac (Gm l page xs = Gm l page (xs.drop k)) ∧ Ac (Below w.heap.size w wr)) (fun i _ => (xs.length - intOf i).toNat)
  case atStart => exact ⟨0,Nat.zero_le _,rfl,⟨rfl⟩,⟨Below.refl _ _⟩⟩
  case round =>
    obtain ⟨k,hk,rfl,HK,HW⟩:=hrel
    by_cases hlt : k < xs.length
    · obtain ⟨ad,rfl,g0⟩:=Dg HX.out k hlt
      replace g0:=bc HW.out g0
      have HD:=As (JS hlt)
      cases hp : EJ l (Aj l (iv xs k) l.length) page
      all_goals
        have HP:=As hp
        clear hp
        go_wp2_with (go_at_call 175;refine (Od (iv xs k) page HP.out (bj HB.out HW.out) HR.out HL.out (bc HW.out H1.out) (bc HW.out H2.out)).mono ?_;rintro e w1 ⟨rfl,hb1⟩;have HW1:=As (bj HW.out hb1);clear hb1)
      · go_roundw
        case rel => exact ⟨k + 1,by omega,by go_num,⟨by rw [HK.out,HD.out,Gm,List.any_cons,HP.out];rfl⟩,HW1⟩
        case measure => simp [intOf];omega
      · go_ret
        exact ⟨k,rfl,by rw [HK.out,HD.out,Gm,List.any_cons,HP.out];simp,HW1.out⟩
    · have hke : k = xs.length:=by omega
      go_wp2
      go_ret
      exact ⟨-1,rfl,by rw [HK.out,hke,List.drop_length];rfl,HW.out⟩
theorem Nf {w0 w : World} {A B : Option Addr} {c d bl bp : Nat} {l : List Rec} {xs : List Int} (page : Int) (hb : Below w0.heap.size w0 w) (hr : Kd.C Ca w0 A l.length l) (hl : AP l = true) (h1 : w.cell? ⟨bl,0,none⟩ = some (.slice A l.length c)) (h2 : w.cell? ⟨bp,0,none⟩ = some (.int .i64 page)) (hx : Kd.C (Kd.int .i64) w B xs.length xs) : Calls Tryz.prog 148 #[.slice B xs.length d, .func (.func 175) #[] #[.pointer (some ⟨bl,0,none⟩), .pointer (some ⟨bp,0,none⟩)]] w fun e w' => e = .returned (.bool (Gm l page xs)) ∧ Below w.heap.size w w':=by
  have HF:=As (PL (d:=d) page hb hr hl h1 h2 hx)
  clear hr hb hl h1 h2 hx
  go_enter Tryz.func148,Tryz.ntmps148
  go_wp2_with (go_at_call 178;refine HF.out.mono ?_;rintro e w' ⟨i,rfl,hi,hb⟩)
  go_ret
  exact ⟨by first | exact AB hi | rfl,hb⟩
theorem Lh (l : List Rec) (p : Int) : ∀ j,Gm l p (Cf l j) = Ig l p j
  | 0 => rfl
  | j + 1 => by
    have ih:=Lh l p j
    unfold Cf Ig
    split
    · rename_i h
      rw [h,KG,Bool.false_or,List.nil_append,ih]
    · rw [Gm,List.any_append]
      rw [Gm] at ih
      rw [ih]
      simp
set_option maxHeartbeats 4000000 in
theorem Fh {w0 w : World} {A : Option Addr} {c : Nat} {l : List Rec} (page : Int) {b : Bool} (hv : Ig l page 3 = b) (hb : Below w0.heap.size w0 w) (hr : Kd.C Ca w0 A l.length l) (hl : AP l = true) : Calls Tryz.prog 137 #[.slice A l.length c, .int .i64 page] w fun e w' => e = .returned (.bool b) ∧ Below w.heap.size w w':=by
  have HR:=As hr
  have HB:=As hb
  have HL:=As hl
  have HV:=As hv
  clear hr hb hl hv
  obtain ⟨W2,hW2⟩ : ∃ W2,(w.alloc (.cells #[.slice A l.length c] 26)).alloc (.cells #[.int .i64 page] 3) = W2:=⟨_,rfl⟩
  have hb2 : Below w.heap.size w W2:=by rw [← hW2];exact Ah (Ah (Below.refl _ _) _) _
  have hc1 : W2.cell? ⟨w.heap.size,0,none⟩ = some (.slice A l.length c):=by rw [← hW2];exact (OG w _ _ _ _ rfl rfl).1
  have hc2 : W2.cell? ⟨w.heap.size + 1,0,none⟩ = some (.int .i64 page):=by rw [← hW2];exact (OG w _ _ _ _ rfl rfl).2
  have H2:=As hW2
  have HB2:=As hb2
  have HC1:=As hc1
  have HC2:=As hc2
  clear hW2 hb2 hc1 hc2
  go_enter Tryz.func137,Tryz.ntmps137
  go_wp2_with (first | (go_at_call 47;rw [H2.out];refine (FN (bj HB.out HB2.out) HR.out).mono ?_;rintro e w3 ⟨v,rfl,ho,hb3⟩;obtain ⟨A3,c3,rfl, -,hC⟩:=ho.reads;have HC:=As hC;have HX:=As (bj HB2.out hb3);have HX3:=As hb3;clear ho hb3 hC) | (go_at_call 148;refine (Nf page (bj HB.out HX.out) HR.out HL.out (bc HX3.out HC1.out) (bc HX3.out HC2.out) HC.out).mono ?_;rintro e w4 ⟨rfl,hb4⟩;have HX4:=As (bj HX.out hb4);clear hb4))
  go_ret
  exact ⟨AB (by rw [← HV.out, ← Lh]),HX4.out⟩
open Go.RowKit Go.Shelf Go.Proofs.YtpjmlpmhgfghbaaGreatW.PrintWords Go.Proofs.YtpjmlpmhgfghbaaGreatW.PrintLast Go.Proofs.YtpjmlpmhgfghbaaGreatW.PrintMore
attribute [local go_sem] Oper.semAt_some
/-- Did the record modify the page? -/
def KJ (l : List Rec) (page : Int) (k : Nat) : Bool:=(rc l k).page == page && (Cx (rc l k).kind || (rc l k).kind == 3)
theorem R6 {l : List Rec} {page : Int} {n : Nat} (h : KJ l page n = true) : BD l page (n + 1) = n + 1:=by
  simp only [KJ,Bool.and_eq_true,beq_iff_eq,Bool.or_eq_true] at h
  rw [BD,if_pos h]
theorem Pz {l : List Rec} {page : Int} {n : Nat} (h : KJ l page n = false) : BD l page (n + 1) = BD l page n:=by
  rw [BD,if_neg]
  rintro ⟨h1,h2⟩
  have : KJ l page n = true:=by
    simp only [KJ,Bool.and_eq_true,beq_iff_eq,Bool.or_eq_true]
    exact ⟨h1,h2⟩
  rw [h] at this
  cases this
theorem IK {l : List Rec} {page : Int} {n : Nat} : ∀ {k : Nat},k ≤ n → (∀ x ∈ J9 n k,KJ l page x = false) → BD l page n = BD l page (n - k)
  | 0,_,_ => rfl
  | k + 1,hk,h => by
    rw [FR] at h
    rw [IK (k:=k) (by omega) (fun x hx => h x (List.mem_append_left _ hx))]
    have h1:=h (n - 1 - k) (by simp)
    rw [show n - k = (n - (k + 1)) + 1 by omega,Pz (by rw [show n - (k + 1) = n - 1 - k by omega];exact h1)]
set_option maxRecDepth 100000 in
set_option maxHeartbeats 4000000 in
theorem Gp {w0 w : World} {A : Option Addr} {c : Nat} {l : List Rec} (page : Int) (hb : Below w0.heap.size w0 w) (hr : Kd.C Ca w0 A l.length l) : Calls Tryz.prog 138 #[.slice A l.length c, .int .i64 page] w fun e w' => e = .returned (.int .i64 (BD l page l.length)) ∧ Below w.heap.size w w':=by
  have HR:=As hr
  have HB:=As hb
  have hm:=(CJ hr).2
  clear hr hb
  refine (callsIn_wide (n:=5)).1 ?_
  have hro : Fence.wide.round = none:=rfl
  have h1 : 1 ≤ 5:=by omega
  refine callsIn_of_wp_marks Tryz.func138 rfl trivial ?_ hro
  simp only [Tryz.ntmps138,List.size_toArray,List.length_cons,List.length_nil,Nat.reduceAdd,Nat.reduceSub,Array.replicate_succ,Array.replicate_zero,List.push_toArray,List.append_toArray,List.nil_append,List.cons_append]
  gi_wp2_with (refine ⟨trivial,?_⟩;gi_at_call 165;refine (TR Fence.wide _ trivial hro _ _ _ _).mono ?_;rintro e w' ⟨rfl,rfl⟩)
  have b3:=((Blk.new w 3 #[.int .i64 page]) : Blk _ _ _ _)
  obtain ⟨W0,hW0⟩ : ∃ W0,((w.alloc (.cells #[.int .i64 page] 3)).alloc (.cells #[.int .i64 0] 3)).alloc (.cells #[.slice A l.length c] 26) = W0:=⟨_,rfl⟩
  have hsz : W0.heap.size = w.heap.size + 3:=by rw [← hW0];simp
  have hB0 : Below w.heap.size w W0:=by rw [← hW0];exact (((Below.refl _ w).alloc (Nat.le_refl _) _).alloc (by simp) _).alloc (by simp;omega) _
  have bT : Blk W0 w.heap.size 3 #[.int .i64 page]:=by
    rw [← hW0];exact ((Below.heap_alloc _ _ _ (by simp;omega)).trans (Below.heap_alloc _ _ _ (by simp))).trans (World.alloc_heap_new w _)
  have bR : Boxed W0 (w.heap.size + 1) 3 (.int .i64 0):=by
    rw [← hW0];refine (Below.heap_alloc _ _ _ (by simp)).trans ?_
    have:=World.alloc_heap_new (w.alloc (.cells #[.int .i64 page] 3)) (.cells #[.int .i64 0] 3);rwa [World.size_alloc] at this
  have bS : W0.cell? ⟨w.heap.size + 1 + 1,0,none⟩ = some (.slice A l.length c):=by
    have : Boxed W0 (w.heap.size + 1 + 1) 26 (.slice A l.length c):=by
      rw [← hW0];have:=World.alloc_heap_new ((w.alloc (.cells #[.int .i64 page] 3)).alloc (.cells #[.int .i64 0] 3)) (.cells #[.slice A l.length c] 26);rwa [World.size_alloc,World.size_alloc] at this
    exact this.cell
  rw [hW0]
  clear hW0 b3
  have hw0 : Below w0.heap.size w0 W0:=bj HB.out hB0
  have HSZ:=As hsz
  refine wpIn_rangeFunc_ownH (α:=J4 l.length) hro h1 (gf:=181) (lb:=#[.pointer (some ⟨w.heap.size + 1 + 1,0,none⟩)]) rfl trivial (enters_of Tryz.func181 (by kernel_rfl) rfl)
    (O0 Fence.wide _ trivial hro (by omega) (w.heap.size + 1 + 1) W0.heap.size c A l w0 W0 HR.out hw0.size (by omega) (Nat.le_refl _) hw0 bS) belowK_t (belowK_b (Nat.le_refl _)) (Below.refl _ _) (fun _ => rfl)
    (fun pre W => (∀ x ∈ pre,KJ l page x.1 = false) ∧ Below W0.heap.size W0 W)
    (fun cc pre W => ((cc = .ret ∧ ∃ pre0 x,pre = pre0 ++ [x] ∧ (∀ y ∈ pre0,KJ l page y.1 = false) ∧ KJ l page x.1 = true) ∧ (∃ x : J4 l.length,pre.getLast? = some x ∧ Boxed W (w.heap.size + 1) 3 (.int .i64 ((x.1 : Int) + 1)))) ∧ Below w.heap.size w W)
    (OwnFrom.and (ownFrom_pure _ _) (ownFrom_below (Nat.le_refl _) (Nat.le_refl _)))
    (fun cc => OwnFrom.and (OwnFrom.and (ownFrom_pure _ _) (fun s X Y row hs hg hr => by obtain ⟨x,e1,e2⟩:=hs;exact ⟨x,e1,boxed_own _ _ (fun (_ : Unit) => _) () X Y row e2 hg (fun r e => (hr r e).2)⟩)) (ownFrom_below (Nat.le_refl _) (by omega)))
    ⟨by simp,Below.refl _ _⟩
    (fun x a' W => ∃ Bx,W0.heap.size ≤ Bx ∧ Blk W Bx 98 #[.int .i64 (rc l x.1).kind, .int .i64 (rc l x.1).tx, .int .i64 (rc l x.1).page, .int .i64 (rc l x.1).slot, .int .i64 (rc l x.1).old, .int .i64 (rc l x.1).new, .int .i64 (rc l x.1).prev, .int .i64 (rc l x.1).next] ∧ a' = { tmps:=#[.slice A l.length c, .int .i64 page,undef, .pointer (some ⟨w.heap.size,0,none⟩), .pointer (some ⟨w.heap.size + 1,0,none⟩), .int .i64 (x.1 : Nat), .pointer (some ⟨Bx,0,none⟩), .slice A l.length c, .func (.func 181) #[] #[.pointer (some ⟨w.heap.size + 1 + 1,0,none⟩)], .int .i64 (x.1 : Nat),(rc l x.1).val,undef,undef,undef,undef,undef,undef,undef,undef,undef,undef,undef,undef,undef,undef,undef],defers := [] })
    (fun x a' _ X Y row hs hg hr => by obtain ⟨Bx,e1,e2,e3⟩:=hs;exact ⟨Bx,e1,TQ Bx 98 (fun (_ : Unit) => #[.int .i64 (rc l x.1).kind, .int .i64 (rc l x.1).tx, .int .i64 (rc l x.1).page, .int .i64 (rc l x.1).slot, .int .i64 (rc l x.1).old, .int .i64 (rc l x.1).new, .int .i64 (rc l x.1).prev, .int .i64 (rc l x.1).next]) () X Y row e2 hg (fun r e => (hr r e).2),e3⟩)
    ?assign ?body ?done ?stop
  all_goals clear hsz
  case assign =>
    rintro lp pre x W K ⟨hp,hB1⟩ hK
    gi_wp2
    exact hK _ _ ((KeepsOthers.alloc _ _).from _) ((Below.refl _ W).alloc hB1.size _) ⟨hp,hB1.alloc hB1.size _⟩ ⟨W.heap.size,hB1.size,Blk.new W _ _,rfl⟩
  case body =>
    rintro lp pre x a' W hlp - ⟨hp,hB1⟩ ⟨Bx,hBx,bX,rfl⟩ hlt
    obtain ⟨g0,g1,g2,g3,g4,g5,g6,g7⟩:=bX.recAt
    have cT : W.cell? ⟨w.heap.size,0,none⟩ = some (.int .i64 page):=(hB1.cell (p:=⟨w.heap.size,0,none⟩) (by show w.heap.size < _;have:=HSZ.out;omega)).trans (Boxed.cell bT)
    have bR1 : Boxed W (w.heap.size + 1) 3 (.int .i64 0):=(hB1.block _ (by have:=HSZ.out;omega)).trans bR
    have cR:=bR1.cell
    have fR:=bR1.frozen
    have h1' : 1 ≤ 5 - 1 - 1:=by omega
    have hxl : ((x.1 : Nat) : Int) < 9223372036854775807:=by have:=x.2;omega
    have hx0 : (0 : Int) ≤ ((x.1 : Nat) : Int):=Int.natCast_nonneg _
    rcases BO (rc l x.1).page page with ⟨e1,b1,c1⟩ | ⟨e1,b1,c1⟩
    · cases he : Cx (rc l x.1).kind
      · have HE:=As he
        clear he
        rcases BO (rc l x.1).kind 3 with ⟨e3,b3,c3⟩ | ⟨e3,b3,c3⟩
        · gi_wp2_with (refine ⟨trivial,?_⟩;gi_at_call 105;refine (CallsIn.inRound lp (callsIn_wide.2 (EX (r:=rc l x.1) HE.out _))).mono ?_;rintro e w1 ⟨rfl,hb1⟩;have cR1:=CB hb1 cR;have fR1:=(hb1.frozen (p:=⟨w.heap.size + 1,0,none⟩) (World.block_lt_of_cell? _ _ cR)).trans fR;obtain ⟨y0,y1,y2,y3,y4,y5,y6,y7⟩:=FZ.up ⟨g0,g1,g2,g3,g4,g5,g6,g7⟩ hb1)
          refine ⟨(E5 hb1).trans ((KeepsOthers.setCell _ _ _).from _),⟨⟨rfl,pre,x,rfl,hp,by simp [KJ,b1,HE.out,b3]⟩,x,by simp,?_⟩,((hB0.trans (hB1.mono hB0.size)).trans (hb1.mono ((hB0.trans (hB1.mono hB0.size)).size))).setCell (p:=⟨w.heap.size + 1,0,none⟩) (by simp) _⟩
          exact (show Boxed w1 (w.heap.size + 1) 3 (.int .i64 0) from (hb1.block _ bR1.lt).trans bR1).set _
        · gi_wp2_with (refine ⟨trivial,?_⟩;gi_at_call 105;refine (CallsIn.inRound lp (callsIn_wide.2 (EX (r:=rc l x.1) HE.out _))).mono ?_;rintro e w1 ⟨rfl,hb1⟩;have cR1:=CB hb1 cR;have fR1:=(hb1.frozen (p:=⟨w.heap.size + 1,0,none⟩) (World.block_lt_of_cell? _ _ cR)).trans fR;obtain ⟨y0,y1,y2,y3,y4,y5,y6,y7⟩:=FZ.up ⟨g0,g1,g2,g3,g4,g5,g6,g7⟩ hb1)
          exact ⟨E5 hb1,hb1.mono hB1.size,by first | exact fun z hz => (List.mem_append.1 hz).elim (hp z) (fun e => by have e2:=List.mem_singleton.1 e;rw [e2];simp [KJ,HE.out,b3]) | exact fun z hzl hz => (List.mem_append.1 hz).elim (hp ⟨z,hzl⟩) (fun e => by have e2:=List.mem_singleton.1 e;have e3 : z = x.1:=congrArg Subtype.val e2;rw [e3];simp [KJ,HE.out,b3]),hB1.trans (hb1.mono hB1.size)⟩
      · have HE:=As he
        clear he
        gi_wp2_with (refine ⟨trivial,?_⟩;gi_at_call 105;refine (CallsIn.inRound lp (callsIn_wide.2 (EX (r:=rc l x.1) HE.out _))).mono ?_;rintro e w1 ⟨rfl,hb1⟩;have cR1:=CB hb1 cR;have fR1:=(hb1.frozen (p:=⟨w.heap.size + 1,0,none⟩) (World.block_lt_of_cell? _ _ cR)).trans fR;obtain ⟨y0,y1,y2,y3,y4,y5,y6,y7⟩:=FZ.up ⟨g0,g1,g2,g3,g4,g5,g6,g7⟩ hb1)
        refine ⟨(E5 hb1).trans ((KeepsOthers.setCell _ _ _).from _),⟨⟨rfl,pre,x,rfl,hp,by simp [KJ,b1,HE.out]⟩,x,by simp,?_⟩,((hB0.trans (hB1.mono hB0.size)).trans (hb1.mono ((hB0.trans (hB1.mono hB0.size)).size))).setCell (p:=⟨w.heap.size + 1,0,none⟩) (by simp) _⟩
        exact (show Boxed w1 (w.heap.size + 1) 3 (.int .i64 0) from (hb1.block _ bR1.lt).trans bR1).set _
    · gi_wp2
      refine ⟨trivial,?_⟩
      gi_wp2
      exact ⟨KeepsFrom.refl _ _,Below.refl _ _,by first | exact fun z hz => (List.mem_append.1 hz).elim (hp z) (fun e => by have e2:=List.mem_singleton.1 e;rw [e2];simp [KJ,b1]) | exact fun z hzl hz => (List.mem_append.1 hz).elim (hp ⟨z,hzl⟩) (fun e => by have e2:=List.mem_singleton.1 e;have e3 : z = x.1:=congrArg Subtype.val e2;rw [e3];simp [KJ,b1]),hB1⟩
  case done =>
    rintro D xs W hD hS ⟨hp,hB1⟩ hK
    have bR1 : Boxed W (w.heap.size + 1) 3 (.int .i64 0):=(hB1.block _ (by have:=HSZ.out;omega)).trans bR
    have cR:=bR1.cell
    have fR:=bR1.frozen
    gi_wp2
    have hK':=(KeepsOthers.setCell W ⟨w.heap.size + 1,0,none⟩ (.int .i64 0)).same D _ hK rfl
    refine ⟨by simp, .inl ⟨_,_,rfl,run_takeDeferred hK',?_⟩⟩
    have hc5:=cell_kept (bR1.set (.int .i64 0)).cell (grownBy_putObj' _ D (.deferred none)) (fun r e => by cases e;exact ⟨_,hK',rfl⟩)
    refine ⟨.int .i64 0,?_,?_,((hB0.trans (hB1.mono hB0.size)).setCell (p:=⟨w.heap.size + 1,0,none⟩) (by simp) _).trans (belowK_b (w:=w) (Nat.le_refl _) _ D _ _ (by have:=HSZ.out;omega) hK' rfl rfl)⟩
    · simp [results,Tryz.f138,go_sem,hc5]
    · refine Cs ?_
      have:=IK (l:=l) (page:=page) (Nat.le_refl _) (fun y hy => by
        rw [← hS] at hy
        obtain ⟨z,hz,rfl⟩:=List.mem_map.1 hy
        exact hp z hz)
      rw [this,Nat.sub_self]
      rfl
  case stop =>
    rintro D cc pre W hD ⟨k,hk,hpk⟩ ⟨⟨⟨rfl,pre0,x,rfl,hp,hx⟩,x',hl',bR1⟩,hB1⟩ hK
    obtain rfl : x = x':=by simpa using hl'
    gi_wp2
    refine ⟨by simp, .inl ⟨_,_,rfl,run_takeDeferred hK,?_⟩⟩
    have hc5:=cell_kept bR1.cell (grownBy_putObj' _ D (.deferred none)) (fun r e => by cases e;exact ⟨_,hK,rfl⟩)
    refine ⟨.int .i64 ((x.1 : Int) + 1),?_,?_,hB1.trans (belowK_b (w:=w) (Nat.le_refl _) W D _ _ (by have:=HSZ.out;omega) hK rfl rfl)⟩
    · simp [results,Tryz.f138,go_sem,hc5]
    · refine Cs ?_
      rw [List.map_append,List.map_cons,List.map_nil] at hpk
      have hkl : k = pre0.length + 1:=by
        have:=congrArg List.length hpk
        rw [Fs] at this
        simp at this
        omega
      subst hkl
      rw [FR] at hpk
      obtain ⟨h2,h3⟩:=List.append_inj hpk (by simp [Fs])
      have hx2 : x.1 = l.length - 1 - pre0.length:=by simpa using h3
      have:=IK (l:=l) (page:=page) (n:=l.length) (k:=pre0.length) (by omega) (fun y hy => by
        rw [← h2] at hy
        obtain ⟨z,hz,rfl⟩:=List.mem_map.1 hy
        exact hp z hz)
      rw [this,show l.length - pre0.length = x.1 + 1 by have:=x.2;omega,R6 hx]
      simp
end Go.Proofs.YtpjmlpmhgfghbaaGreat
/- Logs: spec.LogOk. -/
namespace Go.Proofs.YtpjmlpmhgfghbaaGreat
open Go.RowKit Go.Proofs.YtpjmlpmhgfghbaaGreatW.PrintWords Go.Proofs.YtpjmlpmhgfghbaaGreatW.PrintLast Go.Proofs.YtpjmlpmhgfghbaaGreatW.PrintMore
set_option maxHeartbeats 16000000 in
set_option maxRecDepth 100000 in
theorem Es {r : Rec} {b : Bool} (h : CS r = b) (w : World) : Calls Tryz.prog 132 #[r.val] w fun e w' => e = .returned (.bool b) ∧ Below w.heap.size w w':=by
  have H:=As h
  clear h
  obtain ⟨m,hm⟩ : ∃ m : Int,(if r.slot = -1 then 3 else 9) = m:=⟨_,rfl⟩
  have HM:=As hm
  clear hm
  rcases BO r.slot (-1) with ⟨s1,t1,u1⟩ | ⟨s1,t1,u1⟩
  · obtain rfl : 3 = m:=by rw [← HM.out,if_pos s1.out]
    rcases BO r.kind 1 with ⟨e1,b1,c1⟩ | ⟨e1,b1,c1⟩
    · go_enter Tryz.func132,Tryz.ntmps132
      go_wp2
      go_quiet ((go_at_call 77;exact Calls.quiet_of_same (Ei _ _ _ _)))
      go_wp2_with (first | (go_at_call 77;refine (Cc _ _ _ _).mono ?_;rintro e w' ⟨rfl,rfl⟩) | (go_at_call 156;refine (Bv _ _).mono ?_;rintro e w' ⟨rfl,rfl⟩) | (go_at_call 173;refine (C8 _ _).mono ?_;rintro e w' ⟨rfl,rfl⟩))
      all_goals (go_ret;exact ⟨AB (by rw [← H.out];simp [CS,HM.out, *,e1.out]),BG ((Below.refl _ _).alloc (Nat.le_refl _) _) _⟩)
    · skip
      rcases BO r.kind 2 with ⟨e2,b2,c2⟩ | ⟨e2,b2,c2⟩
      · go_enter Tryz.func132,Tryz.ntmps132
        go_wp2
        go_quiet ((go_at_call 77;exact Calls.quiet_of_same (Ei _ _ _ _)))
        go_wp2_with (first | (go_at_call 77;refine (Cc _ _ _ _).mono ?_;rintro e w' ⟨rfl,rfl⟩) | (go_at_call 156;refine (Bv _ _).mono ?_;rintro e w' ⟨rfl,rfl⟩) | (go_at_call 173;refine (C8 _ _).mono ?_;rintro e w' ⟨rfl,rfl⟩))
        all_goals (go_ret;exact ⟨AB (by rw [← H.out];simp [CS,HM.out, *,e2.out]),BG ((Below.refl _ _).alloc (Nat.le_refl _) _) _⟩)
      · skip
        rcases BO r.kind 3 with ⟨e3,b3,c3⟩ | ⟨e3,b3,c3⟩
        · go_enter Tryz.func132,Tryz.ntmps132
          go_wp2
          go_quiet ((go_at_call 77;exact Calls.quiet_of_same (Ei _ _ _ _)))
          go_wp2_with (first | (go_at_call 77;refine (Cc _ _ _ _).mono ?_;rintro e w' ⟨rfl,rfl⟩) | (go_at_call 156;refine (Bv _ _).mono ?_;rintro e w' ⟨rfl,rfl⟩) | (go_at_call 173;refine (C8 _ _).mono ?_;rintro e w' ⟨rfl,rfl⟩))
          all_goals (go_ret;exact ⟨AB (by rw [← H.out];simp [CS,HM.out, *,e3.out]),BG ((Below.refl _ _).alloc (Nat.le_refl _) _) _⟩)
        · skip
          rcases BO r.kind 4 with ⟨e4,b4,c4⟩ | ⟨e4,b4,c4⟩
          · go_enter Tryz.func132,Tryz.ntmps132
            go_wp2
            go_quiet ((go_at_call 77;exact Calls.quiet_of_same (Ei _ _ _ _)))
            go_wp2_with (first | (go_at_call 77;refine (Cc _ _ _ _).mono ?_;rintro e w' ⟨rfl,rfl⟩) | (go_at_call 156;refine (Bv _ _).mono ?_;rintro e w' ⟨rfl,rfl⟩) | (go_at_call 173;refine (C8 _ _).mono ?_;rintro e w' ⟨rfl,rfl⟩))
            all_goals (go_ret;exact ⟨AB (by rw [← H.out];simp [CS,HM.out, *,e4.out]),BG ((Below.refl _ _).alloc (Nat.le_refl _) _) _⟩)
          · skip
            rcases BO r.kind 5 with ⟨e5,b5,c5⟩ | ⟨e5,b5,c5⟩
            · go_enter Tryz.func132,Tryz.ntmps132
              go_wp2
              go_quiet ((go_at_call 77;exact Calls.quiet_of_same (Ei _ _ _ _)))
              go_wp2_with (first | (go_at_call 77;refine (Cc _ _ _ _).mono ?_;rintro e w' ⟨rfl,rfl⟩) | (go_at_call 156;refine (Bv _ _).mono ?_;rintro e w' ⟨rfl,rfl⟩) | (go_at_call 173;refine (C8 _ _).mono ?_;rintro e w' ⟨rfl,rfl⟩))
              all_goals (go_ret;exact ⟨AB (by rw [← H.out];simp [CS,HM.out, *,e5.out]),BG ((Below.refl _ _).alloc (Nat.le_refl _) _) _⟩)
            · skip
              rcases BO r.kind 6 with ⟨e6,b6,c6⟩ | ⟨e6,b6,c6⟩
              · go_enter Tryz.func132,Tryz.ntmps132
                go_wp2
                go_quiet ((go_at_call 77;exact Calls.quiet_of_same (Ei _ _ _ _)))
                go_wp2_with (first | (go_at_call 77;refine (Cc _ _ _ _).mono ?_;rintro e w' ⟨rfl,rfl⟩) | (go_at_call 156;refine (Bv _ _).mono ?_;rintro e w' ⟨rfl,rfl⟩) | (go_at_call 173;refine (C8 _ _).mono ?_;rintro e w' ⟨rfl,rfl⟩))
                all_goals (go_ret;exact ⟨AB (by rw [← H.out];simp [CS,HM.out, *,e6.out]),BG ((Below.refl _ _).alloc (Nat.le_refl _) _) _⟩)
              · go_enter Tryz.func132,Tryz.ntmps132
                go_wp2
                go_quiet ((go_at_call 77;exact Calls.quiet_of_same (Ei _ _ _ _)))
                go_wp2_with (first | (go_at_call 77;refine (Cc _ _ _ _).mono ?_;rintro e w' ⟨rfl,rfl⟩) | (go_at_call 156;refine (Bv _ _).mono ?_;rintro e w' ⟨rfl,rfl⟩) | (go_at_call 173;refine (C8 _ _).mono ?_;rintro e w' ⟨rfl,rfl⟩))
                all_goals (go_ret;exact ⟨AB (by rw [← H.out];simp [CS,HM.out, *,e1.out,e2.out,e3.out,e4.out,e5.out,e6.out]),BG ((Below.refl _ _).alloc (Nat.le_refl _) _) _⟩)
  · obtain rfl : 9 = m:=by rw [← HM.out,if_neg s1.out]
    rcases BO r.kind 1 with ⟨e1,b1,c1⟩ | ⟨e1,b1,c1⟩
    · go_enter Tryz.func132,Tryz.ntmps132
      go_wp2
      go_quiet ((go_at_call 77;exact Calls.quiet_of_same (Ei _ _ _ _)))
      go_wp2_with (first | (go_at_call 77;refine (Cc _ _ _ _).mono ?_;rintro e w' ⟨rfl,rfl⟩) | (go_at_call 156;refine (Bv _ _).mono ?_;rintro e w' ⟨rfl,rfl⟩) | (go_at_call 173;refine (C8 _ _).mono ?_;rintro e w' ⟨rfl,rfl⟩))
      all_goals (go_ret;exact ⟨AB (by rw [← H.out];simp [CS,HM.out, *,e1.out]),BG ((Below.refl _ _).alloc (Nat.le_refl _) _) _⟩)
    · skip
      rcases BO r.kind 2 with ⟨e2,b2,c2⟩ | ⟨e2,b2,c2⟩
      · go_enter Tryz.func132,Tryz.ntmps132
        go_wp2
        go_quiet ((go_at_call 77;exact Calls.quiet_of_same (Ei _ _ _ _)))
        go_wp2_with (first | (go_at_call 77;refine (Cc _ _ _ _).mono ?_;rintro e w' ⟨rfl,rfl⟩) | (go_at_call 156;refine (Bv _ _).mono ?_;rintro e w' ⟨rfl,rfl⟩) | (go_at_call 173;refine (C8 _ _).mono ?_;rintro e w' ⟨rfl,rfl⟩))
        all_goals (go_ret;exact ⟨AB (by rw [← H.out];simp [CS,HM.out, *,e2.out]),BG ((Below.refl _ _).alloc (Nat.le_refl _) _) _⟩)
      · skip
        rcases BO r.kind 3 with ⟨e3,b3,c3⟩ | ⟨e3,b3,c3⟩
        · go_enter Tryz.func132,Tryz.ntmps132
          go_wp2
          go_quiet ((go_at_call 77;exact Calls.quiet_of_same (Ei _ _ _ _)))
          go_wp2_with (first | (go_at_call 77;refine (Cc _ _ _ _).mono ?_;rintro e w' ⟨rfl,rfl⟩) | (go_at_call 156;refine (Bv _ _).mono ?_;rintro e w' ⟨rfl,rfl⟩) | (go_at_call 173;refine (C8 _ _).mono ?_;rintro e w' ⟨rfl,rfl⟩))
          all_goals (go_ret;exact ⟨AB (by rw [← H.out];simp [CS,HM.out, *,e3.out]),BG ((Below.refl _ _).alloc (Nat.le_refl _) _) _⟩)
        · skip
          rcases BO r.kind 4 with ⟨e4,b4,c4⟩ | ⟨e4,b4,c4⟩
          · go_enter Tryz.func132,Tryz.ntmps132
            go_wp2
            go_quiet ((go_at_call 77;exact Calls.quiet_of_same (Ei _ _ _ _)))
            go_wp2_with (first | (go_at_call 77;refine (Cc _ _ _ _).mono ?_;rintro e w' ⟨rfl,rfl⟩) | (go_at_call 156;refine (Bv _ _).mono ?_;rintro e w' ⟨rfl,rfl⟩) | (go_at_call 173;refine (C8 _ _).mono ?_;rintro e w' ⟨rfl,rfl⟩))
            all_goals (go_ret;exact ⟨AB (by rw [← H.out];simp [CS,HM.out, *,e4.out]),BG ((Below.refl _ _).alloc (Nat.le_refl _) _) _⟩)
          · skip
            rcases BO r.kind 5 with ⟨e5,b5,c5⟩ | ⟨e5,b5,c5⟩
            · go_enter Tryz.func132,Tryz.ntmps132
              go_wp2
              go_quiet ((go_at_call 77;exact Calls.quiet_of_same (Ei _ _ _ _)))
              go_wp2_with (first | (go_at_call 77;refine (Cc _ _ _ _).mono ?_;rintro e w' ⟨rfl,rfl⟩) | (go_at_call 156;refine (Bv _ _).mono ?_;rintro e w' ⟨rfl,rfl⟩) | (go_at_call 173;refine (C8 _ _).mono ?_;rintro e w' ⟨rfl,rfl⟩))
              all_goals (go_ret;exact ⟨AB (by rw [← H.out];simp [CS,HM.out, *,e5.out]),BG ((Below.refl _ _).alloc (Nat.le_refl _) _) _⟩)
            · skip
              rcases BO r.kind 6 with ⟨e6,b6,c6⟩ | ⟨e6,b6,c6⟩
              · go_enter Tryz.func132,Tryz.ntmps132
                go_wp2
                go_quiet ((go_at_call 77;exact Calls.quiet_of_same (Ei _ _ _ _)))
                go_wp2_with (first | (go_at_call 77;refine (Cc _ _ _ _).mono ?_;rintro e w' ⟨rfl,rfl⟩) | (go_at_call 156;refine (Bv _ _).mono ?_;rintro e w' ⟨rfl,rfl⟩) | (go_at_call 173;refine (C8 _ _).mono ?_;rintro e w' ⟨rfl,rfl⟩))
                all_goals (go_ret;exact ⟨AB (by rw [← H.out];simp [CS,HM.out, *,e6.out]),BG ((Below.refl _ _).alloc (Nat.le_refl _) _) _⟩)
              · go_enter Tryz.func132,Tryz.ntmps132
                go_wp2
                go_quiet ((go_at_call 77;exact Calls.quiet_of_same (Ei _ _ _ _)))
                go_wp2_with (first | (go_at_call 77;refine (Cc _ _ _ _).mono ?_;rintro e w' ⟨rfl,rfl⟩) | (go_at_call 156;refine (Bv _ _).mono ?_;rintro e w' ⟨rfl,rfl⟩) | (go_at_call 173;refine (C8 _ _).mono ?_;rintro e w' ⟨rfl,rfl⟩))
                all_goals (go_ret;exact ⟨AB (by rw [← H.out];simp [CS,HM.out, *,e1.out,e2.out,e3.out,e4.out,e5.out,e6.out]),BG ((Below.refl _ _).alloc (Nat.le_refl _) _) _⟩)
/-- The last numbers of all transactions behind k records, in an array. -/
structure Y5 (W : World) (B : Nat) (l : List Rec) (k : Nat) : Prop where
  out : ∃ x1 x2 x3 : Int,W.heap[B]? = some (.cells #[.int .i64 0, .int .i64 x1, .int .i64 x2, .int .i64 x3] 130 (0,0)) ∧ x1 = Aj l 1 k ∧ x2 = Aj l 2 k ∧ x3 = Aj l 3 k
theorem Vt {W : World} {B k : Nat} {l : List Rec} {x1 x2 x3 tx : Int} {T : TypeId} (h : W.heap[B]? = some (.cells #[.int .i64 0, .int .i64 x1, .int .i64 x2, .int .i64 x3] T (0,0))) (hx : x1 = Aj l 1 k ∧ x2 = Aj l 2 k ∧ x3 = Aj l 3 k) (h1 : 1 ≤ tx) (h3 : tx ≤ 3) : W.cell? ⟨B,tx.toNat,none⟩ = some (.int .i64 (Aj l tx k)):=by
  obtain ⟨rfl,rfl,rfl⟩:=hx
  have e : tx = 1 ∨ tx = 2 ∨ tx = 3:=by omega
  rcases e with rfl | rfl | rfl <;> simp [World.cell?,h]
theorem LG {W : World} {B : Nat} {x1 x2 x3 tx v : Int} {T : TypeId} (h : W.heap[B]? = some (.cells #[.int .i64 0, .int .i64 x1, .int .i64 x2, .int .i64 x3] T (0,0))) (h1 : 1 ≤ tx) (h3 : tx ≤ 3) :
    (W.setCell ⟨B,tx.toNat,none⟩ (.int .i64 v)).heap[B]? = some (.cells #[.int .i64 0, .int .i64 (if tx = 1 then v else x1), .int .i64 (if tx = 2 then v else x2), .int .i64 (if tx = 3 then v else x3)] T (0,0)):=by
  have:=TP h tx.toNat (.int .i64 v)
  rw [this]
  have e : tx = 1 ∨ tx = 2 ∨ tx = 3:=by omega
  rcases e with rfl | rfl | rfl <;> simp
theorem PX {W : World} {B : Nat} {x1 x2 x3 tx : Int} {T : TypeId} (h : W.heap[B]? = some (.cells #[.int .i64 0, .int .i64 x1, .int .i64 x2, .int .i64 x3] T (0,0))) (h1 : 1 ≤ tx) (h3 : tx ≤ 3) : ∃ y,W.cell? ⟨B,tx.toNat,none⟩ = some (.int .i64 y):=by
  have e : tx = 1 ∨ tx = 2 ∨ tx = 3:=by omega
  rcases e with rfl | rfl | rfl <;> simp [World.cell?,h]
theorem Rf {W : World} {B B' j o : Nat} {v u : Value} (hne : B ≠ B') (h : W.cell? ⟨B',o,none⟩ = some u) : (W.setCell ⟨B,j,none⟩ v).cell? ⟨B',o,none⟩ = some u:=by
  rw [World.cell?_setCell_far _ _ _ _ (by simp;exact fun e => hne e)]
  exact h
theorem NQ {l : List Rec} {k : Nat} {tx t x : Int} (e : (rc l k).tx = tx) (h : x = Aj l t k) : (if tx = t then (if ED (rc l k).kind = true then 0 else (k : Int) + 1) else x) = Aj l t (k + 1):=by
  subst e
  unfold Aj
  split
  · split <;> simp
  · exact h
theorem FO {l : List Rec} {k : Nat} {t x : Int} (he : ED (rc l k).kind = false) (h : x = Aj l t k) : (if (rc l k).tx = t then (k : Int) + 1 else x) = Aj l t (k + 1):=by
  have:=NQ (t:=t) rfl h
  rwa [he,if_neg (by simp : ¬ false = true)] at this
theorem Gv {l : List Rec} {k : Nat} {t x : Int} (he : ED (rc l k).kind = true) (h : x = Aj l t k) : (if (rc l k).tx = t then 0 else (if (rc l k).tx = t then (k : Int) + 1 else x)) = Aj l t (k + 1):=by
  have:=NQ (t:=t) rfl h
  rw [he,if_pos rfl] at this
  rw [← this]
  split <;> rfl
set_option maxHeartbeats 16000000 in
theorem G6 {w0 w : World} {A : Option Addr} {c : Nat} {l : List Rec} {b : Bool} (hv : AP l = b) (hb : Below w0.heap.size w0 w) (hr : Kd.C Ca w0 A l.length l) : Calls Tryz.prog 76 #[.slice A l.length c] w fun e w' => e = .returned (.bool b) ∧ Below w.heap.size w w':=by
  have HR:=As hr
  have HB:=As hb
  have HV:=As hv
  clear hr hb hv
  by_cases hlen : l.length ≤ 150
  · go_enter Tryz.func76,Tryz.ntmps76
    go_wp2
    have HLEN:=As hlen
    go_loopw [11] (fun i wr => ∃ k : Nat,k ≤ l.length ∧ i = .int .i64 (k : Int) ∧ Ac (Ef l k = true) ∧ Ac (Y5 wr w.heap.size l k) ∧ Ac (Below w.heap.size w wr)) (fun i _ => (l.length - (intOf i)).toNat)
    case atStart => exact ⟨0,Nat.zero_le _,rfl,⟨rfl⟩,⟨⟨0,0,0,blk_new _ _,rfl,rfl,rfl⟩⟩,⟨(Below.refl _ _).alloc (Nat.le_refl _) _⟩⟩
    case round =>
      obtain ⟨k,hk,rfl,HL,HA,HW⟩:=hrel
      by_cases hlt : k < l.length
      · obtain ⟨ad,rfl,QR⟩:=Ce HR.out k hlt
        have HW0:=As (bj HB.out HW.out)
        obtain ⟨g0,g1,g2,g3,g4,g5,g6,g7⟩:=QR.up HW0.out
        have p0 : (0 : Int) ≤ (k : Int):=Int.natCast_nonneg _
        have p1 : (k : Int) < (l.length : Int):=by omega
        obtain ⟨x1,x2,x3,hA,hx1,hx2,hx3⟩:=HA.out.out
        have HF:=As (fun h => Lg (n:=l.length) (show atOk l k = false from h) hlt)
        have HA2:=As hA
        have HX:=As (And.intro hx1 (And.intro hx2 hx3))
        clear hA hx1 hx2 hx3
        go_wp2
        refine Ry (fun w2 hb2 Q2 => ?_)
        have hA3:=(hb2.block w.heap.size (Array.getElem?_eq_some_iff.1 HA2.out).1).trans HA2.out
        cases h1 : CS (rc l k)
        · have K1:=As h1
          clear h1
          refine Bo (fun w' => Below w2.heap.size w2 w') rfl rfl (by kernel_rfl) (Ak (Below.refl _ _)) (fun HT => ?_)
          repeat (first
            | (refine BU (fun wx hS => ?_))
            | ((with_reducible refine Bw (f:=132) rfl ?_);refine Bz (v:=.bool false) (args:=#[(rc l k).val]) HT rfl Tryz.func132 (by kernel_rfl) rfl rfl (by rfl) (fun _ _ _ h => h) (by simp only [List.map_toArray,List.map_cons,List.map_nil];rfl) (fun wx hS => (Es (r:=rc l k) K1.out _).mono fun e w1 h => ⟨h.1,bj hS h.2⟩) ?_;simp only [sc0,sc1])
            | (refine BK HT rfl (by rfl) (fun _ _ _ h => h) ?_;simp only [sc0,sc1])
            | (refine BS (v:=?_) HT rfl (by rfl) (fun _ _ _ h => h) (fun wx hS => ?_) ?_;rotate_left;(obtain ⟨z0,z1,z2,z3,z4,z5,z6,z7⟩:=Q2.up hS;go_simp;with_reducible rfl);rotate_left;simp only [sc0,sc1]))
          go_wp2
          go_ret
          exact ⟨AB (by rw [← HV.out];simp [AP,HF.out (by simp [atOk,K1.out])]),(HW.out.trans (hb2.mono HW.out.size)).trans (hS.mono ((HW.out.trans (hb2.mono HW.out.size)).size))⟩
        · have K1:=As h1
          clear h1
          have htx:=Qu K1.out
          have t1:=htx.1
          have t3 : (rc l k).tx < 4:=by omega
          have t0 : 0 ≤ (rc l k).tx:=by omega
          have hAt:=HA2.out
          replace hAt : w2.cell? ⟨w.heap.size,(rc l k).tx.toNat,none⟩ = some (.int .i64 (Aj l (rc l k).tx k)):=Vt hA3 HX.out htx.1 htx.2.1
          clear htx
          rcases BO (rc l k).prev (Aj l (rc l k).tx k) with ⟨e2,b2,c2⟩ | ⟨e2,b2,c2⟩
          · rcases lts (k : Int) (rc l k).next with ⟨e3,b3,c3⟩ | ⟨e3,b3,c3⟩
            · refine Bo (fun w' => Below w2.heap.size w2 w') rfl rfl (by kernel_rfl) (Ak (Below.refl _ _)) (fun HT => ?_)
              repeat (first
                | (refine BU (fun wx hS => ?_))
                | ((with_reducible refine Bw (f:=132) rfl ?_);refine Bz (v:=.bool true) (args:=#[(rc l k).val]) HT rfl Tryz.func132 (by kernel_rfl) rfl rfl (by rfl) (fun _ _ _ h => h) (by simp only [List.map_toArray,List.map_cons,List.map_nil];rfl) (fun wx hS => (Es (r:=rc l k) K1.out _).mono fun e w1 h => ⟨h.1,bj hS h.2⟩) ?_;simp only [sc0,sc1])
                | (refine BK HT rfl (by rfl) (fun _ _ _ h => h) ?_;simp only [sc0,sc1])
                | (refine BS (v:=?_) HT rfl (by rfl) (fun _ _ _ h => h) (fun wx hS => ?_) ?_;rotate_left;(obtain ⟨z0,z1,z2,z3,z4,z5,z6,z7⟩:=Q2.up hS;have zA:=bc hS hAt;go_simp;with_reducible rfl);rotate_left;simp only [sc0,sc1]))
              go_wp2
              go_ret
              exact ⟨AB (by rw [← HV.out];simp [AP,HF.out (by simp [atOk,c3])]),(HW.out.trans (hb2.mono HW.out.size)).trans (hS.mono ((HW.out.trans (hb2.mono HW.out.size)).size))⟩
            · rcases lts 0 (rc l k).next with ⟨e4,b4,c4⟩ | ⟨e4,b4,c4⟩
              · obtain ⟨j,hj⟩ : ∃ j : Nat,(rc l k).next - 1 = j:=⟨((rc l k).next - 1).toNat,by have:=e4.out;omega⟩
                have hj2 : (rc l k).next.toNat - 1 = j:=by have:=e4.out;omega
                have hjl : j < l.length:=by have:=e4.out;have:=e3.out;omega
                obtain ⟨ad',ea,QJ⟩:=Ce HR.out j hjl
                obtain rfl:=Option.some.inj ea
                have s0 : IntKind.i64.wrap ((rc l k).next - 1) = (j : Int):=by rw [hj];exact IntWalk.i64_in _ (by omega)
                have s1 : (0 : Int) ≤ (j : Int):=Int.natCast_nonneg _
                have s2 : (j : Int) < (l.length : Int):=by omega
                have J2:=As hj2
                have QJ2:=(QJ.up HW0.out).up hb2
                clear hj hj2 ea
                rcases BO (rc l j).tx (rc l k).tx with ⟨e5,b5,c5⟩ | ⟨e5,b5,c5⟩
                · refine Bo (fun w' => Below w2.heap.size w2 w') rfl rfl (by kernel_rfl) (Ak (Below.refl _ _)) (fun HT => ?_)
                  repeat (first
                    | (refine BU (fun wx hS => ?_))
                    | ((with_reducible refine Bw (f:=132) rfl ?_);refine Bz (v:=.bool true) (args:=#[(rc l k).val]) HT rfl Tryz.func132 (by kernel_rfl) rfl rfl (by rfl) (fun _ _ _ h => h) (by simp only [List.map_toArray,List.map_cons,List.map_nil];rfl) (fun wx hS => (Es (r:=rc l k) K1.out _).mono fun e w1 h => ⟨h.1,bj hS h.2⟩) ?_;simp only [sc0,sc1])
                    | (refine BK HT rfl (by rfl) (fun _ _ _ h => h) ?_;simp only [sc0,sc1])
                    | (refine BS (v:=?_) HT rfl (by rfl) (fun _ _ _ h => h) (fun wx hS => ?_) ?_;rotate_left;(obtain ⟨z0,z1,z2,z3,z4,z5,z6,z7⟩:=Q2.up hS;obtain ⟨y0,y1,y2,y3,y4,y5,y6,y7⟩:=QJ2.up hS;have zA:=bc hS hAt;go_simp;with_reducible rfl);rotate_left;simp only [sc0,sc1]))
                  have HBX:=As ((HW.out.trans (hb2.mono HW.out.size)).trans (hS.mono ((HW.out.trans (hb2.mono HW.out.size)).size)))
                  have hA4:=(hS.block w.heap.size (Array.getElem?_eq_some_iff.1 hA3).1).trans hA3
                  have HA5:=As (LG (v:=(k : Int) + 1) hA4 t1 (by omega : (rc l k).tx ≤ 3))
                  obtain ⟨yA,hyA⟩:=PX hA4 t1 (by omega : (rc l k).tx ≤ 3)
                  have hfA:=FT hA4 (rc l k).tx.toNat
                  obtain ⟨z0,z1,z2,z3,z4,z5,z6,z7⟩:=Q2.up hS
                  have HNE:=As (show w.heap.size ≠ wr.heap.size by have:=HW.out.size;have:=(Array.getElem?_eq_some_iff.1 HA2.out).1;omega)
                  have hne:=HNE.out
                  have HAT:=As (show atOk l k = true by simp [atOk,K1.out,b2,c3,J2.out,b5])
                  clear s0 s1 s2 QJ QJ2 hA4 hA3 hAt Q2 QR g0 g1 g2 g3 g4 g5 g6 g7
                  cases he : ED (rc l k).kind
                  · have HE:=As he
                    clear he
                    go_wp2_with (go_at_call 133;refine (LB (r:=rc l k) HE.out _).mono ?_;rintro e w3 ⟨rfl,hb3⟩;have HA6:=As ((hb3.block w.heap.size (by have:=(Array.getElem?_eq_some_iff.1 HA5.out).1;exact this)).trans HA5.out);have HB3:=As hb3;clear hb3)
                    go_roundw
                    case rel => exact ⟨k + 1,by omega,by go_num,⟨by rw [Ef,HL.out,HAT.out];rfl⟩,⟨⟨_,_,_,HA6.out,FO HE.out HX.out.1,FO HE.out HX.out.2.1,FO HE.out HX.out.2.2⟩⟩,⟨(HBX.out.setCell (p:=⟨w.heap.size,_,none⟩) (Nat.le_refl _) _).trans (HB3.out.mono (by rw [World.size_setCell];exact HBX.out.size))⟩⟩
                    case measure => simp [intOf];omega
                  · have HE:=As he
                    clear he
                    go_wp2_with (go_at_call 133;refine (LB (r:=rc l k) HE.out _).mono ?_;rintro e w3 ⟨rfl,hb3⟩;have hA6:=(hb3.block w.heap.size (by have:=(Array.getElem?_eq_some_iff.1 HA5.out).1;exact this)).trans HA5.out;have HB3:=As hb3;obtain ⟨yB,hyB⟩:=PX hA6 t1 (by omega : (rc l k).tx ≤ 3);have hfB:=FT hA6 (rc l k).tx.toNat;have HA7:=As (LG (v:=0) hA6 t1 (by omega : (rc l k).tx ≤ 3));have y1:=CB hb3 (Rf HNE.out z1);clear hb3 hA6)
                    go_roundw
                    case rel => exact ⟨k + 1,by omega,by go_num,⟨by rw [Ef,HL.out,HAT.out];rfl⟩,⟨⟨_,_,_,HA7.out,Gv HE.out HX.out.1,Gv HE.out HX.out.2.1,Gv HE.out HX.out.2.2⟩⟩,⟨((HBX.out.setCell (p:=⟨w.heap.size,_,none⟩) (Nat.le_refl _) _).trans (HB3.out.mono (by rw [World.size_setCell];exact HBX.out.size))).setCell (p:=⟨w.heap.size,_,none⟩) (Nat.le_refl _) _⟩⟩
                    case measure => simp [intOf];omega
                · refine Bo (fun w' => Below w2.heap.size w2 w') rfl rfl (by kernel_rfl) (Ak (Below.refl _ _)) (fun HT => ?_)
                  repeat (first
                    | (refine BU (fun wx hS => ?_))
                    | ((with_reducible refine Bw (f:=132) rfl ?_);refine Bz (v:=.bool true) (args:=#[(rc l k).val]) HT rfl Tryz.func132 (by kernel_rfl) rfl rfl (by rfl) (fun _ _ _ h => h) (by simp only [List.map_toArray,List.map_cons,List.map_nil];rfl) (fun wx hS => (Es (r:=rc l k) K1.out _).mono fun e w1 h => ⟨h.1,bj hS h.2⟩) ?_;simp only [sc0,sc1])
                    | (refine BK HT rfl (by rfl) (fun _ _ _ h => h) ?_;simp only [sc0,sc1])
                    | (refine BS (v:=?_) HT rfl (by rfl) (fun _ _ _ h => h) (fun wx hS => ?_) ?_;rotate_left;(obtain ⟨z0,z1,z2,z3,z4,z5,z6,z7⟩:=Q2.up hS;obtain ⟨y0,y1,y2,y3,y4,y5,y6,y7⟩:=QJ2.up hS;have zA:=bc hS hAt;go_simp;with_reducible rfl);rotate_left;simp only [sc0,sc1]))
                  go_wp2
                  go_ret
                  exact ⟨AB (by rw [← HV.out];simp [AP,HF.out (by simp [atOk,J2.out,b5];intro _ _ _;exact e4.out)]),(HW.out.trans (hb2.mono HW.out.size)).trans (hS.mono ((HW.out.trans (hb2.mono HW.out.size)).size))⟩
              · refine Bo (fun w' => Below w2.heap.size w2 w') rfl rfl (by kernel_rfl) (Ak (Below.refl _ _)) (fun HT => ?_)
                repeat (first
                  | (refine BU (fun wx hS => ?_))
                  | ((with_reducible refine Bw (f:=132) rfl ?_);refine Bz (v:=.bool true) (args:=#[(rc l k).val]) HT rfl Tryz.func132 (by kernel_rfl) rfl rfl (by rfl) (fun _ _ _ h => h) (by simp only [List.map_toArray,List.map_cons,List.map_nil];rfl) (fun wx hS => (Es (r:=rc l k) K1.out _).mono fun e w1 h => ⟨h.1,bj hS h.2⟩) ?_;simp only [sc0,sc1])
                  | (refine BK HT rfl (by rfl) (fun _ _ _ h => h) ?_;simp only [sc0,sc1])
                  | (refine BS (v:=?_) HT rfl (by rfl) (fun _ _ _ h => h) (fun wx hS => ?_) ?_;rotate_left;(obtain ⟨z0,z1,z2,z3,z4,z5,z6,z7⟩:=Q2.up hS;have zA:=bc hS hAt;go_simp;with_reducible rfl);rotate_left;simp only [sc0,sc1]))
                have HBX:=As ((HW.out.trans (hb2.mono HW.out.size)).trans (hS.mono ((HW.out.trans (hb2.mono HW.out.size)).size)))
                have hA4:=(hS.block w.heap.size (Array.getElem?_eq_some_iff.1 hA3).1).trans hA3
                have HA5:=As (LG (v:=(k : Int) + 1) hA4 t1 (by omega : (rc l k).tx ≤ 3))
                obtain ⟨yA,hyA⟩:=PX hA4 t1 (by omega : (rc l k).tx ≤ 3)
                have hfA:=FT hA4 (rc l k).tx.toNat
                obtain ⟨z0,z1,z2,z3,z4,z5,z6,z7⟩:=Q2.up hS
                have HNE:=As (show w.heap.size ≠ wr.heap.size by have:=HW.out.size;have:=(Array.getElem?_eq_some_iff.1 HA2.out).1;omega)
                have hne:=HNE.out
                have HAT:=As (show atOk l k = true by simp [atOk,K1.out,b2,c3,c4])
                clear hA4 hA3 hAt Q2 QR g0 g1 g2 g3 g4 g5 g6 g7
                cases he : ED (rc l k).kind
                · have HE:=As he
                  clear he
                  go_wp2_with (go_at_call 133;refine (LB (r:=rc l k) HE.out _).mono ?_;rintro e w3 ⟨rfl,hb3⟩;have HA6:=As ((hb3.block w.heap.size (by have:=(Array.getElem?_eq_some_iff.1 HA5.out).1;exact this)).trans HA5.out);have HB3:=As hb3;clear hb3)
                  go_roundw
                  case rel => exact ⟨k + 1,by omega,by go_num,⟨by rw [Ef,HL.out,HAT.out];rfl⟩,⟨⟨_,_,_,HA6.out,FO HE.out HX.out.1,FO HE.out HX.out.2.1,FO HE.out HX.out.2.2⟩⟩,⟨(HBX.out.setCell (p:=⟨w.heap.size,_,none⟩) (Nat.le_refl _) _).trans (HB3.out.mono (by rw [World.size_setCell];exact HBX.out.size))⟩⟩
                  case measure => simp [intOf];omega
                · have HE:=As he
                  clear he
                  go_wp2_with (go_at_call 133;refine (LB (r:=rc l k) HE.out _).mono ?_;rintro e w3 ⟨rfl,hb3⟩;have hA6:=(hb3.block w.heap.size (by have:=(Array.getElem?_eq_some_iff.1 HA5.out).1;exact this)).trans HA5.out;have HB3:=As hb3;obtain ⟨yB,hyB⟩:=PX hA6 t1 (by omega : (rc l k).tx ≤ 3);have hfB:=FT hA6 (rc l k).tx.toNat;have HA7:=As (LG (v:=0) hA6 t1 (by omega : (rc l k).tx ≤ 3));have y1:=CB hb3 (Rf HNE.out z1);clear hb3 hA6)
                  go_roundw
                  case rel => exact ⟨k + 1,by omega,by go_num,⟨by rw [Ef,HL.out,HAT.out];rfl⟩,⟨⟨_,_,_,HA7.out,Gv HE.out HX.out.1,Gv HE.out HX.out.2.1,Gv HE.out HX.out.2.2⟩⟩,⟨((HBX.out.setCell (p:=⟨w.heap.size,_,none⟩) (Nat.le_refl _) _).trans (HB3.out.mono (by rw [World.size_setCell];exact HBX.out.size))).setCell (p:=⟨w.heap.size,_,none⟩) (Nat.le_refl _) _⟩⟩
                  case measure => simp [intOf];omega
          · refine Bo (fun w' => Below w2.heap.size w2 w') rfl rfl (by kernel_rfl) (Ak (Below.refl _ _)) (fun HT => ?_)
            repeat (first
              | (refine BU (fun wx hS => ?_))
              | ((with_reducible refine Bw (f:=132) rfl ?_);refine Bz (v:=.bool true) (args:=#[(rc l k).val]) HT rfl Tryz.func132 (by kernel_rfl) rfl rfl (by rfl) (fun _ _ _ h => h) (by simp only [List.map_toArray,List.map_cons,List.map_nil];rfl) (fun wx hS => (Es (r:=rc l k) K1.out _).mono fun e w1 h => ⟨h.1,bj hS h.2⟩) ?_;simp only [sc0,sc1])
              | (refine BK HT rfl (by rfl) (fun _ _ _ h => h) ?_;simp only [sc0,sc1])
              | (refine BS (v:=?_) HT rfl (by rfl) (fun _ _ _ h => h) (fun wx hS => ?_) ?_;rotate_left;(obtain ⟨z0,z1,z2,z3,z4,z5,z6,z7⟩:=Q2.up hS;have zA:=bc hS hAt;go_simp;with_reducible rfl);rotate_left;simp only [sc0,sc1]))
            go_outline
            go_wp2
            go_ret
            exact ⟨AB (by rw [← HV.out];simp [AP,HF.out (by simp [atOk,b2])]),(HW.out.trans (hb2.mono HW.out.size)).trans (hS.mono ((HW.out.trans (hb2.mono HW.out.size)).size))⟩
      · obtain rfl : k = l.length:=by omega
        go_wp2
        go_ret
        exact ⟨AB (by rw [← HV.out,AP,HL.out,decide_eq_true HLEN.out];rfl),HW.out⟩
  · go_enter Tryz.func76,Tryz.ntmps76
    go_wp2
    go_ret
    exact ⟨AB (by rw [← HV.out,AP,decide_eq_false hlen,Bool.and_false]),(Below.refl _ _).alloc (Nat.le_refl _) _⟩
/-- An engine as a value, its slices at hand. -/
abbrev Eng.ag (e : Eng) (vd vm vl : Value) : Value:=.agg #[vd,vm,vl, .int .i64 e.safe, .bool e.down]
/-- An engine's variable: block g is one, and holds these. -/
def Ai (w : World) (g : Nat) (e : Eng) (vd vm vl : Value) : Prop:=w.heap[g]? = some (.cells #[vd,vm,vl, .int .i64 e.safe, .bool e.down] 28 (0,0))
section
variable {w w1 : World} {g : Nat} {e : Eng} {vd vm vl : Value}
theorem Ai.c0 (h : Ai w g e vd vm vl) : w.cell? ⟨g,0,none⟩ = some vd:=by unfold Ai at h;simp [World.cell?,h]
theorem Ai.c1 (h : Ai w g e vd vm vl) : w.cell? ⟨g,1,none⟩ = some vm:=by unfold Ai at h;simp [World.cell?,h]
theorem Ai.c2 (h : Ai w g e vd vm vl) : w.cell? ⟨g,2,none⟩ = some vl:=by unfold Ai at h;simp [World.cell?,h]
theorem Ai.c3 (h : Ai w g e vd vm vl) : w.cell? ⟨g,3,none⟩ = some (.int .i64 e.safe):=by unfold Ai at h;simp [World.cell?,h]
theorem Ai.c4 (h : Ai w g e vd vm vl) : w.cell? ⟨g,4,none⟩ = some (.bool e.down):=by unfold Ai at h;simp [World.cell?,h]
theorem Ai.frz (h : Ai w g e vd vm vl) (k : Nat) : w.frozen? ⟨g,k,none⟩ = false:=by unfold Ai at h;simp [World.frozen?,h]
theorem Ai.lt (h : Ai w g e vd vm vl) : g < w.heap.size:=(Array.getElem?_eq_some_iff.1 h).1
theorem Ai.up (h : Ai w g e vd vm vl) (hb : Below w.heap.size w w1) : Ai w1 g e vd vm vl:=(hb.block g h.lt).trans h
theorem Ai.far (h : Ai w g e vd vm vl) {b : Nat} (hne : b ≠ g) (j : Nat) (u : Value) : Ai (w.setCell ⟨b,j,none⟩ u) g e vd vm vl:=(Below.heap_setCell w ⟨b,j,none⟩ u g (Ne.symm hne)).trans h
theorem Ai.mk1 (w : World) (e : Eng) (vd vm vl : Value) : Ai (w.alloc (.cells #[vd,vm,vl, .int .i64 e.safe, .bool e.down] 28)) w.heap.size e vd vm vl:=by
  show (w.heap.push _)[w.heap.size]? = _
  simp
theorem Ai.set0 (h : Ai w g e vd vm vl) (u : Value) : Ai (w.setCell ⟨g,0,none⟩ u) g e u vm vl:=heap_setCell_same h _
theorem Ai.set1 (h : Ai w g e vd vm vl) (u : Value) : Ai (w.setCell ⟨g,1,none⟩ u) g e vd u vl:=heap_setCell_same h _
theorem Ai.set2 (h : Ai w g e vd vm vl) (u : Value) : Ai (w.setCell ⟨g,2,none⟩ u) g e vd vm u:=heap_setCell_same h _
theorem Ai.Cu (h : Ai w g e vd vm vl) (x : Int) : Ai (w.setCell ⟨g,3,none⟩ (.int .i64 x)) g { e with safe:=x } vd vm vl:=heap_setCell_same h _
theorem Ai.Xf (h : Ai w g e vd vm vl) (x : Bool) : Ai (w.setCell ⟨g,4,none⟩ (.bool x)) g { e with down:=x } vd vm vl:=heap_setCell_same h _
/-- What the slices of an engine hold, to be read. -/
structure DY (w : World) (e : Eng) (Ad Am Al : Option Addr) : Prop where
  d : Kd.C Dn w Ad e.disk.length e.disk
  m : Kd.C Dn w Am e.mem.length e.mem
  l : Kd.C Ca w Al e.log.length e.log
theorem DY.up {Ad Am Al : Option Addr} (h : DY w e Ad Am Al) (hb : Below w.heap.size w w1) : DY w1 e Ad Am Al:=⟨Bu h.d hb,Bu h.m hb,Bu h.l hb⟩
abbrev Eng.val (e : Eng) (Ad Am Al : Option Addr) (cd cm cl : Nat) : Value:=e.ag (.slice Ad e.disk.length cd) (.slice Am e.mem.length cm) (.slice Al e.log.length cl)
end
abbrev Eng.obox (e : Eng) (vd vm vl : Value) : Obj:=.cells #[vd,vm,vl, .int .i64 e.safe, .bool e.down] 28
/-- The world with an engine's variable in it, under a name. -/
theorem Ay {P : Program} {ops : Array Oper} {l : List Oper} {Q : Exit → Act → World → Prop} {a : Act} {w : World} (e : Eng) {vd vm vl : Value} (h : ∀ w1,Below w.heap.size w w1 → w1.heap.size = w.heap.size + 1 → Ai w1 w.heap.size e vd vm vl → wpList P ops Q l a w1) : wpList P ops Q l a (w.alloc (.cells #[vd,vm,vl, .int .i64 e.safe, .bool e.down] 28)):=
  h _ ((Below.refl _ _).alloc (Nat.le_refl _) _) (BF _ _) (Ai.mk1 w e vd vm vl)
/-- Nothing is left. -/
theorem DV {P : Program} {ops : Array Oper} {Q : Exit → Act → World → Prop} {S : Array Bool → Act → World → Prop} {m : Nat} {done : List Nat} {a : Act} (hok : WY ops done = true) (h : ∀ w,S (lsd ops.size done) a w → Q .normal a w) : Reg P ops Q S m done a:=by
  refine ⟨?_⟩
  have hr:=beq_iff_eq.1 hok
  generalize ops.size - done.length = n
  cases n with
  | zero => exact ⟨hr,h⟩
  | succ n => exact ⟨fun _ => h,fun i hi => by rw [hr] at hi;cases hi⟩
theorem QL (n i j : Nat) (done : List Nat) : lsd n (i :: j :: done) = lsd n (j :: i :: done):=by
  apply Array.ext
  · simp [lsd]
  · intro k h1 h2
    simp [lsd,or_left_comm, ← or_assoc]
abbrev ptr (B : Nat) : Value:=.pointer (some ⟨B,0,none⟩)
/-- Two variables that are made in either order. -/
theorem Qt {P : Program} {ops : Array Oper} {Q : Exit → Act → World → Prop} {S : Array Bool → Act → World → Prop} {m : Nat} {done : List Nat} {L : List Value} {D : List Deferred} {o1 o2 : Oper} {ob1 ob2 : Obj} (i j : Nat) {d1 d2 : Nat} (h1 : ops.toList[i]? = some o1) (h2 : ops.toList[j]? = some o2)
    (hok : (Region.ready .any ops (lsd ops.size done) == [i,j] && (Region.ready .any ops (lsd ops.size (i :: done)) == [j] && (Region.ready .any ops (lsd ops.size (j :: done)) == [i] && decide (done.length + 1 < ops.size)))) = true)
    (hd1 : o1.dst = some d1) (hd2 : o2.dst = some d2) (hne : (d1 == d2) = false) (hg1 : ∀ t,Region.wanted o1 t = true) (hg2 : ∀ t,Region.wanted o2 t = true)
    (hr1 : ∀ (a : Act) w,(execOp a.eval o1).run P w = .ok (.value (ptr w.heap.size)) (w.alloc ob1)) (hr2 : ∀ (a : Act) w,(execOp a.eval o2).run P w = .ok (.value (ptr w.heap.size)) (w.alloc ob2))
    (s1 : ∀ w,S (lsd ops.size done) ⟨L.toArray,D⟩ w → S (lsd ops.size (i :: done)) ⟨(L.set d1 (ptr w.heap.size)).toArray,D⟩ (w.alloc ob1))
    (s2 : ∀ w,S (lsd ops.size done) ⟨L.toArray,D⟩ w → S (lsd ops.size (j :: done)) ⟨(L.set d2 (ptr w.heap.size)).toArray,D⟩ (w.alloc ob2))
    (l1 : ∀ B w,S (lsd ops.size (i :: done)) ⟨(L.set d1 (ptr B)).toArray,D⟩ w → B < w.heap.size) (l2 : ∀ B w,S (lsd ops.size (j :: done)) ⟨(L.set d2 (ptr B)).toArray,D⟩ w → B < w.heap.size)
    (s12 : ∀ B w,S (lsd ops.size (i :: done)) ⟨(L.set d1 (ptr B)).toArray,D⟩ w → S (lsd ops.size (j :: i :: done)) ⟨((L.set d1 (ptr B)).set d2 (ptr w.heap.size)).toArray,D⟩ (w.alloc ob2))
    (s21 : ∀ B w,S (lsd ops.size (j :: done)) ⟨(L.set d2 (ptr B)).toArray,D⟩ w → S (lsd ops.size (j :: i :: done)) ⟨((L.set d1 (ptr w.heap.size)).set d2 (ptr B)).toArray,D⟩ (w.alloc ob1))
    (h : ∀ B1 B2,B1 ≠ B2 → Reg P ops Q S m (j :: i :: done) ⟨((L.set d1 (ptr B1)).set d2 (ptr B2)).toArray,D⟩) : Reg P ops Q S m done ⟨L.toArray,D⟩:=by
  simp only [Bool.and_eq_true,beq_iff_eq,decide_eq_true_eq] at hok
  obtain ⟨r0,r1,r2,hl⟩:=hok
  have hne : d1 ≠ d2:=by simpa using hne
  refine Ba [i,j] (by rw [r0];simp;omega) (fun k hk w hS => ?_)
  rcases List.mem_cons.1 hk with rfl | hk
  · refine Jf (w1:=w.alloc ob1) (ptr w.heap.size) h1 (hg1 _) (hr1 _ _) ?_
    rw [hd1,Cv]
    refine ⟨s1 w hS,Ba [j] (by rw [r1];simp;omega) (fun k hk w' hS' => ?_)⟩
    obtain rfl:=List.mem_singleton.1 hk
    refine Jf (w1:=w'.alloc ob2) (ptr w'.heap.size) h2 (hg2 _) (hr2 _ _) ?_
    rw [hd2,Cv]
    exact ⟨s12 _ w' hS',h _ _ (by have:=l1 _ w' hS';omega)⟩
  · obtain rfl:=List.mem_singleton.1 hk
    refine Jf (w1:=w.alloc ob2) (ptr w.heap.size) h2 (hg2 _) (hr2 _ _) ?_
    rw [hd2,Cv]
    refine ⟨s2 w hS,Ba [i] (by rw [r2];simp;omega) (fun k hk w' hS' => ?_)⟩
    obtain rfl:=List.mem_singleton.1 hk
    refine Jf (w1:=w'.alloc ob1) (ptr w'.heap.size) h1 (hg1 _) (hr1 _ _) ?_
    rw [hd1,Cv]
    have hx:=s21 _ w' hS'
    have hy:=h w'.heap.size w.heap.size (by have:=l2 _ w' hS';omega)
    rw [List.set_comm _ _ hne] at hx hy
    rw [QL]
    refine ⟨hx,⟨?_⟩⟩
    have hz:=hy.out
    rw [QL] at hz
    exact hz
theorem Pm {w : World} {A : Option Addr} {l : List Rec} {n : Nat} (h : Kd.C Ca w A l.length l) (hn : n ≤ l.length) : Kd.C Ca w A (l.take n).length (l.take n):=by
  exact Kd.XK h hn
end Go.Proofs.YtpjmlpmhgfghbaaGreat
/- The statements' measure of an engine that came in: their sz.. functions. -/
namespace Go.Proofs.YtpjmlpmhgfghbaaGreat
open Go.RowKit Go.Proofs.YtpjmlpmhgfghbaaGreatW.PrintWords Go.Proofs.YtpjmlpmhgfghbaaGreatW.PrintLast Go.Proofs.YtpjmlpmhgfghbaaGreatW.PrintMore
def szI (n : Nat) (left : Int) : Int:=if left < n then -1 else left - n
def N8 : List Page → Int → Int
  | [],left => left
  | p :: ps,left => if szI p.vals.length left < 0 then -1 else N8 ps (szI p.vals.length left)
def szP (ps : List Page) (left : Int) : Int:=if szI ps.length left < 0 then -1 else N8 ps (szI ps.length left)
theorem V3 {n : Nat} {left : Int} (h : 0 ≤ szI n left) : (n : Int) ≤ left ∧ szI n left ≤ left:=by
  unfold szI at *
  split at h <;> omega
theorem UZ {n : Nat} {left : Int} (h : 0 ≤ left) : -1 ≤ szI n left ∧ szI n left ≤ left:=by
  unfold szI
  split <;> omega
theorem Qo : ∀ (ps : List Page) (left : Int),0 ≤ N8 ps left → ∀ p ∈ ps,(p.vals.length : Int) ≤ left
  | [],left,h => by simp
  | p :: ps,left,h => by
    unfold N8 at h
    split at h
    · omega
    · rename_i h0
      have h1:=V3 (n:=p.vals.length) (left:=left) (by omega)
      intro q hq
      rcases List.mem_cons.1 hq with rfl | hq
      · exact h1.1
      · have:=Qo ps _ h q hq
        omega
theorem Wq (ps : List Page) (left : Int) (h : 0 ≤ szP ps left) : (ps.length : Int) ≤ left ∧ ∀ p ∈ ps,(p.vals.length : Int) ≤ left:=by
  unfold szP at h
  split at h
  · omega
  · rename_i h0
    have h1:=V3 (n:=ps.length) (left:=left) (by omega)
    exact ⟨h1.1,fun p hp => by have:=Qo ps _ h p hp;omega⟩
theorem Ue {xs : List Page} {k : Nat} (hk : k < xs.length) (x : Int) : N8 (xs.drop k) x = if szI (pg xs k).vals.length x < 0 then -1 else N8 (xs.drop (k + 1)) (szI (pg xs k).vals.length x):=by
  rw [Tp hk,N8]
theorem KW (A : Option Addr) (c n : Nat) (left : Int) (w : World) (h0 : 0 ≤ left) (h1 : left ≤ 1048576) (hn : n ≤ 9223372036854775807) : Calls Tryz.prog 113 #[.slice A n c, .int .i64 left] w fun e w' => e = .returned (.int .i64 (szI n left)) ∧ w' = w:=by
  have hwr : IntKind.i64.wrap (left - (n : Int)) = left - (n : Int):=by simp (disch:=omega) only [IntWalk.i64_in]
  have HV : Ac (left < n ∨ ¬ left < n):=⟨by omega⟩
  obtain ⟨v,hv⟩ : ∃ v,szI n left = v:=⟨_,rfl⟩
  rcases lts (left - (n : Int)) 0 with ⟨e1,b1,c1⟩ | ⟨e1,b1,c1⟩
  · have hz:=As (show szI n left = -1 by have:=e1.out;rw [szI,if_pos (by omega)])
    clear hv
    go_enter Tryz.func113,Tryz.ntmps113
    go_wp2
    go_ret
    exact ⟨Cs hz.out.symm,rfl⟩
  · have hz:=As (show szI n left = left - n by have:=e1.out;rw [szI,if_neg (by omega)])
    clear hv
    go_enter Tryz.func113,Tryz.ntmps113
    go_wp2
    go_ret
    exact ⟨Cs hz.out.symm,rfl⟩
def Ea (w : World) (g : Nat) (e : Eng) (vd vm vl : Value) : Prop:=w.heap[g]? = some (.cells #[vd,vm,vl, .int .i64 e.safe, .bool e.down] 40 (0,0))
section
variable {w w1 : World} {g : Nat} {e : Eng} {vd vm vl : Value}
theorem Ea.c0 (h : Ea w g e vd vm vl) : w.cell? ⟨g,0,none⟩ = some vd:=by unfold Ea at h;simp [World.cell?,h]
theorem Ea.c1 (h : Ea w g e vd vm vl) : w.cell? ⟨g,1,none⟩ = some vm:=by unfold Ea at h;simp [World.cell?,h]
theorem Ea.c2 (h : Ea w g e vd vm vl) : w.cell? ⟨g,2,none⟩ = some vl:=by unfold Ea at h;simp [World.cell?,h]
theorem Ea.c3 (h : Ea w g e vd vm vl) : w.cell? ⟨g,3,none⟩ = some (.int .i64 e.safe):=by unfold Ea at h;simp [World.cell?,h]
theorem Ea.c4 (h : Ea w g e vd vm vl) : w.cell? ⟨g,4,none⟩ = some (.bool e.down):=by unfold Ea at h;simp [World.cell?,h]
theorem Ea.lt (h : Ea w g e vd vm vl) : g < w.heap.size:=(Array.getElem?_eq_some_iff.1 h).1
theorem Ea.up (h : Ea w g e vd vm vl) (hb : Below w.heap.size w w1) : Ea w1 g e vd vm vl:=(hb.block g h.lt).trans h
theorem Ea.mk1 (w : World) (e : Eng) (vd vm vl : Value) : Ea (w.alloc (.cells #[vd,vm,vl, .int .i64 e.safe, .bool e.down] 40)) w.heap.size e vd vm vl:=by
  show (w.heap.push _)[w.heap.size]? = _
  simp
end
end Go.Proofs.YtpjmlpmhgfghbaaGreat
/- Logs that agree up to a place; a log with one record more; in plain Lean. -/
namespace Go.Proofs.YtpjmlpmhgfghbaaGreat
def Agree (l l' : List Rec) (n : Nat) : Prop := ∀ k,k < n → rc l k = rc l' k
theorem Agree.le {l l' : List Rec} {n m : Nat} (h : Agree l l' n) (hm : m ≤ n) : Agree l l' m:=fun k hk => h k (by omega)
theorem Agree.symm {l l' : List Rec} {n : Nat} (h : Agree l l' n) : Agree l' l n:=fun k hk => (h k hk).symm
theorem KN (l : List Rec) (n : Nat) : Agree (l.take n) l n:=fun k hk => by
  simp [rc,List.getD_eq_getElem?_getD,List.getElem?_take,hk]
theorem Co (l m : List Rec) : Agree (l ++ m) l l.length:=fun k hk => by
  simp [rc,List.getD_eq_getElem?_getD,List.getElem?_append_left hk]
theorem M6 {l m : List Rec} {k : Nat} (h : k < l.length) : rc (l ++ m) k = rc l k:=Co l m k h
theorem BI (l : List Rec) (r : Rec) : rc (l ++ [r]) l.length = r:=by
  simp [rc,List.getD_eq_getElem?_getD]
theorem CP {l l' : List Rec} (tx : Int) : ∀ {n : Nat},Agree l l' n → Aj l tx n = Aj l' tx n
  | 0,_ => rfl
  | n + 1,h => by
    unfold Aj
    rw [h n (by omega),CP tx (h.le (Nat.le_succ n))]
theorem MF {l l' : List Rec} {n k : Nat} (h : Agree l l' n) (hk : k < n) : BH l (k + 1) = BH l' (k + 1):=by
  simp only [BH,Nat.add_sub_cancel]
  rw [h k hk]
theorem QF {l l' : List Rec} {n k : Nat} (h : Agree l l' n) (hk : k < n) : EB l (k + 1) = EB l' (k + 1):=by
  simp only [EB,Nat.add_sub_cancel]
  rw [h k hk]
theorem IW {l l' : List Rec} {n : Nat} (h : Agree l l' n) (m : Nat) : m ≤ n → BA l m = BA l' m:=by
  induction m using Nat.strongRecOn with
  | _ m ih =>
    intro hm
    match m with
    | 0 => rw [Cm,Cm]
    | m + 1 =>
      rw [BA,BA,MF h (by omega)]
      split
      · rw [ih _ (by omega) (by omega)]
      · rfl
theorem Nv {l l' : List Rec} {n : Nat} (h : Agree l l' n) (m : Nat) : m ≤ n → CU l m = CU l' m:=by
  induction m using Nat.strongRecOn with
  | _ m ih =>
    intro hm
    match m with
    | 0 => rw [D5,D5]
    | m + 1 =>
      rw [CU,CU,MF h (by omega),QF h (by omega),h m (by omega)]
      split
      · split
        · rw [ih _ (by omega) (by omega)]
        · rfl
      · split
        · split
          · rw [ih _ (by omega) (by omega)]
          · rfl
        · split
          · rw [ih _ (by omega) (by omega)]
          · rfl
theorem Ee {l : List Rec} (n : Nat) : ∀ m ∈ BA l n,0 < m ∧ m ≤ n:=by
  induction n using Nat.strongRecOn with
  | _ n ih =>
    intro m hm
    match n with
    | 0 => rw [Cm] at hm;cases hm
    | n + 1 =>
      rw [BA] at hm
      rcases List.mem_cons.1 hm with rfl | hm
      · omega
      · split at hm
        · have:=ih _ (by omega) m hm
          omega
        · cases hm
theorem Ql {l : List Rec} (n : Nat) : ∀ m ∈ CU l n,0 < m ∧ m ≤ n:=by
  induction n using Nat.strongRecOn with
  | _ n ih =>
    intro m hm
    match n with
    | 0 => rw [D5] at hm;cases hm
    | n + 1 =>
      rw [CU] at hm
      split at hm
      · rcases List.mem_cons.1 hm with rfl | hm
        · omega
        · split at hm
          · have:=ih _ (by omega) m hm
            omega
          · cases hm
      · split at hm
        · split at hm
          · have:=ih _ (by omega) m hm
            omega
          · cases hm
        · split at hm
          · have:=ih _ (by omega) m hm
            omega
          · cases hm
theorem Kn {α : Type} {l : List α} {p q : α → Bool} (h : ∀ x ∈ l,p x = q x) : l.any p = l.any q:=by
  induction l with
  | nil => rfl
  | cons a t ih => rw [List.any_cons,List.any_cons,h a (by simp),ih fun x hx => h x (by simp [hx])]
theorem Sk {l l' : List Rec} {n : Nat} (h : Agree l l' n) (p : Int) {m : Nat} (hm : m ≤ n) : G8 l m p = G8 l' m p:=by
  rw [G8,G8,IW h m hm]
  exact Kn fun x hx => by
    have:=Ee m x hx
    rw [h (x - 1) (by omega)]
theorem QS {l l' : List Rec} {n : Nat} (h : Agree l l' n) (p : Int) {m : Nat} (hm : m ≤ n) : EJ l m p = EJ l' m p:=by
  rw [EJ,EJ,IW h m hm]
  exact Kn fun x hx => by
    have:=Ee m x hx
    rw [h (x - 1) (by omega)]
theorem Sw {l l' : List Rec} {n k : Nat} (h : Agree l l' n) (hk : k < n) : atOk l k = atOk l' k:=by
  have hl:=CP (rc l' k).tx (h.le (show k ≤ n by omega))
  unfold atOk
  rw [h k hk,hl]
  by_cases hn : (rc l' k).next ≤ k
  · by_cases h0 : (rc l' k).next ≤ 0
    · simp [h0]
    · rw [h ((rc l' k).next.toNat - 1) (by omega)]
  · simp [hn]
theorem II {l l' : List Rec} : ∀ {n : Nat},Agree l l' n → Ef l n = Ef l' n
  | 0,_ => rfl
  | n + 1,h => by
    unfold Ef
    rw [II (h.le (Nat.le_succ n)),Sw h (by omega)]
theorem Eb {l l' : List Rec} (p : Int) : ∀ {n : Nat},Agree l l' n → BD l p n = BD l' p n
  | 0,_ => rfl
  | n + 1,h => by
    unfold BD
    rw [Eb p (h.le (Nat.le_succ n)),h n (by omega)]
/-- A prefix of a log is a log. -/
theorem KF {l : List Rec} (h : AP l = true) (n : Nat) : AP (l.take n) = true:=by
  simp only [AP,Bool.and_eq_true,decide_eq_true_eq] at h ⊢
  rw [List.length_take]
  refine ⟨?_,by omega⟩
  rcases Nat.lt_or_ge n l.length with hn | hn
  · rw [Nat.min_eq_left (by omega),II (KN l n)]
    have hp : ∀ {m k},Ef l m = true → k ≤ m → Ef l k = true:=by
      intro m
      induction m with
      | zero => intro k hm hk; obtain rfl : k = 0 := by omega
                exact hm
      | succ m ih =>
        intro k hm hk
        rcases Nat.eq_or_lt_of_le hk with rfl | hk
        · exact hm
        · simp only [Ef,Bool.and_eq_true] at hm
          exact ih hm.1 (by omega)
    exact hp h.1 (by omega)
  · rw [List.take_of_length_le hn,Nat.min_eq_right hn]
    exact h.1
/-- A log with one record more. -/
theorem IG {l : List Rec} {r : Rec} (h : AP l = true) (hr : CS r = true) (hp : r.prev = Aj l r.tx l.length) (hn : r.next ≤ l.length) (hn2 : r.next ≤ 0 ∨ (rc l (r.next.toNat - 1)).tx = r.tx) (hl : l.length + 1 ≤ 150) : AP (l ++ [r]) = true:=by
  simp only [AP,Bool.and_eq_true,decide_eq_true_eq] at h ⊢
  rw [List.length_append,List.length_singleton]
  refine ⟨?_,hl⟩
  rw [Ef,II (Co l [r]),h.1,Bool.true_and,atOk,BI,CP r.tx (Co l [r])]
  simp only [Bool.and_eq_true,beq_iff_eq,decide_eq_true_eq,Bool.or_eq_true]
  refine ⟨⟨⟨hr,hp⟩,hn⟩,?_⟩
  rcases hn2 with hn2 | hn2
  · exact .inl hn2
  · by_cases h0 : r.next ≤ 0
    · exact .inl h0
    · refine .inr ?_
      rw [M6 (by omega)]
      exact hn2
end Go.Proofs.YtpjmlpmhgfghbaaGreat
