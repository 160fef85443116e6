/- Proved here: for all bytes that are handed in, laws.FnRunCut returns true (things happen one behind the other: a drawn play, cut anywhere, and gone on with one by one, ends in the same engine). Conditions: none beyond those that the given statement itself bears. -/
import Derived.Test.YtpjmlpmhgfghbaaGreatZR7
import Derived.Deep.Slices
import Derived.OpenShut
import Derived.Deep.Strs
import Derived.WalkKit
import Derived.ProofKit
import Derived.ShutString
import Derived.ChangeOld
import Derived.Below
import Derived.SizedLaws
set_option linter.unusedVariables false
set_option linter.unusedSimpArgs false
namespace Go.Proofs.YtpjmlpmhgfghbaaGreat
open Go.RowKit Go.Proofs.YtpjmlpmhgfghbaaGreatW.PrintWords Go.Proofs.YtpjmlpmhgfghbaaGreatW.PrintLast Go.Proofs.YtpjmlpmhgfghbaaGreatW.PrintMore
theorem Uv {w : World} {b n c : Nat} {A : Option Addr} {vd vm : Value} {e : Eng} (h : AU w b vd vm (.slice A n c) e) : Kd.C C8 w A e.log.length e.log:=by
  obtain ⟨Ad,cd,Am,cm,Al,cl, -, -,hv, -,hrd⟩:=h.reads
  injection hv with h1
  rw [h1]
  exact hrd.l
theorem Qd {l : List Rec} {k : Nat} (h : BK l (k + 1) ≤ k) : Bf l isLoad (BD l (k + 1)) = if (rc l k).kind = 3 then (rc l k).page :: Bf l isLoad (BD l (BK l (k + 1))) else Bf l isLoad (BD l (BK l (k + 1))):=by
  rw [DV h,Bf,List.filter_cons,Nat.add_sub_cancel]
  by_cases h3 : (rc l k).kind = 3
  · rw [if_pos h3,if_pos (by simp [isLoad,h3])];simp [Bf]
  · rw [if_neg h3,if_neg (by simp [isLoad,h3])];simp [Bf]
theorem Mx {l : List Rec} {n : Nat} {p : Int} : p ∈ Bf l isLoad (BD l n) ↔ EP l n p = true:=by
  rw [EP,List.any_eq_true,Bf,List.mem_map]
  simp [isLoad,and_assoc]
set_option maxRecDepth 100000 in
set_option maxHeartbeats 16000000 in
theorem O6 {w0 w : World} {e : Eng} {C : Nat → Page} {B : Nat} {vd vm vl : Value} (tx : Int) (hi : Inv e C B) (hb : Below w0.heap.size w0 w) (hr : AU w w0.heap.size vd vm vl e) : Calls Tryz.prog 70 #[e.ag vd vm vl, .int .i64 tx] w (I8 w0 w (Cz e tx (DN e tx)).1 (Cz e tx (DN e tx)).2):=by
  obtain ⟨Ad,cd,Am,cm,Al,cl,rfl,rfl,rfl,hcl,hrd⟩:=hr.reads
  obtain ⟨w1a,hw1a⟩ : ∃ w1a,w.alloc (e.obox (.slice Ad e.disk.length cd) (.slice Am e.mem.length cm) (.slice Al e.log.length cl)) = w1a:=⟨_,rfl⟩
  obtain ⟨w1,hw1⟩ : ∃ w1,w1a.alloc (zE.obox (.slice none 0 0) (.slice none 0 0) (.slice none 0 0)) = w1:=⟨_,rfl⟩
  have hza : w1a.heap.size = w.heap.size + 1:=by rw [← hw1a];exact BA _ _
  have hz1 : w1.heap.size = w.heap.size + 2:=by rw [← hw1,BA,hza]
  have hba : Below w1a.heap.size w1a w1:=by rw [← hw1];exact Ah (Below.refl _ _) _
  have hb1 : Below w.heap.size w w1:=by rw [← hw1, ← hw1a];exact Ah (Ah (Below.refl _ _) _) _
  have HQ1 : Ac (Ai w1 w.heap.size e (.slice Ad e.disk.length cd) (.slice Am e.mem.length cm) (.slice Al e.log.length cl)):=⟨Ai.up (by rw [← hw1a];exact Ai.mk1 _ _ _ _ _) hba⟩
  have HP1 : Ac (Ai w1 (w.heap.size + 1) zE (.slice none 0 0) (.slice none 0 0) (.slice none 0 0)):=⟨by rw [← hw1, ← hza];exact Ai.mk1 _ _ _ _ _⟩
  have HW1 : Ac ((w.alloc (Obj.cells #[Value.slice Ad e.disk.length cd,Value.slice Am e.mem.length cm,Value.slice Al e.log.length cl,Value.int IntKind.i64 e.safe,Value.bool e.down] 28)).alloc (Obj.cells #[Value.slice none 0 0,Value.slice none 0 0,Value.slice none 0 0,Value.int IntKind.i64 0,Value.bool false] 28) = w1):=⟨by rw [← hw1, ← hw1a];rfl⟩
  have HZ1:=As hz1
  have HB1:=As hb1
  have HB:=As hb
  have HO1:=As (hr.below hb1)
  have HC1:=As (hrd.up hb1)
  have HI:=As hi
  have x0:=HQ1.out.c0
  have x1:=HQ1.out.c1
  have x2:=HQ1.out.c2
  have x3:=HQ1.out.c3
  have x4:=HQ1.out.c4
  have y0:=HP1.out.c0
  have y1:=HP1.out.c1
  have y2:=HP1.out.c2
  have y3:=HP1.out.c3
  have y4:=HP1.out.c4
  have f0:=HP1.out.frz 0
  have f1:=HP1.out.frz 1
  have f2:=HP1.out.frz 2
  have f3:=HP1.out.frz 3
  have f4:=HP1.out.frz 4
  clear hw1a hw1 hza hz1 hba hb1 hb hr hrd hi
  cases hd : e.down
  rotate_left
  · rw [show Cz e tx (DN e tx) = (e,false) by rw [Cz,if_neg (by rw [hd];simp)]]
    have HDN:=As hd
    rw [hd] at x4
    clear hd
    go_enter Tryz.func70,Tryz.ntmps70
    go_wp2_with (first
      | (rw [show (w.alloc (Obj.cells #[Value.slice Ad e.disk.length cd,Value.slice Am e.mem.length cm,Value.slice Al e.log.length cl,Value.int IntKind.i64 e.safe,Value.bool e.down] 28)).alloc (Obj.cells #[Value.slice none 0 0,Value.slice none 0 0,Value.slice none 0 0,Value.int IntKind.i64 0,Value.bool false] 28) = w1 from HW1.out]))
    have hz:=HZ1.out
    have hs0:=HB.out.size
    have hy:=HP1.out.Az ⟨e.disk,e.mem,e.log,e.safe,true⟩ (.slice Ad e.disk.length cd) (.slice Am e.mem.length cm) (.slice Al e.log.length cl)
    have h1:=HO1.out.Az (f:=⟨e.disk,e.mem,e.log,e.safe,true⟩) (xd:=.slice Ad e.disk.length cd) (xm:=.slice Am e.mem.length cm) (xl:=.slice Al e.log.length cl) HP1.out
    have h2:=Ak (g:=w.heap.size + 1) (bj HB.out HB1.out) (by omega) ⟨e.disk,e.mem,e.log,e.safe,true⟩ (.slice Ad e.disk.length cd) (.slice Am e.mem.length cm) (.slice Al e.log.length cl)
    have h3:=Ak (g:=w.heap.size + 1) HB1.out (by omega) ⟨e.disk,e.mem,e.log,e.safe,true⟩ (.slice Ad e.disk.length cd) (.slice Am e.mem.length cm) (.slice Al e.log.length cl)
    have z0:=hy.c0
    have z1:=hy.c1
    have z2:=hy.c2
    have z3:=hy.c3
    have z4:=hy.c4
    simp only at z0 z1 z2 z3 z4
    exact bodyPost_ret (v:=.tuple #[.agg #[.slice Ad e.disk.length cd, .slice Am e.mem.length cm, .slice Al e.log.length cl, .int .i64 e.safe, .bool true], .bool false]) (by simp [results,Tryz.results70,go_sem,z0,z1,z2,z3,z4]) rfl ⟨.slice Ad e.disk.length cd, .slice Am e.mem.length cm, .slice Al e.log.length cl,by unfold Eng.ag;rw [HDN.out],h1,h2,Ba.of_below h3⟩
  have HDN:=As hd
  rw [hd] at x4
  clear hd
  obtain ⟨n,hn⟩ : ∃ n : Nat,Ao e.log tx e.log.length = n:=⟨_,rfl⟩
  have HLN:=As hn
  cases h1 : inB tx 1 3
  · have hn0 : n = 0:=by
      rcases Nat.eq_zero_or_pos n with h | h
      · exact h
      · have:=F9 HI.out.core.log (tx:=tx) (by rw [hn];omega)
        rw [show inB tx 1 3 = true from DI.2 (by omega)] at h1
        cases h1
    rw [show Cz e tx (DN e tx) = (e,false) by rw [Cz,if_neg (by rw [hn,hn0];simp)]]
    have H1:=As h1
    clear h1 hn hn0
    go_enter Tryz.func70,Tryz.ntmps70
    go_wp2_with (first
      | (rw [show (w.alloc (Obj.cells #[Value.slice Ad e.disk.length cd,Value.slice Am e.mem.length cm,Value.slice Al e.log.length cl,Value.int IntKind.i64 e.safe,Value.bool e.down] 28)).alloc (Obj.cells #[Value.slice none 0 0,Value.slice none 0 0,Value.slice none 0 0,Value.int IntKind.i64 0,Value.bool false] 28) = w1 from HW1.out])
      | (go_at_call 55;refine (BZ _ _ _ _).mono ?_;rw [H1.out];rintro x w' ⟨rfl,rfl⟩))
    have hz:=HZ1.out
    have hs0:=HB.out.size
    have hy:=HP1.out.Az ⟨e.disk,e.mem,e.log,e.safe,false⟩ (.slice Ad e.disk.length cd) (.slice Am e.mem.length cm) (.slice Al e.log.length cl)
    have h1:=HO1.out.Az (f:=⟨e.disk,e.mem,e.log,e.safe,false⟩) (xd:=.slice Ad e.disk.length cd) (xm:=.slice Am e.mem.length cm) (xl:=.slice Al e.log.length cl) HP1.out
    have h2:=Ak (g:=w.heap.size + 1) (bj HB.out HB1.out) (by omega) ⟨e.disk,e.mem,e.log,e.safe,false⟩ (.slice Ad e.disk.length cd) (.slice Am e.mem.length cm) (.slice Al e.log.length cl)
    have h3:=Ak (g:=w.heap.size + 1) HB1.out (by omega) ⟨e.disk,e.mem,e.log,e.safe,false⟩ (.slice Ad e.disk.length cd) (.slice Am e.mem.length cm) (.slice Al e.log.length cl)
    have z0:=hy.c0
    have z1:=hy.c1
    have z2:=hy.c2
    have z3:=hy.c3
    have z4:=hy.c4
    simp only at z0 z1 z2 z3 z4
    exact bodyPost_ret (v:=.tuple #[.agg #[.slice Ad e.disk.length cd, .slice Am e.mem.length cm, .slice Al e.log.length cl, .int .i64 e.safe, .bool false], .bool false]) (by simp [results,Tryz.results70,go_sem,z0,z1,z2,z3,z4]) rfl ⟨.slice Ad e.disk.length cd, .slice Am e.mem.length cm, .slice Al e.log.length cl,by unfold Eng.ag;rw [HDN.out],h1,h2,Ba.of_below h3⟩
  have H1:=As h1
  clear h1
  by_cases hnz : n = 0
  · subst hnz
    rw [show Cz e tx (DN e tx) = (e,false) by rw [Cz,if_neg (by rw [hn];simp)]]
    clear hn
    go_enter Tryz.func70,Tryz.ntmps70
    go_wp2_with (first
      | (rw [show (w.alloc (Obj.cells #[Value.slice Ad e.disk.length cd,Value.slice Am e.mem.length cm,Value.slice Al e.log.length cl,Value.int IntKind.i64 e.safe,Value.bool e.down] 28)).alloc (Obj.cells #[Value.slice none 0 0,Value.slice none 0 0,Value.slice none 0 0,Value.int IntKind.i64 0,Value.bool false] 28) = w1 from HW1.out])
      | (go_at_call 55;refine (BZ _ _ _ _).mono ?_;rw [H1.out];rintro x w' ⟨rfl,rfl⟩)
      | (go_at_call 115;refine (Dt (c:=cl) HLN.out (Below.refl w1.heap.size w1) HC1.out.l).mono ?_;rintro x w' ⟨rfl,rfl⟩))
    have hz:=HZ1.out
    have hs0:=HB.out.size
    have hy:=HP1.out.Az ⟨e.disk,e.mem,e.log,e.safe,false⟩ (.slice Ad e.disk.length cd) (.slice Am e.mem.length cm) (.slice Al e.log.length cl)
    have h1:=HO1.out.Az (f:=⟨e.disk,e.mem,e.log,e.safe,false⟩) (xd:=.slice Ad e.disk.length cd) (xm:=.slice Am e.mem.length cm) (xl:=.slice Al e.log.length cl) HP1.out
    have h2:=Ak (g:=w.heap.size + 1) (bj HB.out HB1.out) (by omega) ⟨e.disk,e.mem,e.log,e.safe,false⟩ (.slice Ad e.disk.length cd) (.slice Am e.mem.length cm) (.slice Al e.log.length cl)
    have h3:=Ak (g:=w.heap.size + 1) HB1.out (by omega) ⟨e.disk,e.mem,e.log,e.safe,false⟩ (.slice Ad e.disk.length cd) (.slice Am e.mem.length cm) (.slice Al e.log.length cl)
    have z0:=hy.c0
    have z1:=hy.c1
    have z2:=hy.c2
    have z3:=hy.c3
    have z4:=hy.c4
    simp only at z0 z1 z2 z3 z4
    exact bodyPost_ret (v:=.tuple #[.agg #[.slice Ad e.disk.length cd, .slice Am e.mem.length cm, .slice Al e.log.length cl, .int .i64 e.safe, .bool false], .bool false]) (by simp [results,Tryz.results70,go_sem,z0,z1,z2,z3,z4]) rfl ⟨.slice Ad e.disk.length cd, .slice Am e.mem.length cm, .slice Al e.log.length cl,by unfold Eng.ag;rw [HDN.out],h1,h2,Ba.of_below h3⟩
  have hlast : Ao e.log tx e.log.length ≠ 0:=by rw [hn];exact hnz
  rw [show Cz e tx (DN e tx) = (DN e tx,true) by rw [Cz,if_pos ⟨HDN.out,hlast⟩]]
  have htx:=F9 HI.out.core.log hlast
  have hx:=HI.out.UW HDN.out htx hlast
  have hlog:=HI.out.core.log
  have hgd : geo e.disk:=Ay (Cv.2 ⟨HI.out.core.dlen,HI.out.core.dok⟩)
  have hgm:=Ay HI.out.Gb
  have hnl : n ≤ e.log.length:=by rw [← hn];exact Bb _ _ _
  obtain ⟨zs,hzs⟩ : ∃ zs,Bf e.log isLoad (BD e.log n) = zs:=⟨_,rfl⟩
  have hrg : ∀ p ∈ zs,0 ≤ p ∧ p < 5:=fun p hp => ME hlog hnl (Mx.1 (by rw [hzs];exact hp))
  have hdw:=ML (e:=e) (tx:=tx) (ps:=zs) hgd.1 (fun p _ => by rw [← hzs,Mx, ← hn];rfl) hrg
  obtain ⟨X,hX⟩ : ∃ X,Cy e zs = X:=⟨_,rfl⟩
  have hkp:=EL zs e
  rw [hX] at hdw hkp
  obtain ⟨Y,hY⟩ : ∃ Y,X.app ⟨4,tx,0,0,0,0,0,0⟩ = Y:=⟨_,rfl⟩
  have hYl : Y.log.length = e.log.length + 1:=by rw [← hY,J5,hkp.2.1]
  rw [hY] at hdw
  have HDW : Ac ({ Y with safe:=(Y.log.length : Int) } = DN e tx):=⟨by rw [hYl];exact hdw⟩
  have hlogX : AP (X.log ++ [Dj ⟨4,tx,0,0,0,0,0,0⟩ (Ao X.log tx X.log.length)]) = true:=by rw [hkp.2.1];exact hx.core.log
  have HADD : Ac (∀ wx vd' vm' vl',AU wx w0.heap.size vd' vm' vl' X → Below w0.heap.size w0 wx → Calls Tryz.prog 125 #[X.ag vd' vm' vl', .agg #[.int .i64 4, .int .i64 tx, .int .i64 0, .int .i64 0, .int .i64 0, .int .i64 0, .int .i64 0, .int .i64 0]] wx (H6 w0 wx vm' Y true)):=⟨fun wx vd' vm' vl' ho hb => by
    have h:=EC ⟨4,tx,0,0,0,0,0,0⟩ (by rw [hkp.1];exact hgm) hlogX (by rw [hkp.2.1];exact hx.Sr rfl (by simp)) (fun h => by simp [Cx] at h) hb ho
    rw [hY] at h
    exact h⟩
  have HLOOP : Ac (Cy e (Bf e.log isLoad (BD e.log n)) = X):=⟨by rw [hzs];exact hX⟩
  have HLG:=As hlog
  have HGM:=As hgm
  have HGD:=As hgd
  have HNL:=As hnl
  have HL150:=As (Bg hlog)
  have hn1 : ¬ (n : Int) = 0:=by omega
  have hn2 : ((n : Int) == 0) = false:=by rw [beq_eq_false_iff_ne];exact hn1
  clear hlast htx hx hlog hgd hgm hnl hzs hrg hdw hX hkp hY hYl hlogX hn hnz
  go_enter Tryz.func70,Tryz.ntmps70
  go_wp2_with (first
    | (rw [show (w.alloc (Obj.cells #[Value.slice Ad e.disk.length cd,Value.slice Am e.mem.length cm,Value.slice Al e.log.length cl,Value.int IntKind.i64 e.safe,Value.bool e.down] 28)).alloc (Obj.cells #[Value.slice none 0 0,Value.slice none 0 0,Value.slice none 0 0,Value.int IntKind.i64 0,Value.bool false] 28) = w1 from HW1.out])
    | (go_at_call 55;refine (BZ _ _ _ _).mono ?_;rw [H1.out];rintro x w' ⟨rfl,rfl⟩)
    | (go_at_call 115;refine (Dt (c:=cl) HLN.out (Below.refl w1.heap.size w1) HC1.out.l).mono ?_;rintro x w' ⟨rfl,rfl⟩))
  go_loopw [6] (fun i wr => ∃ (k : Nat) (x : Eng),k ≤ e.log.length ∧ i = .int .i64 (k : Int) ∧ Ac (∃ vd vm vl,Ai wr w.heap.size x vd vm vl ∧ AU wr w0.heap.size vd vm vl x) ∧ Ac (Ai wr (w.heap.size + 1) zE (.slice none 0 0) (.slice none 0 0) (.slice none 0 0)) ∧ Ac (Below w0.heap.size w0 wr ∧ Ba w wr ∧ w.heap.size + 2 ≤ wr.heap.size) ∧ Ac (x.log = e.log ∧ x.mem = e.mem ∧ geo x.disk ∧ Cy x (Bf e.log isLoad (BD e.log k)) = X)) (fun i _ => (intOf i).toNat)
  case atStart => exact ⟨n,e,HNL.out,rfl,⟨⟨_,_,_,HQ1.out,HO1.out⟩⟩,HP1,⟨⟨bj HB.out HB1.out,Ba.of_below HB1.out,by have:=HZ1.out;omega⟩⟩,⟨⟨rfl,rfl,HGD.out,HLOOP.out⟩⟩⟩
  case round =>
    clear x0 x1 x2 x3 x4 y0 y1 y2 y3 y4 f0 f1 f2 f3 f4 hn1 hn2
    obtain ⟨k,x,hk,rfl,HE,HP,HBr,HJ⟩:=hrel
    obtain ⟨vd,vm,vl,hq,ho⟩:=HE.out
    obtain ⟨Ed,n1,Em,n2,El,n3,rfl,rfl,rfl, -,hc⟩:=ho.reads
    have HQ:=As hq
    have HO:=As ho
    have HC:=As hc
    have x0:=hq.c0
    have x1:=hq.c1
    have x2:=hq.c2
    have x3:=hq.c3
    have x4:=hq.c4
    clear hq ho hc
    rcases k with _ | k
    · have hxX : x = X:=by
        have h:=HJ.out.2.2.2
        rw [Ck] at h
        exact h
      subst hxX
      go_wp2_with (first
        | (go_at_call 125;refine (HADD.out wr _ _ _ HO.out HBr.out.1).mono ?_;rintro y w6 ⟨ud,um,ul,rfl,ho,hb6,hk6⟩;obtain ⟨Bd,dd,Bm,dm,Bl,dl,rfl,rfl,rfl, -, -⟩:=ho.reads;have HO6:=As ho;have HP6:=As (HP.out.EH HO.out hk6);have HB6:=As (And.intro hb6 (And.intro (HBr.out.2.1.CG (Ba.JB HO.out hk6)) hk6.1));clear x0 x1 x2 x3 x4;clear ho hb6 hk6)
        | (refine Aw (vd:=.slice Bd Y.disk.length dd) (vm:=.slice Bm Y.mem.length dm) (vl:=.slice Bl Y.log.length dl) Y ?_;intro w7 hb7 hz7 hq7;clear hz7;have HQ7:=As hq7;have HO7:=As (HO6.out.below hb7);have hp7:=HP6.out.up hb7;have HP7:=As hp7;have HB7:=As (And.intro (bj HB6.out.1 hb7) (HB6.out.2.1.CG (Ba.of_below hb7)));have hne1 : ¬ w6.heap.size = w.heap.size + 1:=(by have:=HB6.out.2.2;have:=HBr.out.2.2;omega);have hne2 : ¬ w.heap.size + 1 = w6.heap.size:=fun e => hne1 e.symm;have g3:=hq7.frz 3;have x0:=hq7.c0;have x1:=hq7.c1;have x2:=hq7.c2;have x3:=hq7.c3;have x4:=hq7.c4;have y0:=hp7.c0;have y1:=hp7.c1;have y2:=hp7.c2;have y3:=hp7.c3;have y4:=hp7.c4;have f0:=hp7.frz 0;have f1:=hp7.frz 1;have f2:=hp7.frz 2;have f3:=hp7.frz 3;have f4:=hp7.frz 4;clear hb7 hq7 hp7))
      have hge : w.heap.size ≤ w6.heap.size:=HB6.out.2.1.1
      have hs0:=HB.out.size
      have r1:=HO7.out.Fe HQ7.out 3 (.int .i64 (Y.log.length : Int))
      have p1:=HP7.out.far (b:=w6.heap.size) (by omega) 3 (.int .i64 (Y.log.length : Int))
      have b1:=HB7.out.1.setCell (p:=⟨w6.heap.size,3,none⟩) (by show w0.heap.size ≤ w6.heap.size;omega) (.int .i64 (Y.log.length : Int))
      have k1:=HB7.out.2.setCell (p:=⟨w6.heap.size,3,none⟩) hge (.int .i64 (Y.log.length : Int))
      have hy:=p1.Az { Y with safe:=(Y.log.length : Int) } (.slice Bd Y.disk.length dd) (.slice Bm Y.mem.length dm) (.slice Bl Y.log.length dl)
      have h1:=r1.Az (f:={ Y with safe:=(Y.log.length : Int) }) (xd:=.slice Bd Y.disk.length dd) (xm:=.slice Bm Y.mem.length dm) (xl:=.slice Bl Y.log.length dl) p1
      have h2:=Ak (g:=w.heap.size + 1) b1 (by omega) { Y with safe:=(Y.log.length : Int) } (.slice Bd Y.disk.length dd) (.slice Bm Y.mem.length dm) (.slice Bl Y.log.length dl)
      have h3:=k1.Az (g:=w.heap.size + 1) (Nat.le_succ _) { Y with safe:=(Y.log.length : Int) } (.slice Bd Y.disk.length dd) (.slice Bm Y.mem.length dm) (.slice Bl Y.log.length dl)
      have z0:=hy.c0
      have z1:=hy.c1
      have z2:=hy.c2
      have z3:=hy.c3
      have z4:=hy.c4
      simp only at z0 z1 z2 z3 z4
      exact bodyPost_ret (v:=.tuple #[.agg #[.slice Bd Y.disk.length dd, .slice Bm Y.mem.length dm, .slice Bl Y.log.length dl, .int .i64 (Y.log.length : Int), .bool Y.down], .bool true]) (by simp [results,Tryz.results70,go_sem,z0,z1,z2,z3,z4]) rfl (by rw [← HDW.out];exact ⟨.slice Bd Y.disk.length dd, .slice Bm Y.mem.length dm, .slice Bl Y.log.length dl,rfl,⟨h1.ex,h1.l⟩,h2,h3⟩)
    · have hkl : k < x.log.length:=by rw [HJ.out.1];omega
      have F:=AB HLG.out (k:=k) (by omega)
      obtain ⟨ad,rfl,QR⟩:=Cb HC.out.l k hkl
      rw [HJ.out.1] at QR
      obtain ⟨z0,z1,z2,z3,z4,z5,z6,z7⟩:=QR
      rw [F.prev] at z6
      have hpl:=Qd F.prev_le
      have hple:=F.prev_le
      have HOKR:=As F.ok
      have hk150 : k < 150:=by have:=HL150.out;omega
      have hwr0 : IntKind.i64.wrap (k : Int) = (k : Int):=by simp (disch:=omega) only [IntWalk.i64_in]
      have hwr1 : IntKind.i64.wrap (((k + 1 : Nat) : Int) - 1) = (k : Int):=by rw [show (((k + 1 : Nat) : Int) - 1) = (k : Int) by omega];exact hwr0
      have hwr2 : IntKind.i64.wrap ((k : Int) + 1 - 1) = (k : Int):=by rw [show ((k : Int) + 1 - 1) = (k : Int) by omega];exact hwr0
      rcases BS (rc e.log k).kind 3 with ⟨e1,b1,c1⟩ | ⟨e1,b1,c1⟩
      rotate_left
      · rw [if_neg e1.out] at hpl
        have HNX : Ac (Cy x (Bf e.log isLoad (BD e.log (BK e.log (k + 1)))) = X):=⟨by rw [← hpl];exact HJ.out.2.2.2⟩
        clear hpl F
        go_wp2
        go_roundw
        case rel => exact ⟨BK e.log (k + 1),x,by omega,rfl,HE,HP,HBr,⟨⟨HJ.out.1,HJ.out.2.1,HJ.out.2.2.1,HNX.out⟩⟩⟩
        case measure => simp [intOf];omega
      rw [if_pos e1.out] at hpl
      have hpr : 0 ≤ (rc e.log k).page ∧ (rc e.log k).page < 5:=by have h3:=HOKR.out;rw [D7] at h3;have:=e1.out;omega
      obtain ⟨p,hp⟩ : ∃ p : Nat,(rc e.log k).page = (p : Int):=⟨(rc e.log k).page.toNat,by omega⟩
      rw [hp] at hpl z2
      obtain ⟨E,hE⟩ : ∃ E,CS x p = E:=⟨_,rfl⟩
      have hEk : E.log = e.log ∧ E.mem = e.mem ∧ geo E.disk ∧ E.disk.length = x.disk.length ∧ E.mem.length = x.mem.length ∧ E.log.length = x.log.length:=by
        rw [← hE]
        exact ⟨HJ.out.1,HJ.out.2.1,Lm HJ.out.2.2.1 (G7 (by rw [HJ.out.2.1];exact HGM.out) (by omega)),by simp [CS],rfl,rfl⟩
      have HEK:=As hEk
      have HNX : Ac (Cy E (Bf e.log isLoad (BD e.log (BK e.log (k + 1)))) = X):=⟨by have h:=HJ.out.2.2.2;rw [hpl] at h;rw [← hE];exact h⟩
      have HWR : Ac (∀ wx,AU wx w0.heap.size (.slice Ed x.disk.length n1) (.slice Em x.mem.length n2) (.slice (some ad) x.log.length n3) x → Below w0.heap.size w0 wx → Calls Tryz.prog 72 #[x.val Ed Em (some ad) n1 n2 n3, .int .i64 (p : Int)] wx (VW w0 wx (.slice Ed x.disk.length n1) (.slice Em x.mem.length n2) (.slice (some ad) x.log.length n3) E)):=⟨fun wx ho hb => hE ▸ JE (by omega) HJ.out.2.2.1 (by rw [HJ.out.2.1];exact HGM.out) hb ho⟩
      clear hpl F hpr hp hE hEk
      go_wp2
      refine AX (fun lx a wx => (Below w0.heap.size w0 wx ∧ Kept wr wx (fun k => some k = (Value.slice Ed x.disk.length n1).ownBlock)) ∧ (Un 8 (fun wx => Below wr.heap.size wr wx) lx a wx ∧ Sl 8 53 (fun v wx => AU wx w0.heap.size (.slice Ed x.disk.length n1) (.slice Em x.mem.length n2) (.slice (some ad) x.log.length n3) E) lx a wx)) 9 rfl (by kernel_rfl) (⟨⟨Aj HBr.out.1,Kept.drew (Kept.refl _ _)⟩,fun _ => Aj (Below.refl _ _),AZ⟩) (fun HT => ?_)
      refine Aq (i:=0) (v:=?_) 8 HT rfl (by kernel_rfl) (by kernel_rfl) rfl (kA Aa (kA (Af rfl) (Ab rfl rfl))) (by rfl) (fun _ _ _ h => h) (fun lx ax wx hK hS => ?_) ?_;rotate_left;(have hbx:=hS.2.1 hK;clear hS;replace x0:=bc hbx x0;replace x1:=bc hbx x1;replace x2:=bc hbx x2;replace x3:=bc hbx x3;replace x4:=bc hbx x4;replace z2:=bc hbx z2;go_simp;with_reducible rfl);rotate_left;simp only [sc0,sc1]
      refine Aq (i:=1) (v:=?_) 8 HT rfl (by kernel_rfl) (by kernel_rfl) rfl (kA Aa (kA (Af rfl) (Ab rfl rfl))) (by rfl) (fun _ _ _ h => h) (fun lx ax wx hK hS => ?_) ?_;rotate_left;(have hbx:=hS.2.1 hK;clear hS;replace x0:=bc hbx x0;replace x1:=bc hbx x1;replace x2:=bc hbx x2;replace x3:=bc hbx x3;replace x4:=bc hbx x4;replace z2:=bc hbx z2;go_simp;with_reducible rfl);rotate_left;simp only [sc0,sc1]
      refine Aq (i:=2) (v:=?_) 8 HT rfl (by kernel_rfl) (by kernel_rfl) rfl (kA Aa (kA (Af rfl) (Ab rfl rfl))) (by rfl) (fun _ _ _ h => h) (fun lx ax wx hK hS => ?_) ?_;rotate_left;(have hbx:=hS.2.1 hK;clear hS;replace x0:=bc hbx x0;replace x1:=bc hbx x1;replace x2:=bc hbx x2;replace x3:=bc hbx x3;replace x4:=bc hbx x4;replace z2:=bc hbx z2;go_simp;with_reducible rfl);rotate_left;simp only [sc0,sc1]
      refine Aq (i:=3) (v:=?_) 8 HT rfl (by kernel_rfl) (by kernel_rfl) rfl (kA Aa (kA (Af rfl) (Ab rfl rfl))) (by rfl) (fun _ _ _ h => h) (fun lx ax wx hK hS => ?_) ?_;rotate_left;(have hbx:=hS.2.1 hK;clear hS;replace x0:=bc hbx x0;replace x1:=bc hbx x1;replace x2:=bc hbx x2;replace x3:=bc hbx x3;replace x4:=bc hbx x4;replace z2:=bc hbx z2;go_simp;with_reducible rfl);rotate_left;simp only [sc0,sc1]
      refine Aq (i:=4) (v:=?_) 8 HT rfl (by kernel_rfl) (by kernel_rfl) rfl (kA Aa (kA (Af rfl) (Ab rfl rfl))) (by rfl) (fun _ _ _ h => h) (fun lx ax wx hK hS => ?_) ?_;rotate_left;(have hbx:=hS.2.1 hK;clear hS;replace x0:=bc hbx x0;replace x1:=bc hbx x1;replace x2:=bc hbx x2;replace x3:=bc hbx x3;replace x4:=bc hbx x4;replace z2:=bc hbx z2;go_simp;with_reducible rfl);rotate_left;simp only [sc0,sc1]
      refine Aq (i:=5) (v:=?_) 8 HT rfl (by kernel_rfl) (by kernel_rfl) rfl (kA Aa (kA (Af rfl) (Ab rfl rfl))) (by rfl) (fun _ _ _ h => h) (fun lx ax wx hK hS => ?_) ?_;rotate_left;(have hbx:=hS.2.1 hK;clear hS;replace x0:=bc hbx x0;replace x1:=bc hbx x1;replace x2:=bc hbx x2;replace x3:=bc hbx x3;replace x4:=bc hbx x4;replace z2:=bc hbx z2;go_simp;with_reducible rfl);rotate_left;simp only [sc0,sc1]
      refine Aq (i:=6) (v:=?_) 8 HT rfl (by kernel_rfl) (by kernel_rfl) rfl (kA Aa (kA (Af rfl) (Ab rfl rfl))) (by rfl) (fun _ _ _ h => h) (fun lx ax wx hK hS => ?_) ?_;rotate_left;(have hbx:=hS.2.1 hK;clear hS;replace x0:=bc hbx x0;replace x1:=bc hbx x1;replace x2:=bc hbx x2;replace x3:=bc hbx x3;replace x4:=bc hbx x4;replace z2:=bc hbx z2;go_simp;with_reducible rfl);rotate_left;simp only [sc0,sc1]
      refine Aq (i:=7) (v:=?_) 8 HT rfl (by kernel_rfl) (by kernel_rfl) rfl (kA Aa (kA (Af rfl) (Ab rfl rfl))) (by rfl) (fun _ _ _ h => h) (fun lx ax wx hK hS => ?_) ?_;rotate_left;(have hbx:=hS.2.1 hK;clear hS;replace x0:=bc hbx x0;replace x1:=bc hbx x1;replace x2:=bc hbx x2;replace x3:=bc hbx x3;replace x4:=bc hbx x4;replace z2:=bc hbx z2;go_simp;with_reducible rfl);rotate_left;simp only [sc0,sc1]
      refine BR (i:=8) (f:=72) (args:=#[x.val Ed Em (some ad) n1 n2 n3, .int .i64 (p : Int)]) (fun v => v = E.ag (.slice Ed x.disk.length n1) (.slice Em x.mem.length n2) (.slice (some ad) x.log.length n3)) rfl (by kernel_rfl) rfl Tryz.func72 (by kernel_rfl) rfl rfl (by rfl) (by simp only [List.map_toArray,List.map_cons,List.map_nil];rfl) (fun wx hS => (HWR.out wx (HO.out.below (hS.2.1 (by kernel_rfl))) hS.1.1).mono (by rintro y w6 ⟨rfl,ho,hb,hk⟩;exact ⟨_,rfl,rfl,⟨hb,hS.1.2.CG hk (fun k hk => .inl hk)⟩,fun h => (AA (by kernel_rfl) h).elim,fun _ => ho⟩)) (fun vx hg => ?_);simp only [sc0,sc1]
      subst hg
      refine BQ (i:=9) (by kernel_rfl) rfl (fun wx hS => ?_)
      obtain ⟨⟨h1,h2⟩, -,h3⟩:=hS
      have hown:=h3 (by kernel_rfl)
      have hkt:=Ba.Qj HO.out h2
      have hq5:=HQ.out.Jf hkt
      have hp5:=HP.out.Jf hkt
      clear x0 x1 x2 x3 x4
      have x0:=hq5.c0
      have x1:=hq5.c1
      have x2:=hq5.c2
      have x3:=hq5.c3
      have x4:=hq5.c4
      have f0:=hq5.frz 0
      have f1:=hq5.frz 1
      have f2:=hq5.frz 2
      have f3:=hq5.frz 3
      have f4:=hq5.frz 4
      refine Bh (w1:=Go.Proofs.YtpjmlpmhgfghbaaGreat.Az wx w.heap.size E (.slice Ed x.disk.length n1) (.slice Em x.mem.length n2) (.slice (some ad) x.log.length n3)) rfl (by rfl) (by go_simp) ?_
      have hq6:=hq5.Az E (.slice Ed x.disk.length n1) (.slice Em x.mem.length n2) (.slice (some ad) x.log.length n3)
      have ho6:=hown.Az (f:=E) (xd:=.slice Ed x.disk.length n1) (xm:=.slice Em x.mem.length n2) (xl:=.slice (some ad) x.log.length n3) hq5
      have hp6 : Ai (Go.Proofs.YtpjmlpmhgfghbaaGreat.Az wx w.heap.size E (.slice Ed x.disk.length n1) (.slice Em x.mem.length n2) (.slice (some ad) x.log.length n3)) (w.heap.size + 1) zE (.slice none 0 0) (.slice none 0 0) (.slice none 0 0):=((((hp5.far (b:=w.heap.size) (by omega) 0 _).far (b:=w.heap.size) (by omega) 1 _).far (b:=w.heap.size) (by omega) 2 _).far (b:=w.heap.size) (by omega) 3 _).far (b:=w.heap.size) (by omega) 4 _
      have hb6:=Ak (g:=w.heap.size) h1 HB.out.size E (.slice Ed x.disk.length n1) (.slice Em x.mem.length n2) (.slice (some ad) x.log.length n3)
      have hk6:=(HBr.out.2.1.CG hkt).Az (Nat.le_refl _) E (.slice Ed x.disk.length n1) (.slice Em x.mem.length n2) (.slice (some ad) x.log.length n3)
      obtain ⟨w9,hw9⟩ : ∃ w9,Go.Proofs.YtpjmlpmhgfghbaaGreat.Az wx w.heap.size E (.slice Ed x.disk.length n1) (.slice Em x.mem.length n2) (.slice (some ad) x.log.length n3) = w9:=⟨_,rfl⟩
      have hs9 : w.heap.size + 2 ≤ w9.heap.size:=by
        have h4:=h2.1
        have h5:=HBr.out.2.2
        rw [← hw9]
        simp
        omega
      rw [hw9] at hq6 ho6 hp6 hb6 hk6 ⊢
      have hlE : x.log.length = E.log.length:=HEK.out.2.2.2.2.2.symm
      have hC9 : Kd.C C8 w9 (some ad) E.log.length E.log:=Uv ho6
      obtain ⟨ad',had,QR9⟩:=Cb hC9 k (by rw [← hlE];exact hkl)
      injection had with had
      subst had
      rw [HEK.out.1] at QR9
      have z6':=QR9.c6
      rw [(AB HLG.out (k:=k) (by omega)).prev] at z6'
      have x2':=hq6.c2
      have HE9 : Ac (∃ vd vm vl,Ai w9 w.heap.size E vd vm vl ∧ AU w9 w0.heap.size vd vm vl E):=⟨⟨_,_,_,hq6,ho6⟩⟩
      have HP9:=As hp6
      have HB9 : Ac (Below w0.heap.size w0 w9 ∧ Ba w w9 ∧ w.heap.size + 2 ≤ w9.heap.size):=⟨⟨hb6,hk6,hs9⟩⟩
      clear h1 h2 h3 hown hkt hq5 hp5 hq6 ho6 hp6 hb6 hk6 hs9 hw9 x0 x1 x2 x3 x4 f0 f1 f2 f3 f4 hC9 QR9 z0 z1 z2 z3 z4 z5 z6 z7 hlE
      refine BB (by kernel_rfl) ?_
      go_wp2
      go_roundw
      case rel => exact ⟨BK e.log (k + 1),E,by omega,rfl,HE9,HP9,HB9,⟨⟨HEK.out.1,HEK.out.2.1,HEK.out.2.2.1,HNX.out⟩⟩⟩
      case measure => simp [intOf];omega
def Ou (l : List Rec) (page : Int) (n : Nat) : Bool:=(BD l n).any fun m => (rc l (m - 1)).kind == 2 && ((rc l (m - 1)).page == page && (rc l (m - 1)).new != 0)
theorem Rc {l : List Rec} {page : Int} {n : Nat} (h : BK l (n + 1) ≤ n) : Ou l page (n + 1) = (((rc l n).kind == 2 && ((rc l n).page == page && (rc l n).new != 0)) || Ou l page (BK l (n + 1))):=by
  simp [Ou,DV h]
set_option maxRecDepth 100000 in
set_option maxHeartbeats 8000000 in
theorem Kj {w0 w : World} {A : Option Addr} {c : Nat} {l : List Rec} {tx page : Int} {b : Bool} (hv : Mr l tx page = b) (hb : Below w0.heap.size w0 w) (hr : Kd.C C8 w0 A l.length l) (hl : AP l = true) : Calls Tryz.prog 127 #[.slice A l.length c, .int .i64 tx, .int .i64 page] w fun x w' => x = .returned (.bool b) ∧ Below w.heap.size w w':=by
  have HR:=As hr
  have HB:=As hb
  have HL:=As hl
  have HV : Ac (Ou l page (Ao l tx l.length) = b):=⟨hv⟩
  have hm:=(D5 hr).2
  clear hr hb hl hv
  go_enter Tryz.func127,Tryz.ntmps127
  go_wp2_with (go_at_call 115;refine (IX tx HB.out HR.out).mono ?_;rintro e w' ⟨rfl,rfl⟩)
  go_loopw [7] (fun i wr => ∃ k : Nat,k ≤ l.length ∧ i = .int .i64 (k : Int) ∧ Ac (Ou l page k = b) ∧ Ac (Below w.heap.size w wr)) (fun i _ => (intOf i).toNat)
  case atStart => exact ⟨Ao l tx l.length,Bb _ _ _,rfl,HV,⟨Below.refl _ _⟩⟩
  case round =>
    obtain ⟨k,hk,rfl,HK,HW⟩:=hrel
    rcases k with _ | k
    · go_wp2
      go_ret
      exact ⟨AJ (by rw [← HK.out,Ou,Ck];rfl),HW.out⟩
    · have F:=AB HL.out (k:=k) (by omega)
      obtain ⟨ad,rfl,QR⟩:=Cb HR.out k (by omega)
      have QW:=QR.up (bj HB.out HW.out)
      have HQW:=As QW
      obtain ⟨z0,z1,z2,z3,z4,z5,z6,z7⟩:=QW
      have HP:=As (Rc (page:=page) F.prev_le)
      have hle:=F.prev_le
      have hnw : (rc l k).kind = 2 → 0 ≤ (rc l k).new:=fun h2 => by
        have h3:=F.ok
        rw [D7] at h3
        omega
      have HF6:=As F.prev
      have HNW:=As hnw
      clear F QR hnw
      rcases BS (rc l k).kind 2 with ⟨e1,b1,c1⟩ | ⟨e1,b1,c1⟩
      all_goals rcases BS (rc l k).page page with ⟨e2,b2,c2⟩ | ⟨e2,b2,c2⟩
      all_goals rcases lts 0 (rc l k).new with ⟨e3,b3,c3⟩ | ⟨e3,b3,c3⟩
      all_goals
        go_wp2_with (with_reducible refine Ct (rc l k) ?_;intro w2 hb2 hz2 hq2;clear hz2;have HW2:=As (bj HW.out hb2);obtain ⟨q0,q1,q2,q3,q4,q5,q6,q7⟩:=hq2;simp only [Nat.zero_add] at q1 q2 q3 q4 q5 q6 q7;have z6:=(HQW.out.up hb2).c6;rw [HF6.out] at z6;clear hb2)
        first
          | (go_ret;exact ⟨AJ (by rw [← HK.out,HP.out,b1,b2,show ((rc l k).new != 0) = true by have:=e3.out;simp;omega];rfl),HW2.out⟩)
          | (go_roundw
             case rel => exact ⟨BK l (k + 1),by omega,rfl,⟨by
               rw [← HK.out,HP.out]
               have h3:=e3.out
               first
                 | rw [b1,Bool.false_and,Bool.false_or]
                 | rw [b1,b2,Bool.false_and,Bool.and_false,Bool.false_or]
                 | rw [b1,b2,show ((rc l k).new != 0) = false by have:=HNW.out e1.out;simp;omega];rfl⟩,HW2⟩
             case measure => simp [intOf];omega)
set_option maxRecDepth 100000 in
set_option maxHeartbeats 16000000 in
theorem O7 {w0 w : World} {e : Eng} {C : Nat → Page} {B : Nat} {vd vm vl : Value} {Av : Option Addr} {cv : Nat} (tx page : Int) (vals : List Int) (hi : Inv e C B) (hB : B + 3 ≤ 150) (hb : Below w0.heap.size w0 w) (hr : AU w w0.heap.size vd vm vl e) (hv : ∀ wx,Below w0.heap.size w0 wx → Ba w wx → Kd.C (Kd.int .i64) wx Av vals.length vals) : Calls Tryz.prog 69 #[e.ag vd vm vl, .int .i64 tx, .int .i64 page, .slice Av vals.length cv] w (I8 w0 w (GN e tx page vals).1 (GN e tx page vals).2):=by
  have hFE : GN e tx page vals = if Kh e tx page vals = true then (JD e tx page vals,true) else (e,false):=Inv.Pv (fun hp => hi.Qs hB hp)
  have HFE:=As hFE
  have HBB:=As hB
  clear hFE hB
  obtain ⟨Ad,cd,Am,cm,Al,cl,rfl,rfl,rfl,hcl,hrd⟩:=hr.reads
  obtain ⟨w1a,hw1a⟩ : ∃ w1a,w.alloc (e.obox (.slice Ad e.disk.length cd) (.slice Am e.mem.length cm) (.slice Al e.log.length cl)) = w1a:=⟨_,rfl⟩
  obtain ⟨w1,hw1⟩ : ∃ w1,w1a.alloc (zE.obox (.slice none 0 0) (.slice none 0 0) (.slice none 0 0)) = w1:=⟨_,rfl⟩
  have hza : w1a.heap.size = w.heap.size + 1:=by rw [← hw1a];exact BA _ _
  have hz1 : w1.heap.size = w.heap.size + 2:=by rw [← hw1,BA,hza]
  have hba : Below w1a.heap.size w1a w1:=by rw [← hw1];exact Ah (Below.refl _ _) _
  have hb1 : Below w.heap.size w w1:=by rw [← hw1, ← hw1a];exact Ah (Ah (Below.refl _ _) _) _
  have HQ1 : Ac (Ai w1 w.heap.size e (.slice Ad e.disk.length cd) (.slice Am e.mem.length cm) (.slice Al e.log.length cl)):=⟨Ai.up (by rw [← hw1a];exact Ai.mk1 _ _ _ _ _) hba⟩
  have HP1 : Ac (Ai w1 (w.heap.size + 1) zE (.slice none 0 0) (.slice none 0 0) (.slice none 0 0)):=⟨by rw [← hw1, ← hza];exact Ai.mk1 _ _ _ _ _⟩
  have HW1 : Ac ((w.alloc (Obj.cells #[Value.slice Ad e.disk.length cd,Value.slice Am e.mem.length cm,Value.slice Al e.log.length cl,Value.int IntKind.i64 e.safe,Value.bool e.down] 28)).alloc (Obj.cells #[Value.slice none 0 0,Value.slice none 0 0,Value.slice none 0 0,Value.int IntKind.i64 0,Value.bool false] 28) = w1):=⟨by rw [← hw1, ← hw1a];rfl⟩
  have HZ1:=As hz1
  have HB1:=As hb1
  have HB:=As hb
  have HO1:=As (hr.below hb1)
  have HC1:=As (hrd.up hb1)
  have HI:=As hi
  have x0:=HQ1.out.c0
  have x1:=HQ1.out.c1
  have x2:=HQ1.out.c2
  have x3:=HQ1.out.c3
  have x4:=HQ1.out.c4
  have y0:=HP1.out.c0
  have y1:=HP1.out.c1
  have y2:=HP1.out.c2
  have y3:=HP1.out.c3
  have y4:=HP1.out.c4
  have f0:=HP1.out.frz 0
  have f1:=HP1.out.frz 1
  have f2:=HP1.out.frz 2
  have f3:=HP1.out.frz 3
  have f4:=HP1.out.frz 4
  clear hw1a hw1 hza hz1 hba hb1 hb hr hrd hi
  have HV0:=As hv
  have HV:=As (hv _ (bj HB.out HB1.out) (Ba.of_below HB1.out))
  have hmx:=(D5 (hv w HB.out (Ba.refl w))).2
  clear hv
  obtain ⟨m,hm⟩ : ∃ m,DL e tx page = m:=⟨_,rfl⟩
  have HM:=As hm
  clear hm
  cases m
  · rw [HFE.out,if_neg (by rw [Kh,HM.out];simp)]
    go_enter Tryz.func69,Tryz.ntmps69
    go_wp2_with (first
      | (rw [show (w.alloc (Obj.cells #[Value.slice Ad e.disk.length cd,Value.slice Am e.mem.length cm,Value.slice Al e.log.length cl,Value.int IntKind.i64 e.safe,Value.bool e.down] 28)).alloc (Obj.cells #[Value.slice none 0 0,Value.slice none 0 0,Value.slice none 0 0,Value.int IntKind.i64 0,Value.bool false] 28) = w1 from HW1.out])
      | (go_at_call 124;refine (BP (cd:=cd) (cm:=cm) (cl:=cl) tx page HM.out HI.out.core (Below.refl w1.heap.size w1) HC1.out).mono ?_;rintro x w2 ⟨rfl,hb2⟩;have HO2:=HO1;have HB2:=HB1;have HBM : Ac (Below w1.heap.size w1 w1):=⟨Below.refl _ _⟩;have HP2:=HP1;replace x0:=bc hb2 x0;replace x1:=bc hb2 x1;replace x2:=bc hb2 x2;replace x3:=bc hb2 x3;replace x4:=bc hb2 x4;clear y0 y1 y2 y3 y4 f0 f1 f2 f3 f4;replace HO2:=As (HO2.out.below hb2);replace HB2:=As (bj HB2.out hb2);replace HBM:=As (bj HBM.out hb2);have hp:=HP2.out.up hb2;replace HP2:=As hp;have y0:=hp.c0;have y1:=hp.c1;have y2:=hp.c2;have y3:=hp.c3;have y4:=hp.c4;have f0:=hp.frz 0;have f1:=hp.frz 1;have f2:=hp.frz 2;have f3:=hp.frz 3;have f4:=hp.frz 4;clear hp hb2))
    have hz:=HZ1.out
    have hs0:=HB.out.size
    have hy:=HP2.out.Az e (.slice Ad e.disk.length cd) (.slice Am e.mem.length cm) (.slice Al e.log.length cl)
    have h1:=HO2.out.Az (f:=e) (xd:=.slice Ad e.disk.length cd) (xm:=.slice Am e.mem.length cm) (xl:=.slice Al e.log.length cl) HP2.out
    have h2:=Ak (g:=w.heap.size + 1) (bj HB.out HB2.out) (by omega) e (.slice Ad e.disk.length cd) (.slice Am e.mem.length cm) (.slice Al e.log.length cl)
    have h3:=Ak (g:=w.heap.size + 1) HB2.out (by omega) e (.slice Ad e.disk.length cd) (.slice Am e.mem.length cm) (.slice Al e.log.length cl)
    have z0:=hy.c0
    have z1:=hy.c1
    have z2:=hy.c2
    have z3:=hy.c3
    have z4:=hy.c4
    exact bodyPost_ret (v:=.tuple #[e.ag (.slice Ad e.disk.length cd) (.slice Am e.mem.length cm) (.slice Al e.log.length cl), .bool false]) (by simp [results,Tryz.results69,go_sem,z0,z1,z2,z3,z4]) rfl ⟨_,_,_,rfl,h1,h2,Ba.of_below h3⟩
  have hmp:=(Dv.1 HM.out).2.2.1
  obtain ⟨p,rfl⟩ : ∃ p : Nat,page = (p : Int):=⟨page.toNat,by omega⟩
  have hp5 : p < 5:=by omega
  have hp5i : (p : Int) < 5:=by omega
  have hgm:=Ay HI.out.Gb
  have hmem5:=hgm.1
  obtain ⟨okd,okm, -, -,hpm⟩:=HO1.out.ex
  obtain ⟨gm,capm,hAm, -, -⟩:=Cq hpm (by omega)
  injection hAm with hA1 hA2 hA3
  clear hA2
  subst hA1 hA3
  have hpl : p < e.mem.length:=by omega
  have hpli : (p : Int) < (e.mem.length : Int):=by omega
  obtain ⟨A2,c2,p0,p1,p2,pC, -⟩:=DC hpm p hpl
  have HGM:=As hgm
  have HPC:=As pC
  have HP5:=As hp5
  obtain ⟨P,hP⟩ : ∃ P,pg e.mem p = P:=⟨_,rfl⟩
  have HPP:=As hP
  rw [hP] at p0 p1 p2 HPC
  have HFB : Ac (Kh e tx (p : Int) vals = true ↔ P.owner ≠ 0 ∧ EK P.vals = true ∧ FC vals = true ∧ Mr e.log tx (p : Int) = true):=⟨by rw [Kh,HM.out,Int.toNat_natCast,hP];simp⟩
  clear hmp hgm hpm pC hP hmem5
  rcases BS (vals.length : Int) 3 with ⟨e1,b1,c1⟩ | ⟨e1,b1,c1⟩
  rotate_left
  · rw [HFE.out,if_neg (fun h => by have:=(HFB.out.1 h).2.2.1;simp only [FC,Bool.and_eq_true,beq_iff_eq] at this;exact e1.out (by omega))]
    go_enter Tryz.func69,Tryz.ntmps69
    go_wp2_with (first
      | (rw [show (w.alloc (Obj.cells #[Value.slice Ad e.disk.length cd,Value.slice (some ⟨gm,0,none⟩) e.mem.length cm,Value.slice Al e.log.length cl,Value.int IntKind.i64 e.safe,Value.bool e.down] 28)).alloc (Obj.cells #[Value.slice none 0 0,Value.slice none 0 0,Value.slice none 0 0,Value.int IntKind.i64 0,Value.bool false] 28) = w1 from HW1.out])
      | (go_at_call 124;refine (BP (cd:=cd) (cm:=cm) (cl:=cl) tx (p : Int) HM.out HI.out.core (Below.refl w1.heap.size w1) HC1.out).mono ?_;rintro x w2 ⟨rfl,hb2⟩;have HO2:=HO1;have HB2:=HB1;have HBM : Ac (Below w1.heap.size w1 w1):=⟨Below.refl _ _⟩;have HP2:=HP1;replace x0:=bc hb2 x0;replace x1:=bc hb2 x1;replace x2:=bc hb2 x2;replace x3:=bc hb2 x3;replace x4:=bc hb2 x4;replace p0:=bc hb2 p0;replace p1:=bc hb2 p1;replace p2:=bc hb2 p2;clear y0 y1 y2 y3 y4 f0 f1 f2 f3 f4;replace HO2:=As (HO2.out.below hb2);replace HB2:=As (bj HB2.out hb2);replace HBM:=As (bj HBM.out hb2);have hp:=HP2.out.up hb2;replace HP2:=As hp;have y0:=hp.c0;have y1:=hp.c1;have y2:=hp.c2;have y3:=hp.c3;have y4:=hp.c4;have f0:=hp.frz 0;have f1:=hp.frz 1;have f2:=hp.frz 2;have f3:=hp.frz 3;have f4:=hp.frz 4;clear hp hb2))
    have hz:=HZ1.out
    have hs0:=HB.out.size
    have hy:=HP2.out.Az e (.slice Ad e.disk.length cd) (.slice (some ⟨gm,0,none⟩) e.mem.length cm) (.slice Al e.log.length cl)
    have h1:=HO2.out.Az (f:=e) (xd:=.slice Ad e.disk.length cd) (xm:=.slice (some ⟨gm,0,none⟩) e.mem.length cm) (xl:=.slice Al e.log.length cl) HP2.out
    have h2:=Ak (g:=w.heap.size + 1) (bj HB.out HB2.out) (by omega) e (.slice Ad e.disk.length cd) (.slice (some ⟨gm,0,none⟩) e.mem.length cm) (.slice Al e.log.length cl)
    have h3:=Ak (g:=w.heap.size + 1) HB2.out (by omega) e (.slice Ad e.disk.length cd) (.slice (some ⟨gm,0,none⟩) e.mem.length cm) (.slice Al e.log.length cl)
    have z0:=hy.c0
    have z1:=hy.c1
    have z2:=hy.c2
    have z3:=hy.c3
    have z4:=hy.c4
    exact bodyPost_ret (v:=.tuple #[e.ag (.slice Ad e.disk.length cd) (.slice (some ⟨gm,0,none⟩) e.mem.length cm) (.slice Al e.log.length cl), .bool false]) (by simp [results,Tryz.results69,go_sem,z0,z1,z2,z3,z4]) rfl ⟨_,_,_,rfl,h1,h2,Ba.of_below h3⟩
  rcases BS P.owner 0 with ⟨e2,b2,c2_⟩ | ⟨e2,b2,c2_⟩
  · rw [HFE.out,if_neg (fun h => (HFB.out.1 h).1 e2.out)]
    go_enter Tryz.func69,Tryz.ntmps69
    go_wp2_with (first
      | (rw [show (w.alloc (Obj.cells #[Value.slice Ad e.disk.length cd,Value.slice (some ⟨gm,0,none⟩) e.mem.length cm,Value.slice Al e.log.length cl,Value.int IntKind.i64 e.safe,Value.bool e.down] 28)).alloc (Obj.cells #[Value.slice none 0 0,Value.slice none 0 0,Value.slice none 0 0,Value.int IntKind.i64 0,Value.bool false] 28) = w1 from HW1.out])
      | (go_at_call 124;refine (BP (cd:=cd) (cm:=cm) (cl:=cl) tx (p : Int) HM.out HI.out.core (Below.refl w1.heap.size w1) HC1.out).mono ?_;rintro x w2 ⟨rfl,hb2⟩;have HO2:=HO1;have HB2:=HB1;have HBM : Ac (Below w1.heap.size w1 w1):=⟨Below.refl _ _⟩;have HP2:=HP1;replace x0:=bc hb2 x0;replace x1:=bc hb2 x1;replace x2:=bc hb2 x2;replace x3:=bc hb2 x3;replace x4:=bc hb2 x4;replace p0:=bc hb2 p0;replace p1:=bc hb2 p1;replace p2:=bc hb2 p2;clear y0 y1 y2 y3 y4 f0 f1 f2 f3 f4;replace HO2:=As (HO2.out.below hb2);replace HB2:=As (bj HB2.out hb2);replace HBM:=As (bj HBM.out hb2);have hp:=HP2.out.up hb2;replace HP2:=As hp;have y0:=hp.c0;have y1:=hp.c1;have y2:=hp.c2;have y3:=hp.c3;have y4:=hp.c4;have f0:=hp.frz 0;have f1:=hp.frz 1;have f2:=hp.frz 2;have f3:=hp.frz 3;have f4:=hp.frz 4;clear hp hb2))
    have hz:=HZ1.out
    have hs0:=HB.out.size
    have hy:=HP2.out.Az e (.slice Ad e.disk.length cd) (.slice (some ⟨gm,0,none⟩) e.mem.length cm) (.slice Al e.log.length cl)
    have h1:=HO2.out.Az (f:=e) (xd:=.slice Ad e.disk.length cd) (xm:=.slice (some ⟨gm,0,none⟩) e.mem.length cm) (xl:=.slice Al e.log.length cl) HP2.out
    have h2:=Ak (g:=w.heap.size + 1) (bj HB.out HB2.out) (by omega) e (.slice Ad e.disk.length cd) (.slice (some ⟨gm,0,none⟩) e.mem.length cm) (.slice Al e.log.length cl)
    have h3:=Ak (g:=w.heap.size + 1) HB2.out (by omega) e (.slice Ad e.disk.length cd) (.slice (some ⟨gm,0,none⟩) e.mem.length cm) (.slice Al e.log.length cl)
    have z0:=hy.c0
    have z1:=hy.c1
    have z2:=hy.c2
    have z3:=hy.c3
    have z4:=hy.c4
    exact bodyPost_ret (v:=.tuple #[e.ag (.slice Ad e.disk.length cd) (.slice (some ⟨gm,0,none⟩) e.mem.length cm) (.slice Al e.log.length cl), .bool false]) (by simp [results,Tryz.results69,go_sem,z0,z1,z2,z3,z4]) rfl ⟨_,_,_,rfl,h1,h2,Ba.of_below h3⟩
  cases hz : EK P.vals
  · have HZE:=As hz
    rw [HFE.out,if_neg (fun h => by have:=(HFB.out.1 h).2.1;rw [hz] at this;cases this)]
    clear hz
    go_enter Tryz.func69,Tryz.ntmps69
    go_wp2_with (first
      | (rw [show (w.alloc (Obj.cells #[Value.slice Ad e.disk.length cd,Value.slice (some ⟨gm,0,none⟩) e.mem.length cm,Value.slice Al e.log.length cl,Value.int IntKind.i64 e.safe,Value.bool e.down] 28)).alloc (Obj.cells #[Value.slice none 0 0,Value.slice none 0 0,Value.slice none 0 0,Value.int IntKind.i64 0,Value.bool false] 28) = w1 from HW1.out])
      | (go_at_call 124;refine (BP (cd:=cd) (cm:=cm) (cl:=cl) tx (p : Int) HM.out HI.out.core (Below.refl w1.heap.size w1) HC1.out).mono ?_;rintro x w2 ⟨rfl,hb2⟩;have HO2:=HO1;have HB2:=HB1;have HBM : Ac (Below w1.heap.size w1 w1):=⟨Below.refl _ _⟩;have HP2:=HP1;replace x0:=bc hb2 x0;replace x1:=bc hb2 x1;replace x2:=bc hb2 x2;replace x3:=bc hb2 x3;replace x4:=bc hb2 x4;replace p0:=bc hb2 p0;replace p1:=bc hb2 p1;replace p2:=bc hb2 p2;clear y0 y1 y2 y3 y4 f0 f1 f2 f3 f4;replace HO2:=As (HO2.out.below hb2);replace HB2:=As (bj HB2.out hb2);replace HBM:=As (bj HBM.out hb2);have hp:=HP2.out.up hb2;replace HP2:=As hp;have y0:=hp.c0;have y1:=hp.c1;have y2:=hp.c2;have y3:=hp.c3;have y4:=hp.c4;have f0:=hp.frz 0;have f1:=hp.frz 1;have f2:=hp.frz 2;have f3:=hp.frz 3;have f4:=hp.frz 4;clear hp hb2)
      | (go_at_call 126;refine (EQ HZE.out HBM.out HPC.out).mono ?_;rintro x w3 ⟨rfl,hb3⟩;replace x0:=bc hb3 x0;replace x1:=bc hb3 x1;replace x2:=bc hb3 x2;replace x3:=bc hb3 x3;replace x4:=bc hb3 x4;clear y0 y1 y2 y3 y4 f0 f1 f2 f3 f4;replace HO2:=As (HO2.out.below hb3);replace HB2:=As (bj HB2.out hb3);replace HBM:=As (bj HBM.out hb3);have hp:=HP2.out.up hb3;replace HP2:=As hp;have y0:=hp.c0;have y1:=hp.c1;have y2:=hp.c2;have y3:=hp.c3;have y4:=hp.c4;have f0:=hp.frz 0;have f1:=hp.frz 1;have f2:=hp.frz 2;have f3:=hp.frz 3;have f4:=hp.frz 4;clear hp hb3))
    have hz:=HZ1.out
    have hs0:=HB.out.size
    have hy:=HP2.out.Az e (.slice Ad e.disk.length cd) (.slice (some ⟨gm,0,none⟩) e.mem.length cm) (.slice Al e.log.length cl)
    have h1:=HO2.out.Az (f:=e) (xd:=.slice Ad e.disk.length cd) (xm:=.slice (some ⟨gm,0,none⟩) e.mem.length cm) (xl:=.slice Al e.log.length cl) HP2.out
    have h2:=Ak (g:=w.heap.size + 1) (bj HB.out HB2.out) (by omega) e (.slice Ad e.disk.length cd) (.slice (some ⟨gm,0,none⟩) e.mem.length cm) (.slice Al e.log.length cl)
    have h3:=Ak (g:=w.heap.size + 1) HB2.out (by omega) e (.slice Ad e.disk.length cd) (.slice (some ⟨gm,0,none⟩) e.mem.length cm) (.slice Al e.log.length cl)
    have z0:=hy.c0
    have z1:=hy.c1
    have z2:=hy.c2
    have z3:=hy.c3
    have z4:=hy.c4
    exact bodyPost_ret (v:=.tuple #[e.ag (.slice Ad e.disk.length cd) (.slice (some ⟨gm,0,none⟩) e.mem.length cm) (.slice Al e.log.length cl), .bool false]) (by simp [results,Tryz.results69,go_sem,z0,z1,z2,z3,z4]) rfl ⟨_,_,_,rfl,h1,h2,Ba.of_below h3⟩
  have HZE:=As hz
  clear hz
  cases ht : Mr e.log tx (p : Int)
  · have HTK:=As ht
    rw [HFE.out,if_neg (fun h => by have:=(HFB.out.1 h).2.2.2;rw [ht] at this;cases this)]
    clear ht
    go_enter Tryz.func69,Tryz.ntmps69
    go_wp2_with (first
      | (rw [show (w.alloc (Obj.cells #[Value.slice Ad e.disk.length cd,Value.slice (some ⟨gm,0,none⟩) e.mem.length cm,Value.slice Al e.log.length cl,Value.int IntKind.i64 e.safe,Value.bool e.down] 28)).alloc (Obj.cells #[Value.slice none 0 0,Value.slice none 0 0,Value.slice none 0 0,Value.int IntKind.i64 0,Value.bool false] 28) = w1 from HW1.out])
      | (go_at_call 124;refine (BP (cd:=cd) (cm:=cm) (cl:=cl) tx (p : Int) HM.out HI.out.core (Below.refl w1.heap.size w1) HC1.out).mono ?_;rintro x w2 ⟨rfl,hb2⟩;have HO2:=HO1;have HB2:=HB1;have HBM : Ac (Below w1.heap.size w1 w1):=⟨Below.refl _ _⟩;have HP2:=HP1;replace x0:=bc hb2 x0;replace x1:=bc hb2 x1;replace x2:=bc hb2 x2;replace x3:=bc hb2 x3;replace x4:=bc hb2 x4;replace p0:=bc hb2 p0;replace p1:=bc hb2 p1;replace p2:=bc hb2 p2;clear y0 y1 y2 y3 y4 f0 f1 f2 f3 f4;replace HO2:=As (HO2.out.below hb2);replace HB2:=As (bj HB2.out hb2);replace HBM:=As (bj HBM.out hb2);have hp:=HP2.out.up hb2;replace HP2:=As hp;have y0:=hp.c0;have y1:=hp.c1;have y2:=hp.c2;have y3:=hp.c3;have y4:=hp.c4;have f0:=hp.frz 0;have f1:=hp.frz 1;have f2:=hp.frz 2;have f3:=hp.frz 3;have f4:=hp.frz 4;clear hp hb2)
      | (go_at_call 126;refine (EQ HZE.out HBM.out HPC.out).mono ?_;rintro x w3 ⟨rfl,hb3⟩;replace x0:=bc hb3 x0;replace x1:=bc hb3 x1;replace x2:=bc hb3 x2;replace x3:=bc hb3 x3;replace x4:=bc hb3 x4;clear y0 y1 y2 y3 y4 f0 f1 f2 f3 f4;replace HO2:=As (HO2.out.below hb3);replace HB2:=As (bj HB2.out hb3);replace HBM:=As (bj HBM.out hb3);have hp:=HP2.out.up hb3;replace HP2:=As hp;have y0:=hp.c0;have y1:=hp.c1;have y2:=hp.c2;have y3:=hp.c3;have y4:=hp.c4;have f0:=hp.frz 0;have f1:=hp.frz 1;have f2:=hp.frz 2;have f3:=hp.frz 3;have f4:=hp.frz 4;clear hp hb3)
      | (go_at_call 127;refine (Kj (c:=cl) HTK.out HBM.out HC1.out.l HI.out.core.log).mono ?_;rintro x w4 ⟨rfl,hb4⟩;replace x0:=bc hb4 x0;replace x1:=bc hb4 x1;replace x2:=bc hb4 x2;replace x3:=bc hb4 x3;replace x4:=bc hb4 x4;clear y0 y1 y2 y3 y4 f0 f1 f2 f3 f4;replace HO2:=As (HO2.out.below hb4);replace HB2:=As (bj HB2.out hb4);replace HBM:=As (bj HBM.out hb4);have hp:=HP2.out.up hb4;replace HP2:=As hp;have y0:=hp.c0;have y1:=hp.c1;have y2:=hp.c2;have y3:=hp.c3;have y4:=hp.c4;have f0:=hp.frz 0;have f1:=hp.frz 1;have f2:=hp.frz 2;have f3:=hp.frz 3;have f4:=hp.frz 4;clear hp hb4))
    have hz:=HZ1.out
    have hs0:=HB.out.size
    have hy:=HP2.out.Az e (.slice Ad e.disk.length cd) (.slice (some ⟨gm,0,none⟩) e.mem.length cm) (.slice Al e.log.length cl)
    have h1:=HO2.out.Az (f:=e) (xd:=.slice Ad e.disk.length cd) (xm:=.slice (some ⟨gm,0,none⟩) e.mem.length cm) (xl:=.slice Al e.log.length cl) HP2.out
    have h2:=Ak (g:=w.heap.size + 1) (bj HB.out HB2.out) (by omega) e (.slice Ad e.disk.length cd) (.slice (some ⟨gm,0,none⟩) e.mem.length cm) (.slice Al e.log.length cl)
    have h3:=Ak (g:=w.heap.size + 1) HB2.out (by omega) e (.slice Ad e.disk.length cd) (.slice (some ⟨gm,0,none⟩) e.mem.length cm) (.slice Al e.log.length cl)
    have z0:=hy.c0
    have z1:=hy.c1
    have z2:=hy.c2
    have z3:=hy.c3
    have z4:=hy.c4
    exact bodyPost_ret (v:=.tuple #[e.ag (.slice Ad e.disk.length cd) (.slice (some ⟨gm,0,none⟩) e.mem.length cm) (.slice Al e.log.length cl), .bool false]) (by simp [results,Tryz.results69,go_sem,z0,z1,z2,z3,z4]) rfl ⟨_,_,_,rfl,h1,h2,Ba.of_below h3⟩
  have HTK:=As ht
  clear ht
  obtain ⟨E,hE⟩ : ∃ E,e.app ⟨3,tx,(p : Int),0,0,0,0,0⟩ = E:=⟨_,rfl⟩
  have hEk : E.log.length = e.log.length + 1 ∧ E.mem = e.mem:=by
    rw [← hE]
    exact ⟨J5 _ _,rfl⟩
  have HEK:=As hEk
  obtain ⟨q,hq⟩ : ∃ q : Page,(⟨(E.log.length : Int),P.owner,vals⟩ : Page) = q:=⟨_,rfl⟩
  have HQV : Ac (q.lsn = (E.log.length : Int) ∧ q.owner = P.owner ∧ q.vals = vals):=⟨by rw [← hq];exact ⟨rfl,rfl,rfl⟩⟩
  obtain ⟨Y,hYd⟩ : ∃ Y : Eng,({ E with mem:=E.mem.set p q } : Eng) = Y:=⟨_,rfl⟩
  have HYD:=As hYd
  have HLX : Ac (JD e tx (p : Int) vals = Y):=⟨by
    rw [← hYd, ← hq,hEk.1,hEk.2, ← hE, ← HPP.out]
    unfold JD Eng.app
    rw [if_neg (by simp [Cx]),Int.toNat_natCast]⟩
  have HADD : Ac (FC vals = true → ∀ wx vd' vm' vl',AU wx w0.heap.size vd' vm' vl' e → Below w0.heap.size w0 wx → Calls Tryz.prog 125 #[e.ag vd' vm' vl', .agg #[.int .i64 3, .int .i64 tx, .int .i64 (p : Int), .int .i64 0, .int .i64 0, .int .i64 0, .int .i64 0, .int .i64 0]] wx (H6 w0 wx vm' E true)):=⟨fun hvb wx vd' vm' vl' ho hb => by
    have hI:=HI.out.Qs HBB.out (HFB.out.2 ⟨e2.out,HZE.out,hvb,HTK.out⟩)
    have h:=EC ⟨3,tx,(p : Int),0,0,0,0,0⟩ HGM.out hI.core.log (hI.Sr rfl (by simp)) (fun h => by simp [Cx] at h) hb ho
    rw [hE] at h
    exact h⟩
  clear hE hEk hq hYd
  go_enter Tryz.func69,Tryz.ntmps69
  go_wp2_with (first
    | (rw [show (w.alloc (Obj.cells #[Value.slice Ad e.disk.length cd,Value.slice (some ⟨gm,0,none⟩) e.mem.length cm,Value.slice Al e.log.length cl,Value.int IntKind.i64 e.safe,Value.bool e.down] 28)).alloc (Obj.cells #[Value.slice none 0 0,Value.slice none 0 0,Value.slice none 0 0,Value.int IntKind.i64 0,Value.bool false] 28) = w1 from HW1.out])
    | (go_at_call 124;refine (BP (cd:=cd) (cm:=cm) (cl:=cl) tx (p : Int) HM.out HI.out.core (Below.refl w1.heap.size w1) HC1.out).mono ?_;rintro x w2 ⟨rfl,hb2⟩;have HO2:=HO1;have HB2:=HB1;have HBM : Ac (Below w1.heap.size w1 w1):=⟨Below.refl _ _⟩;have HP2:=HP1;replace x0:=bc hb2 x0;replace x1:=bc hb2 x1;replace x2:=bc hb2 x2;replace x3:=bc hb2 x3;replace x4:=bc hb2 x4;replace p0:=bc hb2 p0;replace p1:=bc hb2 p1;replace p2:=bc hb2 p2;clear y0 y1 y2 y3 y4 f0 f1 f2 f3 f4;replace HO2:=As (HO2.out.below hb2);replace HB2:=As (bj HB2.out hb2);replace HBM:=As (bj HBM.out hb2);have hp:=HP2.out.up hb2;replace HP2:=As hp;have y0:=hp.c0;have y1:=hp.c1;have y2:=hp.c2;have y3:=hp.c3;have y4:=hp.c4;have f0:=hp.frz 0;have f1:=hp.frz 1;have f2:=hp.frz 2;have f3:=hp.frz 3;have f4:=hp.frz 4;clear hp hb2)
    | (go_at_call 126;refine (EQ HZE.out HBM.out HPC.out).mono ?_;rintro x w3 ⟨rfl,hb3⟩;replace x0:=bc hb3 x0;replace x1:=bc hb3 x1;replace x2:=bc hb3 x2;replace x3:=bc hb3 x3;replace x4:=bc hb3 x4;clear y0 y1 y2 y3 y4 f0 f1 f2 f3 f4;replace HO2:=As (HO2.out.below hb3);replace HB2:=As (bj HB2.out hb3);replace HBM:=As (bj HBM.out hb3);have hp:=HP2.out.up hb3;replace HP2:=As hp;have y0:=hp.c0;have y1:=hp.c1;have y2:=hp.c2;have y3:=hp.c3;have y4:=hp.c4;have f0:=hp.frz 0;have f1:=hp.frz 1;have f2:=hp.frz 2;have f3:=hp.frz 3;have f4:=hp.frz 4;clear hp hb3)
    | (go_at_call 127;refine (Kj (c:=cl) HTK.out HBM.out HC1.out.l HI.out.core.log).mono ?_;rintro x w4 ⟨rfl,hb4⟩;replace x0:=bc hb4 x0;replace x1:=bc hb4 x1;replace x2:=bc hb4 x2;replace x3:=bc hb4 x3;replace x4:=bc hb4 x4;clear y0 y1 y2 y3 y4 f0 f1 f2 f3 f4;replace HO2:=As (HO2.out.below hb4);replace HB2:=As (bj HB2.out hb4);replace HBM:=As (bj HBM.out hb4);have hp:=HP2.out.up hb4;replace HP2:=As hp;have y0:=hp.c0;have y1:=hp.c1;have y2:=hp.c2;have y3:=hp.c3;have y4:=hp.c4;have f0:=hp.frz 0;have f1:=hp.frz 1;have f2:=hp.frz 2;have f3:=hp.frz 3;have f4:=hp.frz 4;clear hp hb4))
  go_loop [10] (fun i => ∃ k : Nat,k ≤ vals.length ∧ i = .int .i64 (k : Int) ∧ Ac (∀ j,j < k → inB (iv vals j) 0 9 = true)) (fun i => (vals.length - intOf i).toNat)
  case atStart => exact ⟨0,Nat.zero_le _,rfl,⟨fun j hj => by omega⟩⟩
  case round =>
    obtain ⟨k,hk,rfl,HK⟩:=hrel
    by_cases hlt : k < vals.length
    · obtain ⟨ad,rfl,g0⟩:=Dk (BM HV.out HBM.out) k hlt
      cases hin : inB (iv vals k) 0 9
      all_goals
        have HIN:=As hin
        clear hin
        go_wp2_with (first
          | (go_at_call 55;refine (BZ _ _ _ _).mono ?_;rw [HIN.out];rintro x w' ⟨rfl,rfl⟩))
      · rw [HFE.out,if_neg (fun h => by
          have h3:=(HFB.out.1 h).2.2.1
          simp only [FC,Bool.and_eq_true,Bool.not_eq_true',List.any_eq_false] at h3
          have:=h3.2 (iv vals k) (by rw [iv,List.getD_eq_getElem?_getD,List.getElem?_eq_getElem hlt];exact List.getElem_mem hlt)
          rw [HIN.out] at this
          exact this rfl)]
        have hz:=HZ1.out
        have hs0:=HB.out.size
        have hy:=HP2.out.Az e (.slice Ad e.disk.length cd) (.slice (some ⟨gm,0,none⟩) e.mem.length cm) (.slice Al e.log.length cl)
        have h1:=HO2.out.Az (f:=e) (xd:=.slice Ad e.disk.length cd) (xm:=.slice (some ⟨gm,0,none⟩) e.mem.length cm) (xl:=.slice Al e.log.length cl) HP2.out
        have h2:=Ak (g:=w.heap.size + 1) (bj HB.out HB2.out) (by omega) e (.slice Ad e.disk.length cd) (.slice (some ⟨gm,0,none⟩) e.mem.length cm) (.slice Al e.log.length cl)
        have h3:=Ak (g:=w.heap.size + 1) HB2.out (by omega) e (.slice Ad e.disk.length cd) (.slice (some ⟨gm,0,none⟩) e.mem.length cm) (.slice Al e.log.length cl)
        have z0:=hy.c0
        have z1:=hy.c1
        have z2:=hy.c2
        have z3:=hy.c3
        have z4:=hy.c4
        exact bodyPost_ret (v:=.tuple #[e.ag (.slice Ad e.disk.length cd) (.slice (some ⟨gm,0,none⟩) e.mem.length cm) (.slice Al e.log.length cl), .bool false]) (by simp [results,Tryz.results69,go_sem,z0,z1,z2,z3,z4]) rfl ⟨_,_,_,rfl,h1,h2,Ba.of_below h3⟩
      · go_round
        case rel => exact ⟨k + 1,by omega,by go_num,⟨fun j hj => by
          rcases Nat.lt_succ_iff_lt_or_eq.1 hj with h | h
          · exact HK.out j h
          · rw [h];exact HIN.out⟩⟩
        case measure => simp [intOf];omega
    · have hke : k = vals.length:=by omega
      have hvb : FC vals = true:=by
        simp only [FC,Bool.and_eq_true,beq_iff_eq,Bool.not_eq_true',List.any_eq_false]
        refine ⟨by have:=e1.out;omega,fun x hx => ?_⟩
        obtain ⟨j,hj,rfl⟩:=List.getElem_of_mem hx
        have:=HK.out j (by omega)
        rw [iv,List.getD_eq_getElem?_getD,List.getElem?_eq_getElem hj] at this
        simp only [Option.getD_some] at this
        rw [this];simp
      have HAD:=As (HADD.out hvb)
      have HOKF : Ac (GN e tx (p : Int) vals = (Y,true)):=⟨by rw [HFE.out,if_pos (HFB.out.2 ⟨e2.out,HZE.out,hvb,HTK.out⟩),HLX.out]⟩
      clear hvb HADD
      go_wp2_with (first
        | (go_at_call 125;refine (HAD.out w4 _ _ _ HO2.out (bj HB.out HB2.out)).mono ?_;rintro y w6 ⟨ud,um,ul,rfl,ho,hb6,hk6⟩;obtain ⟨Bd,dd,Bm,dm,Bl,dl,rfl,rfl,rfl, -, -⟩:=ho.reads;have HO6:=As ho;have HP6:=As (HP2.out.EH HO2.out hk6);have HB6:=As (And.intro hb6 (And.intro ((Ba.of_below HB2.out).CG (Ba.JB HO2.out hk6)) hk6.1));clear x0 x1 x2 x3 x4 y0 y1 y2 y3 y4 f0 f1 f2 f3 f4 p0 p1 p2;clear ho hb6 hk6))
      obtain ⟨w7,hw7⟩ : ∃ w7,w6.alloc (Obj.cells #[.slice Bd E.disk.length dd, .slice Bm E.mem.length dm, .slice Bl E.log.length dl, .int .i64 E.safe, .bool E.down] 28) = w7:=⟨_,rfl⟩
      rw [hw7]
      have hb7 : Below w6.heap.size w6 w7:=by rw [← hw7];exact Ah (Below.refl _ _) _
      have hq7 : Ai w7 w6.heap.size E (.slice Bd E.disk.length dd) (.slice Bm E.mem.length dm) (.slice Bl E.log.length dl):=by rw [← hw7];exact Ai.mk1 _ _ _ _ _
      have HO7:=As (HO6.out.below hb7)
      have HP7:=As (HP6.out.up hb7)
      have HB7 : Ac (Below w0.heap.size w0 w7):=⟨bj HB6.out.1 hb7⟩
      have HK7 : Ac (Ba w w7):=⟨HB6.out.2.1.CG (Ba.of_below hb7)⟩
      have HQ7:=As hq7
      have x1:=hq7.c1
      have x2:=hq7.c2
      obtain ⟨okd,okm,hap,hpd,hpm⟩:=HO7.out.ex
      obtain ⟨gm2,capm2,hAm2, -,hgml⟩:=Cq hpm (by rw [HEK.out.2];omega)
      injection hAm2 with hA1 hA2 hA3
      clear hA2
      subst hA1 hA3
      have hpl2 : p < E.mem.length:=by rw [HEK.out.2];exact hpl
      have hpli2 : (p : Int) < (E.mem.length : Int):=by omega
      obtain ⟨A3,c3,q0,q1,q2, -, -⟩:=DC hpm p hpl2
      have HPR : Ac (pg E.mem p = P):=⟨by rw [HEK.out.2];exact HPP.out⟩
      rw [HPR.out, ← HQV.out.2.1] at q1
      have HPM:=As hpm
      have HPD:=As hpd
      have HAP:=As hap
      have HV7 : Ac (Kd.C (Kd.int .i64) w7 Av vals.length vals):=⟨HV0.out _ HB7.out HK7.out⟩
      have hv3 : vals.length = 3:=by have:=e1.out;omega
      have HV3:=As hv3
      clear hw7 hb7 hq7 hpm hpd hap hgml q0 q2 hke hv3
      refine AX (fun lx a wx => Below w7.heap.size w7 wx ∧ (Pre 14 12 84 (fun _ => True) (fun v wx => ∃ B,v = .slice (some ⟨B,0,none⟩) 0 0 ∧ AR wx w7.heap.size v []) lx a wx ∧ Sl 14 86 (fun v wx => AR wx w7.heap.size v vals) lx a wx)) 17 rfl (by kernel_rfl) (⟨Aj (Below.refl _ _),F7 trivial,AZ⟩) (fun HT => ?_)
      refine Ae (i:=0) (v:=?_) HT rfl (by kernel_rfl) rfl (kA Aa (kA (Ap rfl rfl rfl) (Ab rfl rfl))) (by rfl) (fun _ _ _ h => h) (fun lx ax wx hS => ?_) ?_;rotate_left;(have hbx:=hS.1;clear hS;replace x1:=bc hbx x1;replace x2:=bc hbx x2;replace q1:=bc hbx q1;go_simp;with_reducible rfl);rotate_left;simp only [sc0,sc1]
      refine Ae (i:=1) (v:=?_) HT rfl (by kernel_rfl) rfl (kA Aa (kA (Ap rfl rfl rfl) (Ab rfl rfl))) (by rfl) (fun _ _ _ h => h) (fun lx ax wx hS => ?_) ?_;rotate_left;(have hbx:=hS.1;clear hS;replace x1:=bc hbx x1;replace x2:=bc hbx x2;replace q1:=bc hbx q1;go_simp;with_reducible rfl);rotate_left;simp only [sc0,sc1]
      refine Ae (i:=2) (v:=?_) HT rfl (by kernel_rfl) rfl (kA Aa (kA (Ap rfl rfl rfl) (Ab rfl rfl))) (by rfl) (fun _ _ _ h => h) (fun lx ax wx hS => ?_) ?_;rotate_left;(have hbx:=hS.1;clear hS;replace x1:=bc hbx x1;replace x2:=bc hbx x2;replace q1:=bc hbx q1;go_simp;with_reducible rfl);rotate_left;simp only [sc0,sc1]
      refine Ae (i:=3) (v:=?_) HT rfl (by kernel_rfl) rfl (kA Aa (kA (Ap rfl rfl rfl) (Ab rfl rfl))) (by rfl) (fun _ _ _ h => h) (fun lx ax wx hS => ?_) ?_;rotate_left;(have hbx:=hS.1;clear hS;replace x1:=bc hbx x1;replace x2:=bc hbx x2;replace q1:=bc hbx q1;go_simp;with_reducible rfl);rotate_left;simp only [sc0,sc1]
      refine Ae (i:=4) (v:=?_) HT rfl (by kernel_rfl) rfl (kA Aa (kA (Ap rfl rfl rfl) (Ab rfl rfl))) (by rfl) (fun _ _ _ h => h) (fun lx ax wx hS => ?_) ?_;rotate_left;(have hbx:=hS.1;clear hS;replace x1:=bc hbx x1;replace x2:=bc hbx x2;replace q1:=bc hbx q1;go_simp;with_reducible rfl);rotate_left;simp only [sc0,sc1]
      refine Ae (i:=5) (v:=?_) HT rfl (by kernel_rfl) rfl (kA Aa (kA (Ap rfl rfl rfl) (Ab rfl rfl))) (by rfl) (fun _ _ _ h => h) (fun lx ax wx hS => ?_) ?_;rotate_left;(have hbx:=hS.1;clear hS;replace x1:=bc hbx x1;replace x2:=bc hbx x2;replace q1:=bc hbx q1;go_simp;with_reducible rfl);rotate_left;simp only [sc0,sc1]
      refine Ae (i:=6) (v:=?_) HT rfl (by kernel_rfl) rfl (kA Aa (kA (Ap rfl rfl rfl) (Ab rfl rfl))) (by rfl) (fun _ _ _ h => h) (fun lx ax wx hS => ?_) ?_;rotate_left;(have hbx:=hS.1;clear hS;replace x1:=bc hbx x1;replace x2:=bc hbx x2;replace q1:=bc hbx q1;go_simp;with_reducible rfl);rotate_left;simp only [sc0,sc1]
      refine Ae (i:=7) (v:=?_) HT rfl (by kernel_rfl) rfl (kA Aa (kA (Ap rfl rfl rfl) (Ab rfl rfl))) (by rfl) (fun _ _ _ h => h) (fun lx ax wx hS => ?_) ?_;rotate_left;(have hbx:=hS.1;clear hS;replace x1:=bc hbx x1;replace x2:=bc hbx x2;replace q1:=bc hbx q1;go_simp;with_reducible rfl);rotate_left;simp only [sc0,sc1]
      refine Ae (i:=8) (v:=?_) HT rfl (by kernel_rfl) rfl (kA Aa (kA (Ap rfl rfl rfl) (Ab rfl rfl))) (by rfl) (fun _ _ _ h => h) (fun lx ax wx hS => ?_) ?_;rotate_left;(have hbx:=hS.1;clear hS;replace x1:=bc hbx x1;replace x2:=bc hbx x2;replace q1:=bc hbx q1;go_simp;with_reducible rfl);rotate_left;simp only [sc0,sc1]
      refine Ae (i:=9) (v:=?_) HT rfl (by kernel_rfl) rfl (kA Aa (kA (Ap rfl rfl rfl) (Ab rfl rfl))) (by rfl) (fun _ _ _ h => h) (fun lx ax wx hS => ?_) ?_;rotate_left;(have hbx:=hS.1;clear hS;replace x1:=bc hbx x1;replace x2:=bc hbx x2;replace q1:=bc hbx q1;go_simp;with_reducible rfl);rotate_left;simp only [sc0,sc1]
      refine Ae (i:=10) (v:=?_) HT rfl (by kernel_rfl) rfl (kA Aa (kA (Ap rfl rfl rfl) (Ab rfl rfl))) (by rfl) (fun _ _ _ h => h) (fun lx ax wx hS => ?_) ?_;rotate_left;(have hbx:=hS.1;clear hS;replace x1:=bc hbx x1;replace x2:=bc hbx x2;replace q1:=bc hbx q1;go_simp;with_reducible rfl);rotate_left;simp only [sc0,sc1]
      refine Ae (i:=11) (v:=?_) HT rfl (by kernel_rfl) rfl (kA Aa (kA (Ap rfl rfl rfl) (Ab rfl rfl))) (by rfl) (fun _ _ _ h => h) (fun lx ax wx hS => ?_) ?_;rotate_left;(have hbx:=hS.1;clear hS;replace x1:=bc hbx x1;replace x2:=bc hbx x2;replace q1:=bc hbx q1;go_simp;with_reducible rfl);rotate_left;simp only [sc0,sc1]
      refine Ae (i:=13) (v:=?_) HT rfl (by kernel_rfl) rfl (kA Aa (kA (Ap rfl rfl rfl) (Ab rfl rfl))) (by rfl) (fun _ _ _ h => h) (fun lx ax wx hS => ?_) ?_;rotate_left;(have hbx:=hS.1;clear hS;replace x1:=bc hbx x1;replace x2:=bc hbx x2;replace q1:=bc hbx q1;go_simp;with_reducible rfl);rotate_left;simp only [sc0,sc1]
      refine AQ [12] (by kernel_rfl) (fun i hi wx hS => ?_)
      obtain rfl:=List.mem_singleton.1 hi
      clear hi
      have hb : Below wx.heap.size wx (wx.alloc (.cells #[] 3)):=Ah (Below.refl _ _) _
      refine Bw (w1:=wx.alloc (.cells #[] 3)) (.slice (some ⟨wx.heap.size,0,none⟩) 0 0) rfl rfl (by rfl) (by go_simp) ?_
      refine ⟨⟨bj hS.1 hb,fun _ => ⟨trivial,fun _ => ⟨wx.heap.size,rfl,own_none' _ 1 rfl hS.1.size⟩⟩,fun h => (AA h (by kernel_rfl)).elim⟩,?_⟩
      obtain ⟨B9,hB9⟩ : ∃ B9,wx.heap.size = B9:=⟨_,rfl⟩
      rw [hB9]
      clear hB9 hS hb
      simp only [sc0,sc1]
      refine AQ [14] (by kernel_rfl) (fun i hi wx hS => ?_)
      obtain rfl:=List.mem_singleton.1 hi
      clear hi
      obtain ⟨h1,h2, -⟩:=hS
      obtain ⟨B',hB',hO9⟩:=(h2 (by kernel_rfl)).2 (by kernel_rfl)
      have hB' : Value.slice (some ⟨B9,0,none⟩) 0 0 = Value.slice (some ⟨B',0,none⟩) 0 0:=hB'
      obtain rfl : B9 = B':=by simpa using hB'
      have hO9 : AR wx w7.heap.size (.slice (some ⟨B9,0,none⟩) 0 0) []:=hO9
      refine wpOp_step rfl (Kd.Cs (Kd.int .i64) (Rr:=(Kd.int .i64).K wx) (w0:=w7) w7.heap.size (by rfl) (.tmp 84) (.tmp 85) 33 3 _ 8 rfl DW Fs rfl (by decide) (by decide) (.slice (some ⟨B9,0,none⟩) 0 0) [] vals Av vals.length cv (fun _ => True) (fun _ => False) rfl rfl (Kd.Ez hO9 (fun _ _ => trivial)) (BM HV7.out h1) (fun _ _ hk => hk) (fun _ hk => hk.elim) (fun _ _ => trivial) h1 h1.size (by have:=HV3.out;simp;omega) (fun v1 w8 hown hb8 hg8 _ => ?_))
      replace hown : AR w8 w7.heap.size v1 vals:=Kd.Ih hown
      obtain ⟨A9,c9,rfl, -, -⟩:=hown.reads
      simp only [Co,sc0,sc1]
      refine ⟨⟨hb8,fun h => (AA (by kernel_rfl) h).elim,fun _ => hown⟩,?_⟩
      clear h1 h2 hB' hO9 hb8 hg8 hown
      refine Ae (i:=15) (v:=?_) HT rfl (by kernel_rfl) rfl (kA Aa (kA (Ap rfl rfl rfl) (Ab rfl rfl))) (by rfl) (fun _ _ _ h => h) (fun lx ax wx hS => ?_) ?_;rotate_left;(go_simp;with_reducible rfl);rotate_left;simp only [sc0,sc1]
      refine Ae (i:=16) (v:=?_) HT rfl (by kernel_rfl) rfl (kA Aa (kA (Ap rfl rfl rfl) (Ab rfl rfl))) (by rfl) (fun _ _ _ h => h) (fun lx ax wx hS => ?_) ?_;rotate_left;(go_simp;with_reducible rfl);rotate_left;simp only [sc0,sc1]
      refine BQ (i:=17) (by kernel_rfl) rfl (fun wx hS => ?_)
      obtain ⟨h5x, -,h3⟩:=hS
      have hown : AR wx w7.heap.size (.slice A9 vals.length c9) q.vals:=by rw [HQV.out.2.2];exact h3 (by kernel_rfl)
      refine Es (ok:=okm) (w0:=w0) (N:=w7.heap.size) (q:=q) (v:=.slice A9 vals.length c9) p rfl (.tmp 88) (.tmp 87) rfl (by rfl) rfl rfl (by rw [Page.own,HQV.out.1];rfl) hown HB7.out.size (Kd.Ep HPM.out h5x) hpl2 (bj HB7.out h5x) (fun w8 hO8 hB8 hg8 => ?_)
      refine BB (by kernel_rfl) ?_
      have hd8:=Kd.Ep HPD.out h5x
      have hty:=Kd.EU (Kd.Bu HPM.out h5x) gm2 (by simp [Value.ownBlock])
      have he8:=AU.OX (e:=E) HAP.out hd8 (Kd.Cm HO7.out.l h5x) hown hO8 (KZ HPM.out gm2 (by simp [Value.ownBlock])) hg8 hty
      rw [HYD.out] at he8
      have hq8 : Ai w8 w6.heap.size Y (.slice Bd E.disk.length dd) (.slice (some ⟨gm2,0,none⟩) E.mem.length dm) (.slice Bl E.log.length dl):=by rw [← HYD.out];exact (hg8.block w6.heap.size (by have:=HQ7.out.lt;have:=h5x.size;omega) (fun e2 => by injection e2 with e2;exact Fw HQ7.out HPM.out e2)).trans (HQ7.out.up h5x)
      have hp8 : Ai w8 (w.heap.size + 1) zE (.slice none 0 0) (.slice none 0 0) (.slice none 0 0):=(hg8.block (w.heap.size + 1) (by have:=HP7.out.lt;have:=h5x.size;omega) (fun e2 => by injection e2 with e2;exact Fw HP7.out HPM.out e2)).trans (HP7.out.up h5x)
      have hk8 : Ba w w8:=(HK7.out.CG (Ba.of_below h5x)).CG (Ba.OW (S:=fun k => some gm2 = some k) ⟨hg8.size,fun k hk hn => hg8.block k hk (fun h => hn h.symm)⟩ (fun k hk => by injection hk with hk;subst hk;exact hty))
      have HX8:=As (And.intro hB8 (And.intro he8 hk8))
      have HP8:=As hp8
      have z0:=hq8.c0
      have z1:=hq8.c1
      have z2:=hq8.c2
      have z3:=hq8.c3
      have z4:=hq8.c4
      have y0:=hp8.c0
      have y1:=hp8.c1
      have y2:=hp8.c2
      have y3:=hp8.c3
      have y4:=hp8.c4
      have f0:=hp8.frz 0
      have f1:=hp8.frz 1
      have f2:=hp8.frz 2
      have f3:=hp8.frz 3
      have f4:=hp8.frz 4
      clear h5x h3 hown hO8 hB8 hg8 hd8 hty he8 hq8 hp8 hk8 x1 x2 q1
      go_wp2
      have hs0:=HB.out.size
      have hy:=HP8.out.Az Y (.slice Bd E.disk.length dd) (.slice (some ⟨gm2,0,none⟩) E.mem.length dm) (.slice Bl E.log.length dl)
      have h1:=HX8.out.2.1.Az (f:=Y) (xd:=.slice Bd E.disk.length dd) (xm:=.slice (some ⟨gm2,0,none⟩) E.mem.length dm) (xl:=.slice Bl E.log.length dl) HP8.out
      have h2:=Ak (g:=w.heap.size + 1) HX8.out.1 (by omega) Y (.slice Bd E.disk.length dd) (.slice (some ⟨gm2,0,none⟩) E.mem.length dm) (.slice Bl E.log.length dl)
      have h3:=HX8.out.2.2.Az (g:=w.heap.size + 1) (Nat.le_succ _) Y (.slice Bd E.disk.length dd) (.slice (some ⟨gm2,0,none⟩) E.mem.length dm) (.slice Bl E.log.length dl)
      have u0:=hy.c0
      have u1:=hy.c1
      have u2:=hy.c2
      have u3:=hy.c3
      have u4:=hy.c4
      exact bodyPost_ret (v:=.tuple #[Y.ag (.slice Bd E.disk.length dd) (.slice (some ⟨gm2,0,none⟩) E.mem.length dm) (.slice Bl E.log.length dl), .bool true]) (by simp [results,Tryz.results69,go_sem,u0,u1,u2,u3,u4]) rfl (by rw [HOKF.out];exact ⟨_,_,_,rfl,h1,h2,h3⟩)
theorem Om {P : Program} {ops : Array Oper} {l : List Oper} {Q : Exit → Act → World → Prop} {a : Act} (W : World) (h : ∀ w1,W = w1 → wpList P ops Q l a w1) : wpList P ops Q l a W:=h W rfl
theorem Qc {e : Eng} (hlog : AP e.log = true) (tx : Int) (X : Eng) : (if Ke e tx = true then X else e) = (Cz e tx X).1:=by
  unfold Cz
  by_cases h : e.down = false ∧ Ao e.log tx e.log.length ≠ 0
  · rw [if_pos (Gv.2 ⟨h.1,F9 hlog h.2,h.2⟩),if_pos h]
  · rw [if_neg (fun h2 => h ⟨(Gv.1 h2).1,(Gv.1 h2).2.2⟩),if_neg h]
set_option maxRecDepth 100000 in
set_option maxHeartbeats 64000000 in
theorem MH {w0 w : World} {e : Eng} {C : Nat → Page} {B : Nat} {vd vm vl : Value} {A : Option Addr} {c : Nat} (v : Evt) (hi : Inv e C B) (hB : B + 3 ≤ 150) (hb : Below w0.heap.size w0 w) (hr : AU w w0.heap.size vd vm vl e) (hv : ∀ wx,Below w0.heap.size w0 wx → Ba w wx → Kd.C (Kd.int .i64) wx A v.vals.length v.vals) : Calls Tryz.prog 33 #[e.ag vd vm vl,v.val A c] w (QZ w0 w (BN e v)):=by
  obtain ⟨Ad,cd,Am,cm,Al,cl,rfl,rfl,rfl,hcl,hrd⟩:=hr.reads
  have HI:=As hi
  have HBB:=As hB
  have HB0:=As hb
  have HO:=As hr
  have HVV:=As hv
  have HONE : True:=trivial
  have HTWO : True:=trivial
  clear hi hB hb hr hv hrd hcl
  rcases BS v.kind 1 with ⟨e1,b1,c1⟩ | ⟨e1,b1,c1⟩
  have hPE : BN e v = (KY e v.tx v.page v.slot v.n).1:=by unfold BN;rw [if_pos e1.out]
  obtain ⟨E,bb,hE⟩ : ∃ E bb,KY e v.tx v.page v.slot v.n = (E,bb):=⟨_,_,rfl⟩
  have HPE : Ac (BN e v = E):=⟨by rw [hPE,hE]⟩
  have HIN : Ac (∀ wx,Below w.heap.size w wx → Calls Tryz.prog 67 #[e.val Ad Am Al cd cm cl, .int .i64 v.tx, .int .i64 v.page, .int .i64 v.slot, .int .i64 v.n] wx (I8 w0 wx E bb)):=⟨fun wx hbx => by
    have ho':=HO.out.below hbx
    have hb':=bj HB0.out hbx
    have h:=(Ph v.tx v.page v.slot v.n HI.out HBB.out hb' ho').mono fun _ _ h => h.t ho'
    rw [hE] at h
    exact h⟩
  clear hPE hE
  rotate_left
  rcases BS v.kind 2 with ⟨e2,b2,c2⟩ | ⟨e2,b2,c2⟩
  have hPE : BN e v = (Lb e v.tx v.page v.n).1:=by unfold BN;rw [if_neg e1.out,if_pos e2.out]
  obtain ⟨E,bb,hE⟩ : ∃ E bb,Lb e v.tx v.page v.n = (E,bb):=⟨_,_,rfl⟩
  have HPE : Ac (BN e v = E):=⟨by rw [hPE,hE]⟩
  have HIN : Ac (∀ wx,Below w.heap.size w wx → Calls Tryz.prog 68 #[e.val Ad Am Al cd cm cl, .int .i64 v.tx, .int .i64 v.page, .int .i64 v.n] wx (I8 w0 wx E bb)):=⟨fun wx hbx => by
    have ho':=HO.out.below hbx
    have hb':=bj HB0.out hbx
    have h:=(Pj v.tx v.page v.n HI.out HBB.out hb' ho').mono fun _ _ h => h.t ho'
    rw [hE] at h
    exact h⟩
  clear hPE hE
  rotate_left
  rcases BS v.kind 3 with ⟨e3,b3,c3⟩ | ⟨e3,b3,c3⟩
  have hPE : BN e v = (GN e v.tx v.page v.vals).1:=by unfold BN;rw [if_neg e1.out,if_neg e2.out,if_pos e3.out]
  obtain ⟨E,bb,hE⟩ : ∃ E bb,GN e v.tx v.page v.vals = (E,bb):=⟨_,_,rfl⟩
  have HPE : Ac (BN e v = E):=⟨by rw [hPE,hE]⟩
  have HIN : Ac (∀ wx,Below w.heap.size w wx → Calls Tryz.prog 69 #[e.val Ad Am Al cd cm cl, .int .i64 v.tx, .int .i64 v.page, .slice A v.vals.length c] wx (I8 w0 wx E bb)):=⟨fun wx hbx => by
    have ho':=HO.out.below hbx
    have hb':=bj HB0.out hbx
    have h:=O7 (cv:=c) v.tx v.page v.vals HI.out HBB.out hb' ho' (fun wy h1 h2 => HVV.out wy h1 ((Ba.of_below hbx).CG h2))
    rw [hE] at h
    exact h⟩
  clear hPE hE
  rotate_left
  rcases BS v.kind 4 with ⟨e4,b4,c4⟩ | ⟨e4,b4,c4⟩
  have hPE : BN e v = (Cz e v.tx (DN e v.tx)).1:=by unfold BN;rw [if_neg e1.out,if_neg e2.out,if_neg e3.out,if_pos e4.out];exact Qc HI.out.core.log _ _
  obtain ⟨E,bb,hE⟩ : ∃ E bb,Cz e v.tx (DN e v.tx) = (E,bb):=⟨_,_,rfl⟩
  have HPE : Ac (BN e v = E):=⟨by rw [hPE,hE]⟩
  have HIN : Ac (∀ wx,Below w.heap.size w wx → Calls Tryz.prog 70 #[e.val Ad Am Al cd cm cl, .int .i64 v.tx] wx (I8 w0 wx E bb)):=⟨fun wx hbx => by
    have ho':=HO.out.below hbx
    have hb':=bj HB0.out hbx
    have h:=O6 v.tx HI.out hb' ho'
    rw [hE] at h
    exact h⟩
  clear hPE hE
  rotate_left
  rcases BS v.kind 5 with ⟨e5,b5,c5⟩ | ⟨e5,b5,c5⟩
  have hPE : BN e v = (Cz e v.tx (DU e v.tx)).1:=by unfold BN;rw [if_neg e1.out,if_neg e2.out,if_neg e3.out,if_neg e4.out,if_pos e5.out];exact Qc HI.out.core.log _ _
  obtain ⟨E,bb,hE⟩ : ∃ E bb,Cz e v.tx (DU e v.tx) = (E,bb):=⟨_,_,rfl⟩
  have HPE : Ac (BN e v = E):=⟨by rw [hPE,hE]⟩
  have HIN : Ac (∀ wx,Below w.heap.size w wx → Calls Tryz.prog 71 #[e.val Ad Am Al cd cm cl, .int .i64 v.tx] wx (I8 w0 wx E bb)):=⟨fun wx hbx => by
    have ho':=HO.out.below hbx
    have hb':=bj HB0.out hbx
    have h:=O5 v.tx HI.out hb' ho'
    rw [hE] at h
    exact h⟩
  clear hPE hE
  rotate_left
  rcases BS v.kind 6 with ⟨e6,b6,c6⟩ | ⟨e6,b6,c6⟩
  rcases Bool.eq_false_or_eq_true e.down with hd | hd
  have HPE : Ac (BN e v = e):=⟨by unfold BN;rw [if_neg e1.out,if_neg e2.out,if_neg e3.out,if_neg e4.out,if_neg e5.out,if_pos e6.out];rw [if_neg (by rw [hd];simp)]⟩
  have HDN:=As hd
  clear hd
  rotate_left
  have HDN:=As hd
  rcases (Bool.eq_false_or_eq_true (inB v.page 0 4)).symm with hp | hp
  have HPE : Ac (BN e v = e):=⟨by unfold BN;rw [if_neg e1.out,if_neg e2.out,if_neg e3.out,if_neg e4.out,if_neg e5.out,if_pos e6.out];rw [if_neg (by rw [hp];simp)]⟩
  have HPG:=As hp
  clear hd hp
  rotate_left
  have HPG:=As hp
  have hpg:=DI.1 hp
  obtain ⟨p,hpp⟩ : ∃ p : Nat,v.page = (p : Int):=⟨v.page.toNat,by omega⟩
  obtain ⟨E,hE⟩ : ∃ E,CS e p = E:=⟨_,rfl⟩
  have HPE : Ac (BN e v = E):=⟨by unfold BN;rw [if_neg e1.out,if_neg e2.out,if_neg e3.out,if_neg e4.out,if_neg e5.out,if_pos e6.out];rw [if_pos ⟨hd,hp⟩,hpp,Int.toNat_natCast,hE]⟩
  have HIN : Ac (∀ wx,Below w.heap.size w wx → Calls Tryz.prog 72 #[.agg #[.slice Ad e.disk.length cd, .slice Am e.mem.length cm, .slice Al e.log.length cl, .int .i64 e.safe, .bool false], .int .i64 v.page] wx (QZ w0 wx E)):=⟨fun wx hbx => by
    have ho':=HO.out.below hbx
    have h:=JE (p:=p) (by omega) (Ay (Cv.2 ⟨HI.out.core.dlen,HI.out.core.dok⟩)) (Ay HI.out.Gb) (bj HB0.out hbx) ho'
    rw [hE, ← hpp] at h
    rw [Eng.ag,hd] at h
    exact h.mono fun x w' h => ⟨_,_,_,h.1,h.2.1,h.2.2.1,Ba.Qj ho' h.2.2.2⟩⟩
  clear hd hp hpg hpp hE
  rotate_left
  rcases BS v.kind 7 with ⟨e7,b7,c7⟩ | ⟨e7,b7,c7⟩
  rcases Bool.eq_false_or_eq_true e.down with hd | hd
  have HPE : Ac (BN e v = e):=⟨by unfold BN;rw [if_neg e1.out,if_neg e2.out,if_neg e3.out,if_neg e4.out,if_neg e5.out,if_neg e6.out,if_pos e7.out];rw [if_neg (by rw [hd];simp)]⟩
  have HDN:=As hd
  clear hd
  rotate_left
  have HDN:=As hd
  have HPE : Ac (BN e v = G8 e):=⟨by unfold BN;rw [if_neg e1.out,if_neg e2.out,if_neg e3.out,if_neg e4.out,if_neg e5.out,if_neg e6.out,if_pos e7.out];rw [if_pos hd]⟩
  obtain ⟨E,hE⟩ : ∃ E,G8 e = E:=⟨_,rfl⟩
  have HEE : Ac ({ e with safe:=(e.log.length : Int) } = E ∧ E.safe = (e.log.length : Int) ∧ E.down = e.down):=⟨by rw [← hE];exact ⟨rfl,rfl,rfl⟩⟩
  rw [hE] at HPE
  clear hd hE
  rotate_left
  rcases BS v.kind 8 with ⟨e8,b8,c8⟩ | ⟨e8,b8,c8⟩
  rcases lts v.n 0 with ⟨e10,b10,c10⟩ | ⟨e10,b10,c10⟩
  have HPE : Ac (BN e v = e):=⟨by unfold BN;rw [if_neg e1.out,if_neg e2.out,if_neg e3.out,if_neg e4.out,if_neg e5.out,if_neg e6.out,if_neg e7.out,if_pos e8.out];rw [if_neg (by have:=e10.out;omega)]⟩
  rotate_left
  obtain ⟨E,hE⟩ : ∃ E,JG e v.n = E:=⟨_,rfl⟩
  have HPE : Ac (BN e v = E):=⟨by unfold BN;rw [if_neg e1.out,if_neg e2.out,if_neg e3.out,if_neg e4.out,if_neg e5.out,if_neg e6.out,if_neg e7.out,if_pos e8.out];rw [if_pos (by have:=e10.out;omega),hE]⟩
  have HIN : Ac (∀ wx,Below w.heap.size w wx → Calls Tryz.prog 73 #[e.val Ad Am Al cd cm cl, .int .i64 v.n] wx (QZ w0 wx E)):=⟨fun wx hbx => by
    have h:=Pg v.n (Ay (Cv.2 ⟨HI.out.core.dlen,HI.out.core.dok⟩)) HI.out.core.s0 HI.out.core.s1 (Bg HI.out.core.log) (bj HB0.out hbx) (HO.out.below hbx)
    rw [hE] at h
    exact h⟩
  clear hE
  rotate_left
  rcases BS v.kind 9 with ⟨e9,b9,c9⟩ | ⟨e9,b9,c9⟩
  rcases lts v.n 0 with ⟨e10,b10,c10⟩ | ⟨e10,b10,c10⟩
  rcases Bool.eq_false_or_eq_true e.down with hd | hd
  have HPE : Ac (BN e v = e):=⟨by unfold BN;rw [if_neg e1.out,if_neg e2.out,if_neg e3.out,if_neg e4.out,if_neg e5.out,if_neg e6.out,if_neg e7.out,if_neg e8.out,if_pos e9.out];rw [if_neg (fun h => by have h1:=h.1;have h2:=h.2;have h3:=e10.out;omega)]⟩
  have HDN:=As hd
  clear hd
  rotate_left
  have HPE : Ac (BN e v = e):=⟨by unfold BN;rw [if_neg e1.out,if_neg e2.out,if_neg e3.out,if_neg e4.out,if_neg e5.out,if_neg e6.out,if_neg e7.out,if_neg e8.out,if_pos e9.out];rw [if_neg (fun h => by have h1:=h.1;have h2:=h.2;have h3:=e10.out;omega)]⟩
  have HDN:=As hd
  clear hd
  rotate_left
  rcases (Bool.eq_false_or_eq_true e.down).symm with hd | hd
  have HPE : Ac (BN e v = e):=⟨by unfold BN;rw [if_neg e1.out,if_neg e2.out,if_neg e3.out,if_neg e4.out,if_neg e5.out,if_neg e6.out,if_neg e7.out,if_neg e8.out,if_pos e9.out];rw [if_neg (fun h => by have h1:=h.1;rw [hd] at h1;cases h1)]⟩
  have HDN:=As hd
  clear hd
  rotate_left
  have HDN:=As hd
  obtain ⟨n,hn⟩ : ∃ n : Nat,v.n = (n : Int):=⟨v.n.toNat,by have:=e10.out;omega⟩
  obtain ⟨E,hE⟩ : ∃ E,upE (CX n (EW e)) = E:=⟨_,rfl⟩
  have HPE : Ac (BN e v = E):=⟨by unfold BN;rw [if_neg e1.out,if_neg e2.out,if_neg e3.out,if_neg e4.out,if_neg e5.out,if_neg e6.out,if_neg e7.out,if_neg e8.out,if_pos e9.out];rw [if_pos ⟨hd,by omega⟩,hn,Int.toNat_natCast,Q5,hE]⟩
  obtain ⟨r,hr⟩ : ∃ r,decide (AO (CX n (EW e)) = 0) = r:=⟨_,rfl⟩
  have HIN : Ac (∀ wx,Below w.heap.size w wx → Calls Tryz.prog 43 #[.agg #[.slice Ad e.disk.length cd, .slice Am e.mem.length cm, .slice Al e.log.length cl, .int .i64 e.safe, .bool true], .int .i64 v.n] wx (I8 w0 wx E r)):=⟨fun wx hbx => by
    have h:=Rx n (Ay (Cv.2 ⟨HI.out.core.dlen,HI.out.core.dok⟩)) HI.out.core.log (Fh.1 HI.out.ok).rise (bj HB0.out hbx) (HO.out.below hbx)
    rw [← hn,Eng.ag,hd] at h
    exact h.mono fun x w' h => by
      obtain ⟨a1,a2,a3,h1,h2,h3,h4⟩:=h
      rw [hE,hr] at h1
      rw [hE] at h2
      exact ⟨a1,a2,a3,h1,h2,h3,h4⟩⟩
  clear hd hn hE hr
  rotate_left
  have HPE : Ac (BN e v = e):=⟨by unfold BN;rw [if_neg e1.out,if_neg e2.out,if_neg e3.out,if_neg e4.out,if_neg e5.out,if_neg e6.out,if_neg e7.out,if_neg e8.out,if_neg e9.out]⟩
  all_goals
    go_enter Tryz.func33,Tryz.ntmps33
    go_wp2_with (first
      | (with_reducible refine Aw (vd:=.slice Ad e.disk.length cd) (vm:=.slice Am e.mem.length cm) (vl:=.slice Al e.log.length cl) e ?_;clear HONE;intro w1 hb1 hz1 hq1;clear hz1;have HB:=As hb1;have HQ:=As hq1;have HL1:=As hq1.lt;clear hb1 hq1;have x0:=HQ.out.c0;have x1:=HQ.out.c1;have x2:=HQ.out.c2;have x3:=HQ.out.c3;have x4:=HQ.out.c4)
      | (with_reducible refine Er (A:=A) (c:=c) v ?_;intro w2 hb1 hz1 hq1;clear hz1;have HN1:=As HB.out.size;replace HB:=As (bj HB.out hb1);replace HQ:=As (HQ.out.up hb1);have HV:=As hq1;have HL2:=As hq1.lt;replace x0:=bc hb1 x0;replace x1:=bc hb1 x1;replace x2:=bc hb1 x2;replace x3:=bc hb1 x3;replace x4:=bc hb1 x4;clear hb1 hq1)
      | (refine Aw (vd:=.slice none 0 0) (vm:=.slice none 0 0) (vl:=.slice none 0 0) zE ?_;clear HTWO;intro w3 hb1 hz1 hq1;have HN2:=As HB.out.size;replace HB:=As (bj HB.out hb1);replace HQ:=As (HQ.out.up hb1);replace HV:=As (HV.out.up hb1);have HP:=As hq1;have HZ3:=As hz1;replace x0:=bc hb1 x0;replace x1:=bc hb1 x1;replace x2:=bc hb1 x2;replace x3:=bc hb1 x3;replace x4:=bc hb1 x4;clear hb1 hz1 hq1)
      | (with_reducible refine Aw (vd:=.slice Ad e.disk.length cd) (vm:=.slice Am e.mem.length cm) (vl:=.slice Al e.log.length cl) e ?_;intro w4 hb1 hz1 hq1;clear hz1;have HN3:=As HB.out.size;replace HB:=As (bj HB.out hb1);replace HQ:=As (HQ.out.up hb1);replace HV:=As (HV.out.up hb1);replace HP:=As (HP.out.up hb1);have HXB:=As hq1;have hne1 : ¬ w3.heap.size = w2.heap.size:=(by have:=HZ3.out;omega);have hne2 : ¬ w2.heap.size = w3.heap.size:=(by have:=HZ3.out;omega);replace x0:=bc hb1 x0;replace x1:=bc hb1 x1;replace x2:=bc hb1 x2;replace x3:=bc hb1 x3;replace x4:=bc hb1 x4;have v0:=HV.out.c0;have v1:=HV.out.c1;have v2:=HV.out.c2;have v3:=HV.out.c3;have v4:=HV.out.c4;have v5:=HV.out.c5;have n0:=HXB.out.c0;have n1:=HXB.out.c1;have n2:=HXB.out.c2;have n3:=HXB.out.c3;have n4:=HXB.out.c4;have m0:=HXB.out.frz 0;have m1:=HXB.out.frz 1;have m2:=HXB.out.frz 2;have m3:=HXB.out.frz 3;have m4:=HXB.out.frz 4;have y0:=HP.out.c0;have y1:=HP.out.c1;have y2:=HP.out.c2;have y3:=HP.out.c3;have y4:=HP.out.c4;have f0:=HP.out.frz 0;have f1:=HP.out.frz 1;have f2:=HP.out.frz 2;have f3:=HP.out.frz 3;have f4:=HP.out.frz 4;(try rw [HDN.out] at x4);clear hb1 hq1)
      | ((first | go_at_call 67 | go_at_call 68 | go_at_call 69 | go_at_call 70 | go_at_call 71 | go_at_call 72 | go_at_call 73 | go_at_call 43);refine (HIN.out w4 HB.out).mono ?_;rintro x w5 ⟨ud,um,ul,rfl,ho,hb5,hk5⟩;obtain ⟨Bd,dd,Bm,dm,Bl,dl,rfl,rfl,rfl, -, -⟩:=ho.reads;have HO5:=As ho;have HB5:=As hb5;have HK5:=As ((Ba.of_below HB.out).CG hk5);have hx:=HXB.out.Jf hk5;have hp:=HP.out.Jf hk5;have HX5:=As hx;have HP5:=As hp;clear x0 x1 x2 x3 x4 v0 v1 v2 v3 v4 v5 n0 n1 n2 n3 n4 m0 m1 m2 m3 m4 y0 y1 y2 y3 y4 f0 f1 f2 f3 f4;have n0:=hx.c0;have n1:=hx.c1;have n2:=hx.c2;have n3:=hx.c3;have n4:=hx.c4;have m0:=hx.frz 0;have m1:=hx.frz 1;have m2:=hx.frz 2;have m3:=hx.frz 3;have m4:=hx.frz 4;have y0:=hp.c0;have y1:=hp.c1;have y2:=hp.c2;have y3:=hp.c3;have y4:=hp.c4;have f0:=hp.frz 0;have f1:=hp.frz 1;have f2:=hp.frz 2;have f3:=hp.frz 3;have f4:=hp.frz 4;clear ho hb5 hk5 hx hp)
      | (refine Om (Go.Proofs.YtpjmlpmhgfghbaaGreat.Az w5 w3.heap.size E (.slice Bd E.disk.length dd) (.slice Bm E.mem.length dm) (.slice Bl E.log.length dl)) ?_;intro w6 hw6;have hx : Ai w6 w3.heap.size E (.slice Bd E.disk.length dd) (.slice Bm E.mem.length dm) (.slice Bl E.log.length dl):=(by rw [← hw6];exact HX5.out.Az E _ _ _);have hp : Ai w6 w2.heap.size zE (.slice none 0 0) (.slice none 0 0) (.slice none 0 0):=(by rw [← hw6];exact ((((HP5.out.far hne1 0 _).far hne1 1 _).far hne1 2 _).far hne1 3 _).far hne1 4 _);have HO6 : Ac (AU w6 w0.heap.size (.slice Bd E.disk.length dd) (.slice Bm E.mem.length dm) (.slice Bl E.log.length dl) E):=⟨by rw [← hw6];exact HO5.out.Az (f:=E) HX5.out⟩;have HB6 : Ac (Below w0.heap.size w0 w6):=⟨by rw [← hw6];exact Ak HB5.out (Nat.le_trans HB0.out.size HN3.out) E _ _ _⟩;have HK6 : Ac (Ba w w6):=⟨by rw [← hw6];exact HK5.out.Az HN3.out E _ _ _⟩;have HP6:=As hp;clear n0 n1 n2 n3 n4 m0 m1 m2 m3 m4 y0 y1 y2 y3 y4 f0 f1 f2 f3 f4;have n0:=hx.c0;have n1:=hx.c1;have n2:=hx.c2;have n3:=hx.c3;have n4:=hx.c4;have y0:=hp.c0;have y1:=hp.c1;have y2:=hp.c2;have y3:=hp.c3;have y4:=hp.c4;have f0:=hp.frz 0;have f1:=hp.frz 1;have f2:=hp.frz 2;have f3:=hp.frz 3;have f4:=hp.frz 4;clear hw6 hx hp)
      | (go_at_call 55;refine (BZ _ _ _ _).mono ?_;rw [HPG.out];rintro x w' ⟨rfl,rfl⟩)
      | (have hee:=HEE;refine Om (w4.setCell ⟨w3.heap.size,3,none⟩ (.int .i64 (e.log.length : Int))) ?_;clear HEE;intro w6 hw6;have hx : Ai w6 w3.heap.size E (.slice Ad e.disk.length cd) (.slice Am e.mem.length cm) (.slice Al e.log.length cl):=(by rw [← hw6, ← hee.out.1];exact HXB.out.Cu _);have hp : Ai w6 w2.heap.size zE (.slice none 0 0) (.slice none 0 0) (.slice none 0 0):=(by rw [← hw6];exact HP.out.far hne1 3 _);have HO6 : Ac (AU w6 w0.heap.size (.slice Ad e.disk.length cd) (.slice Am e.mem.length cm) (.slice Al e.log.length cl) E):=⟨by rw [← hw6, ← hee.out.1];have h:=(HO.out.below HB.out).Fe HXB.out 3 (.int .i64 (e.log.length : Int));exact ⟨h.ex,h.l⟩⟩;have HB6 : Ac (Below w0.heap.size w0 w6):=⟨by rw [← hw6];exact (bj HB0.out HB.out).setCell (p:=⟨w3.heap.size,3,none⟩) (Nat.le_trans HB0.out.size HN3.out) _⟩;have HK6 : Ac (Ba w w6):=⟨by rw [← hw6];exact (Ba.of_below HB.out).setCell (p:=⟨w3.heap.size,3,none⟩) HN3.out _⟩;have HP6:=As hp;clear x0 x1 x2 x3 x4 v0 v1 v2 v3 v4 v5 n0 n1 n2 n3 n4 m0 m1 m2 m3 m4 y0 y1 y2 y3 y4 f0 f1 f2 f3 f4;have n0:=hx.c0;have n1:=hx.c1;have n2:=hx.c2;have n3:=hx.c3;have n4:=hx.c4;have y0:=hp.c0;have y1:=hp.c1;have y2:=hp.c2;have y3:=hp.c3;have y4:=hp.c4;have f0:=hp.frz 0;have f1:=hp.frz 1;have f2:=hp.frz 2;have f3:=hp.frz 3;have f4:=hp.frz 4;clear hw6 hx hp))
    first
      | (have hy:=HP6.out.Az E (.slice Bd E.disk.length dd) (.slice Bm E.mem.length dm) (.slice Bl E.log.length dl)
         have h1:=AU.Az (f:=E) (xd:=.slice Bd E.disk.length dd) (xm:=.slice Bm E.mem.length dm) (xl:=.slice Bl E.log.length dl) HO6.out HP6.out
         have h2:=Ak (g:=w2.heap.size) HB6.out (Nat.le_trans HB0.out.size HN2.out) E (.slice Bd E.disk.length dd) (.slice Bm E.mem.length dm) (.slice Bl E.log.length dl)
         have h3:=Ba.Az (g:=w2.heap.size) HK6.out HN2.out E (.slice Bd E.disk.length dd) (.slice Bm E.mem.length dm) (.slice Bl E.log.length dl)
         have z0:=hy.c0
         have z1:=hy.c1
         have z2:=hy.c2
         have z3:=hy.c3
         have z4:=hy.c4
         exact bodyPost_ret (v:=E.ag (.slice Bd E.disk.length dd) (.slice Bm E.mem.length dm) (.slice Bl E.log.length dl)) (by simp [results,Tryz.results33,go_sem,z0,z1,z2,z3,z4]) rfl (by rw [HPE.out];exact ⟨_,_,_,rfl,h1,h2,h3⟩))
      | (have hy:=HP6.out.Az E (.slice Ad e.disk.length cd) (.slice Am e.mem.length cm) (.slice Al e.log.length cl)
         have h1:=AU.Az (f:=E) (xd:=.slice Ad e.disk.length cd) (xm:=.slice Am e.mem.length cm) (xl:=.slice Al e.log.length cl) HO6.out HP6.out
         have h2:=Ak (g:=w2.heap.size) HB6.out (Nat.le_trans HB0.out.size HN2.out) E (.slice Ad e.disk.length cd) (.slice Am e.mem.length cm) (.slice Al e.log.length cl)
         have h3:=Ba.Az (g:=w2.heap.size) HK6.out HN2.out E (.slice Ad e.disk.length cd) (.slice Am e.mem.length cm) (.slice Al e.log.length cl)
         have z0:=hy.c0
         have z1:=hy.c1
         have z2:=hy.c2
         have z3:=hy.c3
         have z4:=hy.c4
         exact bodyPost_ret (v:=E.ag (.slice Ad e.disk.length cd) (.slice Am e.mem.length cm) (.slice Al e.log.length cl)) (by simp [results,Tryz.results33,go_sem,z0,z1,z2,z3,z4]) rfl (by rw [HPE.out];exact ⟨_,_,_,rfl,h1,h2,h3⟩))
      | (have hy:=HP.out.Az e (.slice Ad e.disk.length cd) (.slice Am e.mem.length cm) (.slice Al e.log.length cl)
         have h1:=AU.Az (f:=e) (xd:=.slice Ad e.disk.length cd) (xm:=.slice Am e.mem.length cm) (xl:=.slice Al e.log.length cl) (HO.out.below HB.out) HP.out
         have h2:=Ak (g:=w2.heap.size) (bj HB0.out HB.out) (Nat.le_trans HB0.out.size HN2.out) e (.slice Ad e.disk.length cd) (.slice Am e.mem.length cm) (.slice Al e.log.length cl)
         have h3:=Ba.Az (g:=w2.heap.size) (Ba.of_below HB.out) HN2.out e (.slice Ad e.disk.length cd) (.slice Am e.mem.length cm) (.slice Al e.log.length cl)
         have z0:=hy.c0
         have z1:=hy.c1
         have z2:=hy.c2
         have z3:=hy.c3
         have z4:=hy.c4
         exact bodyPost_ret (v:=e.ag (.slice Ad e.disk.length cd) (.slice Am e.mem.length cm) (.slice Al e.log.length cl)) (by simp [results,Tryz.results33,go_sem,z0,z1,z2,z3,z4]) rfl (by rw [HPE.out];exact ⟨_,_,_,rfl,h1,h2,h3⟩))
set_option maxRecDepth 100000 in
set_option maxHeartbeats 8000000 in
theorem KV (w : World) : Calls Tryz.prog 114 #[] w (Og w newP):=by
  have hmk:=SA
  go_enter Tryz.func114,Tryz.ntmps114
  go_wp2
  obtain ⟨w1,hw1⟩ : ∃ w1,w.alloc (Obj.cells #[.int .i64 0, .int .i64 0, .slice (some ⟨w.heap.size + 1,0,none⟩) 3 3] 81) = w1:=⟨_,rfl⟩
  have hz1 : w1.heap.size = w.heap.size + 1:=by rw [← hw1,BA]
  obtain ⟨w2,hw2⟩ : ∃ w2,w1.alloc (.cells (madeCells #[.int .i64 0] 3) 3) = w2:=⟨_,rfl⟩
  have ho : AR w2 w1.heap.size (.slice (some ⟨w1.heap.size,0,none⟩) 3 3) [0,0,0]:=by rw [← hw2];exact JO w1 w1.heap.size 3 .i64 3 (Nat.le_refl _) (by decide)
  have hq : AY w2 w.heap.size newP (.slice (some ⟨w.heap.size + 1,0,none⟩) 3 3):=by rw [← hw2, ← hw1];exact (AY.mk1 w newP _).up (Ah (Below.refl _ _) _)
  have hb : Below w.heap.size w w2:=by rw [← hw2, ← hw1];exact Ah (Ah (Below.refl _ _) _) _
  rw [hw1,hw2]
  rw [hz1] at ho
  have z0:=hq.c0
  have z1:=hq.c1
  have z2:=hq.c2
  exact bodyPost_ret (v:=newP.own (.slice (some ⟨w.heap.size + 1,0,none⟩) 3 3)) (by simp [results,Tryz.results114,go_sem,z0,z1,z2]) rfl ⟨_,rfl,ho.lower (by omega),hb⟩
theorem OO {k : Nat} (h : k < 5) : (List.replicate 5 newP).take (k + 1) = (List.replicate 5 newP).take k ++ [newP]:=by
  match k,h with
  | 0,_ => rfl
  | 1,_ => rfl
  | 2,_ => rfl
  | 3,_ => rfl
  | 4,_ => rfl
set_option maxRecDepth 100000 in
set_option maxHeartbeats 8000000 in
theorem Jc (w : World) : Calls Tryz.prog 54 #[] w (NT w (List.replicate 5 newP)):=by
  go_enter Tryz.func54,Tryz.ntmps54
  go_wp2
  go_loopw [1,2] (fun v i wr => ∃ k : Nat,k ≤ 5 ∧ i = .int .i64 (k : Int) ∧ Ac (EA wr w.heap.size v ((List.replicate 5 newP).take k)) ∧ Ac (Below w.heap.size w wr)) (fun _ i _ => (5 - intOf i).toNat)
  case atStart => exact ⟨0,Nat.zero_le _,rfl,⟨Qa rfl (Nat.le_refl _)⟩,⟨(Below.refl _ _).alloc (Nat.le_refl _) _⟩⟩
  case round =>
    obtain ⟨k,hk,rfl,HO,HW⟩:=hrel
    by_cases hlt : k < 5
    · have HT:=As (OO hlt)
      have HLN : Ac (((List.replicate 5 newP).take k).length = k):=⟨by simp;omega⟩
      have hki : (k : Int) < 5:=by omega
      go_wp2_with (first | (go_at_call 114;refine (KV _).mono ?_;rintro e w2 ⟨v,rfl,ho,hb2⟩;have HOv:=As ho;have HW2:=As hb2;have HO2:=As (Kd.Ep HO.out HW2.out);clear ho hb2) | (at_builtin;refine Gi (p:=newP) rfl (.tmp 8) (.tmp 10) rfl rfl rfl HOv.out HO2.out (bj HW.out HW2.out) (by have:=HLN.out;omega) HW.out.size ?_;intro v1 w3 hR hb3;have HR3:=As hR;have HW3:=As hb3;clear hR hb3))
      go_roundw
      case rel => exact ⟨k + 1,by omega,by go_num,⟨by rw [HT.out];exact HR3.out⟩,HW3⟩
      case measure => simp [intOf];omega
    · have hke : k = 5:=by omega
      subst hke
      go_wp2
      go_ret
      exact ⟨_,rfl,HO.out,HW.out⟩
theorem R8 {P : Program} {ops : Array Oper} {l : List Oper} {Q : Exit → Act → World → Prop} {a : Act} (W : World) (h : ∀ w1,W = w1 → wpList P ops Q l a w1) : wpList P ops Q l a W:=h W rfl
set_option maxRecDepth 100000 in
set_option maxHeartbeats 8000000 in
theorem Ga (w : World) : Calls Tryz.prog 32 #[] w (RV w newE):=by
  go_enter Tryz.func32,Tryz.ntmps32
  go_wp2_with (first
    | (refine Aw (vd:=.slice none 0 0) (vm:=.slice none 0 0) (vl:=.slice none 0 0) zE ?_;intro w1 hb1 hz1 hq1;clear hz1;have HB:=As hb1;have HP:=As hq1;clear hb1 hq1)
    | (go_at_call 54;refine (Jc w1).mono ?_;rintro x w2 ⟨vd,rfl,ho,hb2⟩;obtain ⟨Dd,kd,rfl, -, -⟩:=Kd.CJ ho;have HD : Ac (EA w2 w1.heap.size (.slice Dd 5 kd) (List.replicate 5 newP)):=⟨ho⟩;have HB2:=As hb2;clear ho hb2)
    | (go_at_call 54;refine (Jc w2).mono ?_;rintro x w3 ⟨vm,rfl,ho,hb2⟩;obtain ⟨Dm,km,rfl, -, -⟩:=Kd.CJ ho;have HM : Ac (EA w3 w2.heap.size (.slice Dm 5 km) (List.replicate 5 newP)):=⟨ho⟩;have HB3:=As hb2;have HP3:=As ((HP.out.up HB2.out).up hb2);clear ho hb2)
    | (refine R8 (w3.alloc (.cells #[] 98)) ?_;intro w4 hw4;have hb4 : Below w3.heap.size w3 w4:=(by rw [← hw4];exact Ah (Below.refl _ _) _);have HR4 : Ac (OwnRs w4 w1.heap.size (.slice (some ⟨w3.heap.size,0,none⟩) 0 0) []):=⟨by rw [← hw4];exact rs_empty rfl (Nat.le_trans HB2.out.size HB3.out.size)⟩;have HB4:=As (bj HB3.out hb4);have HM4:=As (Kd.Bu HM.out hb4);have hp:=HP3.out.up hb4;have HP4:=As hp;have y0:=hp.c0;have y1:=hp.c1;have y2:=hp.c2;have y3:=hp.c3;have y4:=hp.c4;have f0:=hp.frz 0;have f1:=hp.frz 1;have f2:=hp.frz 2;have f3:=hp.frz 3;have f4:=hp.frz 4;clear hp hb4 hw4))
  have hO : AU w4 w1.heap.size (.slice Dd 5 kd) (.slice Dm 5 km) (.slice (some ⟨w3.heap.size,0,none⟩) 0 0) newE:=AU.mk2 (w0:=w2) HD.out HM4.out HB4.out HB2.out.size HR4.out
  have hy:=HP4.out.Az ⟨[], [], [],0,false⟩ (.slice Dd 5 kd) (.slice Dm 5 km) (.slice (some ⟨w3.heap.size,0,none⟩) 0 0)
  have h1:=hO.Az (f:=⟨[], [], [],0,false⟩) (xd:=.slice Dd 5 kd) (xm:=.slice Dm 5 km) (xl:=.slice (some ⟨w3.heap.size,0,none⟩) 0 0) HP4.out
  have h2:=Ak (g:=w.heap.size) (bj HB.out (bj HB2.out HB4.out)) (Nat.le_refl _) ⟨[], [], [],0,false⟩ (.slice Dd 5 kd) (.slice Dm 5 km) (.slice (some ⟨w3.heap.size,0,none⟩) 0 0)
  have hs:=HB.out.size
  have z0:=hy.c0
  have z1:=hy.c1
  have z2:=hy.c2
  have z3:=hy.c3
  have z4:=hy.c4
  simp only at z3 z4
  exact bodyPost_ret (v:=.agg #[.slice Dd 5 kd, .slice Dm 5 km, .slice (some ⟨w3.heap.size,0,none⟩) 0 0, .int .i64 0, .bool false]) (by simp [results,Tryz.results32,go_sem,z0,z1,z2,z3,z4]) rfl ⟨.slice Dd 5 kd, .slice Dm 5 km, .slice (some ⟨w3.heap.size,0,none⟩) 0 0,rfl,h1.lower hs,h2⟩
set_option maxRecDepth 100000 in
set_option maxHeartbeats 16000000 in
theorem Hg {w0 w : World} {A : Option Addr} {c : Nat} {vs : List Evt} (hb : Below w0.heap.size w0 w) (hr : Kd.C kEvt w0 A vs.length vs) : Calls Tryz.prog 9 #[.slice A vs.length c] w (CQ w (LZ vs).1 (LZ vs).2):=by
  have HR:=As (BM hr hb)
  have hmx:=(D5 hr).2
  clear hr hb
  by_cases h40 : 40 < vs.length
  · rw [LZ,if_pos h40]
    go_enter Tryz.func9,Tryz.ntmps9
    go_wp2_with (refine Aw (vd:=.slice none 0 0) (vm:=.slice none 0 0) (vl:=.slice none 0 0) zE ?_;intro w1 hb1 hz1 hq1;clear hz1;have HB:=As hb1;have HP:=As hq1;have y0:=hq1.c0;have y1:=hq1.c1;have y2:=hq1.c2;have y3:=hq1.c3;have y4:=hq1.c4;have f0:=hq1.frz 0;have f1:=hq1.frz 1;have f2:=hq1.frz 2;have f3:=hq1.frz 3;have f4:=hq1.frz 4;clear hb1 hq1)
    obtain ⟨z0,z1,z2,z3,z4⟩:=HP.out.empty
    exact bodyPost_ret (v:=.tuple #[zEv, .bool false]) (by simp [results,Tryz.results9,go_sem,z0,z1,z2,z3,z4]) rfl ⟨_,_,_,rfl,I6 _ _,Ak (g:=w.heap.size) HB.out (Nat.le_refl _) zE _ _ _⟩
  · rw [LZ,if_neg h40]
    have hn40 : ¬ (40 : Int) < (vs.length : Int):=by omega
    have HONE : True:=trivial
    go_enter Tryz.func9,Tryz.ntmps9
    go_wp2_with (first
      | (refine Aw (vd:=.slice none 0 0) (vm:=.slice none 0 0) (vl:=.slice none 0 0) zE ?_;clear HONE;intro w1 hb1 hz1 hq1;clear hz1;have HB:=As hb1;have HP:=As hq1;clear hb1 hq1)
      | (go_at_call 32;refine (Ga w1).mono ?_;rintro x w2 ⟨vd,vm,vl,rfl,ho,hb2⟩;obtain ⟨Ed,n1,Em,n2,El,n3,rfl,rfl,rfl, -, -⟩:=ho.reads;have HO:=As ho;have HX:=As hb2;clear hb2 ho))
    obtain ⟨w3,hw3⟩ : ∃ w3,w2.alloc (Obj.cells #[.slice Ed newE.disk.length n1, .slice Em newE.mem.length n2, .slice El newE.log.length n3, .int .i64 newE.safe, .bool newE.down] 28) = w3:=⟨_,rfl⟩
    rw [hw3]
    have hb3 : Below w2.heap.size w2 w3:=by rw [← hw3];exact Ah (Below.refl _ _) _
    have hq3 : Ai w3 w2.heap.size newE (.slice Ed newE.disk.length n1) (.slice Em newE.mem.length n2) (.slice El newE.log.length n3):=by rw [← hw3];exact Ai.mk1 _ _ _ _ _
    have HEG : Ac (BO w1 w3 w2.heap.size newE):=⟨⟨⟨_,_,_,hq3,HO.out.below hb3⟩,bj HX.out hb3,HX.out.size⟩⟩
    clear hw3 hb3 hq3
    go_loopw [5] (fun i wr => ∃ k : Nat,k ≤ vs.length ∧ i = .int .i64 (k : Int) ∧ Ac (BO w1 wr w2.heap.size (runE newE (vs.take k)))) (fun i _ => (vs.length - intOf i).toNat)
    case atStart => exact ⟨0,Nat.zero_le _,rfl,HEG⟩
    case round =>
      obtain ⟨k,hk,rfl,HE⟩:=hrel
      obtain ⟨⟨vd,vm,vl,hq,ho⟩, -, -⟩:=HE.out
      obtain ⟨Ed',m1,Em',m2,El',m3,rfl,rfl,rfl,hcl,hrd⟩:=ho.reads
      have HRD:=As hrd
      have HQ:=As hq
      have HO:=As ho
      have x0:=hq.c0
      have x1:=hq.c1
      have x2:=hq.c2
      have x3:=hq.c3
      have x4:=hq.c4
      by_cases hlt : k < vs.length
      · obtain ⟨ad,A2,c2,rfl,QV, -,hv⟩:=RL (BM HR.out HB.out) k hlt
        obtain ⟨z0,z1,z2,z3,z4,z5⟩:=QV
        replace z0:=bc HE.out.bel z0
        replace z1:=bc HE.out.bel z1
        replace z2:=bc HE.out.bel z2
        replace z3:=bc HE.out.bel z3
        replace z4:=bc HE.out.bel z4
        replace z5:=bc HE.out.bel z5
        have HTK:=As (show runE newE (vs.take (k + 1)) = BN (runE newE (vs.take k)) (ev vs k) by rw [Pp hlt,Ic])
        have HINV:=As (Pm vs k (by omega))
        obtain ⟨X,hX⟩ : ∃ X,runE newE (vs.take k) = X:=⟨_,rfl⟩
        obtain ⟨v,hvv⟩ : ∃ v,ev vs k = v:=⟨_,rfl⟩
        rw [hX] at HRD HQ HO x0 x1 x2 x3 x4 HTK HINV HE
        rw [hvv] at z0 z1 z2 z3 z4 z5 HTK hv
        obtain ⟨X1,hX1⟩ : ∃ X1,BN X v = X1:=⟨_,rfl⟩
        rw [hX1] at HTK
        have HDO : Ac (∀ wx,Below w1.heap.size w1 wx → AU wx w1.heap.size (.slice Ed' X.disk.length m1) (.slice Em' X.mem.length m2) (.slice El' X.log.length m3) X → Calls Tryz.prog 33 #[X.val Ed' Em' El' m1 m2 m3,v.val A2 c2] wx (QZ w1 wx X1)):=⟨fun wx hb ho => by
          obtain ⟨C,hi⟩:=HINV.out
          have h:=MH (c:=c2) v hi (by omega) hb ho (fun _ h _ => BM hv h)
          rw [hX1] at h
          exact h⟩
        have hki : (k : Int) < (vs.length : Int):=by omega
        clear hq ho hrd hv hX hvv hcl hX1
        go_wp2
        refine AX (fun lx a wx => (Below w1.heap.size w1 wx ∧ Ba wr wx) ∧ (Un 5 (fun wx => Below wr.heap.size wr wx) lx a wx ∧ Sl 5 22 (fun v wx => ∃ ud um ul,v = X1.ag ud um ul ∧ AU wx w1.heap.size ud um ul X1) lx a wx)) 6 rfl (by kernel_rfl) (⟨⟨Aj HE.out.bel,Ba.refl _⟩,fun _ => Aj (Below.refl _ _),AZ⟩) (fun HT => ?_)
        refine Aq (i:=0) (v:=?_) 5 HT rfl (by kernel_rfl) (by kernel_rfl) rfl (kA Aa (kA (Af rfl) (Ab rfl rfl))) (by rfl) (fun _ _ _ h => h) (fun lx ax wx hK hS => ?_) ?_;rotate_left;(have hbx:=hS.2.1 hK;clear hS;replace x0:=bc hbx x0;replace x1:=bc hbx x1;replace x2:=bc hbx x2;replace x3:=bc hbx x3;replace x4:=bc hbx x4;replace z0:=bc hbx z0;replace z1:=bc hbx z1;replace z2:=bc hbx z2;replace z3:=bc hbx z3;replace z4:=bc hbx z4;replace z5:=bc hbx z5;go_simp;with_reducible rfl);rotate_left;simp only [sc0,sc1]
        refine Aq (i:=1) (v:=?_) 5 HT rfl (by kernel_rfl) (by kernel_rfl) rfl (kA Aa (kA (Af rfl) (Ab rfl rfl))) (by rfl) (fun _ _ _ h => h) (fun lx ax wx hK hS => ?_) ?_;rotate_left;(have hbx:=hS.2.1 hK;clear hS;replace x0:=bc hbx x0;replace x1:=bc hbx x1;replace x2:=bc hbx x2;replace x3:=bc hbx x3;replace x4:=bc hbx x4;replace z0:=bc hbx z0;replace z1:=bc hbx z1;replace z2:=bc hbx z2;replace z3:=bc hbx z3;replace z4:=bc hbx z4;replace z5:=bc hbx z5;go_simp;with_reducible rfl);rotate_left;simp only [sc0,sc1]
        refine Aq (i:=2) (v:=?_) 5 HT rfl (by kernel_rfl) (by kernel_rfl) rfl (kA Aa (kA (Af rfl) (Ab rfl rfl))) (by rfl) (fun _ _ _ h => h) (fun lx ax wx hK hS => ?_) ?_;rotate_left;(have hbx:=hS.2.1 hK;clear hS;replace x0:=bc hbx x0;replace x1:=bc hbx x1;replace x2:=bc hbx x2;replace x3:=bc hbx x3;replace x4:=bc hbx x4;replace z0:=bc hbx z0;replace z1:=bc hbx z1;replace z2:=bc hbx z2;replace z3:=bc hbx z3;replace z4:=bc hbx z4;replace z5:=bc hbx z5;go_simp;with_reducible rfl);rotate_left;simp only [sc0,sc1]
        refine Aq (i:=3) (v:=?_) 5 HT rfl (by kernel_rfl) (by kernel_rfl) rfl (kA Aa (kA (Af rfl) (Ab rfl rfl))) (by rfl) (fun _ _ _ h => h) (fun lx ax wx hK hS => ?_) ?_;rotate_left;(have hbx:=hS.2.1 hK;clear hS;replace x0:=bc hbx x0;replace x1:=bc hbx x1;replace x2:=bc hbx x2;replace x3:=bc hbx x3;replace x4:=bc hbx x4;replace z0:=bc hbx z0;replace z1:=bc hbx z1;replace z2:=bc hbx z2;replace z3:=bc hbx z3;replace z4:=bc hbx z4;replace z5:=bc hbx z5;go_simp;with_reducible rfl);rotate_left;simp only [sc0,sc1]
        refine Aq (i:=4) (v:=?_) 5 HT rfl (by kernel_rfl) (by kernel_rfl) rfl (kA Aa (kA (Af rfl) (Ab rfl rfl))) (by rfl) (fun _ _ _ h => h) (fun lx ax wx hK hS => ?_) ?_;rotate_left;(have hbx:=hS.2.1 hK;clear hS;replace x0:=bc hbx x0;replace x1:=bc hbx x1;replace x2:=bc hbx x2;replace x3:=bc hbx x3;replace x4:=bc hbx x4;replace z0:=bc hbx z0;replace z1:=bc hbx z1;replace z2:=bc hbx z2;replace z3:=bc hbx z3;replace z4:=bc hbx z4;replace z5:=bc hbx z5;go_simp;with_reducible rfl);rotate_left;simp only [sc0,sc1]
        refine BR (i:=5) (f:=33) (args:=#[X.val Ed' Em' El' m1 m2 m3,v.val A2 c2]) (fun v => ∃ ud um ul,v = X1.ag ud um ul) rfl (by kernel_rfl) rfl Tryz.func33 (by kernel_rfl) rfl rfl (by rfl) (by simp only [List.map_toArray,List.map_cons,List.map_nil];rfl) (fun wx hS => (HDO.out wx hS.1.1 (HO.out.below (hS.2.1 (by kernel_rfl)))).mono (by rintro y w6 ⟨ud,um,ul,rfl,ho,hb,hk⟩;exact ⟨_,rfl,⟨ud,um,ul,rfl⟩,⟨hb,hS.1.2.CG hk⟩,fun h => (AA (by kernel_rfl) h).elim,fun _ => ⟨ud,um,ul,rfl,ho⟩⟩)) (fun vx hg => ?_);simp only [sc0,sc1]
        obtain ⟨ud,um,ul,rfl⟩:=hg
        refine BQ (i:=6) (by kernel_rfl) rfl (fun wx hS => ?_)
        obtain ⟨⟨h1,h2⟩, -,h3⟩:=hS
        obtain ⟨ud',um',ul',hu',hown⟩:=h3 (by kernel_rfl)
        have hu' : X1.ag ud um ul = X1.ag ud' um' ul':=hu'
        obtain ⟨rfl,rfl,rfl⟩ : ud = ud' ∧ um = um' ∧ ul = ul':=by simpa using hu'
        obtain ⟨Bd,dd,Bm,dm,Bl,dl,rfl,rfl,rfl, -, -⟩:=hown.reads
        have hq5:=HQ.out.Jf h2
        clear x0 x1 x2 x3 x4 z0 z1 z2 z3 z4 z5
        have x0:=hq5.c0
        have x1:=hq5.c1
        have x2:=hq5.c2
        have x3:=hq5.c3
        have x4:=hq5.c4
        have f0:=hq5.frz 0
        have f1:=hq5.frz 1
        have f2:=hq5.frz 2
        have f3:=hq5.frz 3
        have f4:=hq5.frz 4
        refine Bh (w1:=Go.Proofs.YtpjmlpmhgfghbaaGreat.Az wx w2.heap.size X1 (.slice Bd X1.disk.length dd) (.slice Bm X1.mem.length dm) (.slice Bl X1.log.length dl)) rfl (by rfl) (by go_simp) ?_
        obtain ⟨w9,hw9⟩ : ∃ w9,Go.Proofs.YtpjmlpmhgfghbaaGreat.Az wx w2.heap.size X1 (.slice Bd X1.disk.length dd) (.slice Bm X1.mem.length dm) (.slice Bl X1.log.length dl) = w9:=⟨_,rfl⟩
        have HE9 : Ac (BO w1 w9 w2.heap.size X1):=⟨by rw [← hw9];exact ⟨⟨_,_,_,hq5.Az X1 _ _ _,hown.Az (f:=X1) hq5⟩,Ak h1 HE.out.ge X1 _ _ _,HE.out.ge⟩⟩
        rw [hw9]
        clear h1 h2 h3 hu' hown hq5 hw9 x0 x1 x2 x3 x4 f0 f1 f2 f3 f4
        refine BB (by kernel_rfl) ?_
        go_wp2
        go_roundw
        case rel => exact ⟨k + 1,by omega,by go_num,⟨by rw [HTK.out];exact HE9.out⟩⟩
        case measure => simp [intOf];omega
      · have hke : vs.take k = vs:=List.take_of_length_le (by omega)
        have HT:=As (show runE newE (vs.take k) = runE newE vs by rw [hke])
        have HBr:=As HE.out.bel
        obtain ⟨X,hX⟩ : ∃ X,runE newE (vs.take k) = X:=⟨_,rfl⟩
        rw [hX] at HO x0 x1 x2 x3 x4 HT
        have hp:=HP.out.up HE.out.bel
        have HP2:=As hp
        have y0:=hp.c0
        have y1:=hp.c1
        have y2:=hp.c2
        have y3:=hp.c3
        have y4:=hp.c4
        have f0:=hp.frz 0
        have f1:=hp.frz 1
        have f2:=hp.frz 2
        have f3:=hp.frz 3
        have f4:=hp.frz 4
        clear hq ho hrd hcl hX hp hke
        go_wp2
        have hy:=HP2.out.Az X (.slice Ed' X.disk.length m1) (.slice Em' X.mem.length m2) (.slice El' X.log.length m3)
        have h1:=HO.out.Az (f:=X) (xd:=.slice Ed' X.disk.length m1) (xm:=.slice Em' X.mem.length m2) (xl:=.slice El' X.log.length m3) HP2.out
        have h2:=Ak (g:=w.heap.size) (bj HB.out HBr.out) (Nat.le_refl _) X (.slice Ed' X.disk.length m1) (.slice Em' X.mem.length m2) (.slice El' X.log.length m3)
        have hs:=HB.out.size
        have z0:=hy.c0
        have z1:=hy.c1
        have z2:=hy.c2
        have z3:=hy.c3
        have z4:=hy.c4
        exact bodyPost_ret (v:=.tuple #[X.ag (.slice Ed' X.disk.length m1) (.slice Em' X.mem.length m2) (.slice El' X.log.length m3), .bool true]) (by simp [results,Tryz.results9,go_sem,z0,z1,z2,z3,z4]) rfl (by rw [← HT.out];exact ⟨_,_,_,rfl,h1.lower hs,h2⟩)
section
variable {w w2 wr w1 : World} {gO cap g : Nat} {vd vm vl xd xm xl : Value} {e f : Eng} {ps qs : List Page}
theorem base_of (w : World) {n : Nat} (hn : n ≤ w.heap.size) : ∃ w0 : World,w0.heap.size = n ∧ Below n w0 w:=by
  refine ⟨{ w with heap:=w.heap.extract 0 n },by simp;omega,rfl,rfl,rfl,by simp;omega,fun k hk => ?_⟩
  show w.heap[k]? = (w.heap.extract 0 n)[k]?
  rw [Array.getElem?_extract,if_pos (by omega),Nat.zero_add]
end
end Go.Proofs.YtpjmlpmhgfghbaaGreat
namespace Go.Proofs.YtpjmlpmhgfghbaaGreat
open Go.RowKit Go.Proofs.YtpjmlpmhgfghbaaGreatW.PrintWords Go.Proofs.YtpjmlpmhgfghbaaGreatW.PrintLast Go.Proofs.YtpjmlpmhgfghbaaGreatW.PrintMore
section
variable {ops : Array Oper} {rest : List Oper} {o : Oper} {a : Act} {Q : Exit → Act → World → Prop}
theorem NK {W : World} {base N : Nat} {v u : Value} {ps : List Evt} {p : Evt} (hgd : o.guard = none) (s x : Operand)
    (ho : o.op = .call { callee:=.builtin .append,args:=#[s,x],argTypes:=#[23,23] }) (hs : a.eval s = v) (hx : a.eval x = .slice (some ⟨W.heap.size,0,none⟩) 1 1)
    (hp : AR W N u p.vals) (HO : Tm W base (fun k => base ≤ k ∧ k < N) v ps) (hbase : base ≤ W.heap.size) (hl : ps.length + 1 ≤ 1000) (hN : base ≤ N)
    (h : ∀ v1 w1,Hz w1 base v1 (ps ++ [p]) → Below base W w1 → W.grownBy w1 v.ownBlock → wpList Tryz.prog ops Q rest (a.put o.dst v1) w1) :
    wpList Tryz.prog ops Q (o :: rest) a (W.alloc (.cells #[.int .i64 p.kind, .int .i64 p.tx, .int .i64 p.page, .int .i64 p.slot, .int .i64 p.n,u] 35)):=by
  have hv:=Uc HO
  refine Kd.QY kEvt base hgd s x 23 35 _ 64 ho Ra UK rfl (by decide) (by decide) v ps p [.int .i64 p.kind, .int .i64 p.tx, .int .i64 p.page, .int .i64 p.slot, .int .i64 p.n,u] (fun _ => True) (fun k => some k = u.ownBlock) hs hx ?_ (fun k hk => ⟨trivial,fun e => ?_⟩) (fun _ _ => trivial) (Kd.Dh HO (fun k hk => ⟨trivial,fun e => ?_⟩)) (Below.refl _ W) hbase (by omega) (fun v1 w1 h1 h2 h3 _ => h v1 w1 h1 h2 h3)
  · exact UH W _ _ p (Kd.Ez (DY hp hN) (fun k hk => hk.symm))
  · have h1:=Cc hp k hk.symm
    have h2:=(hv k e.symm).2
    omega
  · have h1:=Cc hp k e.symm
    have h2:=hk.2
    omega
end
section
variable {w w1 : World} {b : Nat} {u vd vm vl V : Value} {e : Eng} {vs : List Evt} {xs : List Int} {S : Nat → Prop}
theorem AR.Jf (h : AR w b u xs) (hk : Ba w w1) : AR w1 b u xs:=by
  have h1 : RI w b (fun k => some k = u.ownBlock) u xs:=Kd.Ez h (fun k hk => hk.symm)
  have h2 : RI w1 b (fun k => some k = u.ownBlock) u xs:=Kd.KN (S:=fun k => ¬ ∃ c,w.heap[k]? = some (.cells c 3 (0,0))) h1 ⟨hk.1,fun k _ hn => by
    obtain ⟨c,hc⟩:=Classical.not_not.1 hn
    exact (hk.2 k c _ (by decide) hc).trans hc.symm⟩ (fun k ho hn => hn (Df h k ho.symm))
  exact Kd.Ih h2
theorem TY : ∀ q ∈ (35 :: kEvt.E),q ≠ 81:=by decide
theorem Ro : ∀ q ∈ (81 :: Dw.E),q ≠ 35:=by decide
theorem Hz.Jf (h : Hz w b V vs) (hk : Ba w w1) : Hz w1 b V vs:=by
  refine Kd.Dh (Kd.J7 (S:=fun k => ¬ ∃ c t,t ≠ 81 ∧ w.heap[k]? = some (.cells c t (0,0))) (Kd.Dy h) ⟨hk.1,fun k _ hn => ?_⟩ (fun k ho hn => hn ?_)) (fun _ _ => trivial)
  · obtain ⟨c,t,ht,hc⟩:=Classical.not_not.1 hn
    exact (hk.2 k c t ht hc).trans hc.symm
  · obtain ⟨-, -, -,q,hq,c,hc⟩:=ho
    exact ⟨c,q,TY q hq,hc⟩
theorem Js {k : Nat} {c d : Array Value} {q t : TypeId} (h : w.heap[k]? = some (.cells c q (0,0))) (h2 : w.heap[k]? = some (.cells d t (0,0))) : q = t:=by
  rw [h] at h2
  injection h2 with h2
  injection h2 with _ h3
theorem AU.WX (h : AU w b vd vm vl e) (hk : Kept w w1 S) (hS : ∀ k,S k → ∃ d,w.heap[k]? = some (.cells d 35 (0,0))) : AU w1 b vd vm vl e:=by
  obtain ⟨⟨okd,okm,h1,h2,h3⟩,h4⟩:=h
  have key : ∀ k,(∃ q,q ∈ 81 :: Dw.E ∧ ∃ cells,w.heap[k]? = some (.cells cells q (0,0))) → ¬ S k:=by
    rintro k ⟨q,hq,c,hc⟩ hs
    obtain ⟨d,hd⟩:=hS k hs
    exact Ro q hq (Js hc hd)
  refine ⟨⟨okd,okm,h1,Kd.Dh (Kd.J7 (Kd.Dy h2) hk (fun k ho => key k ho.2.2.2)) (fun _ h => h.1),Kd.Dh (Kd.J7 (Kd.Dy h3) hk (fun k ho => key k ho.2.2.2)) (fun _ h => h.1)⟩,Kd.Ej (Kd.KN (Kd.Nb rfl h4) hk (fun k ho hs => ?_)) (fun _ _ => trivial)⟩
  obtain ⟨inner,ho2⟩:=Kd.Ko h4
  obtain ⟨c,hc⟩:=Df ho2 k ho.symm
  obtain ⟨d,hd⟩:=hS k hs
  exact absurd (Js hc hd) (by decide)
end
theorem eg_types : ∀ q ∈ (35 :: kEvt.E),q ≠ 28:=by decide
theorem Hz.Fe {w : World} {b g : Nat} {V ud um ul : Value} {vs : List Evt} {q : Eng} (h : Hz w b V vs) (hq : Ai w g q ud um ul) (f : Eng) (xd xm xl : Value) : Hz (Go.Proofs.YtpjmlpmhgfghbaaGreat.Az w g f xd xm xl) b V vs:=
  Kd.Dh (Kd.J7 (Kd.Dy h) ((((((Kept.refl w (fun k => k = g)).setCell (p:=⟨g,0,none⟩) (.inl rfl) _).setCell (p:=⟨g,1,none⟩) (.inl rfl) _).setCell (p:=⟨g,2,none⟩) (.inl rfl) _).setCell (p:=⟨g,3,none⟩) (.inl rfl) _).setCell (p:=⟨g,4,none⟩) (.inl rfl) _) (fun k ho e => by
    obtain ⟨-, -, -,q,hq2,c,hc⟩:=ho
    subst e
    exact eg_types q hq2 (Js hc hq.blk))) (fun _ _ => trivial)
theorem AR.WY {w w1 : World} {b : Nat} {u : Value} {xs : List Int} {row : Option Nat} (h : AR w b u xs) (hg : w.grownBy w1 row) (hne : ∀ k,u.ownBlock = some k → row ≠ some k) : AR w1 b u xs:=by
  have h1 : RI w b (fun k => some k = u.ownBlock) u xs:=Kd.Ez h (fun k hk => hk.symm)
  have h2 : RI w1 b (fun k => some k = u.ownBlock) u xs:=Kd.KN h1 (Kept.GJ hg (Kept.refl w (fun k => row = some k)) (fun k e => .inl e)) (fun k ho hs => hne k ho.symm hs)
  exact Kd.Ih h2
structure Pl (wB w wr : World) (g gE : Nat) (A : Option Addr) (n c : Nat) (p : Int) (vd vm vl : Value) (e : Eng) (V : Value) (vs : List Evt) : Prop where
  rd : ∃ q,0 ≤ q ∧ q ≤ p ∧ CR wr g A n c q
  box : Ai wr gE e vd vm vl
  own : AU wr w.heap.size vd vm vl e
  evs : Hz wr w.heap.size V vs
  wro : Wrote w wr (fun j => j = g)
  bel : Below wB.heap.size wB wr
  ge : w.heap.size < gE
  bz : Ai wr w.heap.size zE (.slice none 0 0) (.slice none 0 0) (.slice none 0 0)
  hgw : g < w.heap.size
  hBg : wB.heap.size ≤ g
section
variable {wB w wr w1 : World} {g gE n c : Nat} {A : Option Addr} {p p' : Int} {e f : Eng} {vd vm vl xd xm xl V V1 : Value} {vs vs1 : List Evt}
theorem Pl.below (h : Pl wB w wr g gE A n c p vd vm vl e V vs) (hb : Below wr.heap.size wr w1) : Pl wB w w1 g gE A n c p vd vm vl e V vs:=by
  obtain ⟨q,h0,h1,hq⟩:=h.rd
  exact ⟨⟨q,h0,h1,hq.up hb⟩,h.box.up hb,h.own.below hb,Kd.Bu h.evs hb,h.wro.CG (Wrote.of_below hb (fun j => j = g)) (fun _ h => .inl h),bj h.bel hb,h.ge,h.bz.up hb,h.hgw,h.hBg⟩
theorem Pl.drawn (h : Pl wB w wr g gE A n c p vd vm vl e V vs) (hr : ∃ q,0 ≤ q ∧ q ≤ p' ∧ CR w1 g A n c q) (hw : Wrote wr w1 (fun j => j = g)) : Pl wB w w1 g gE A n c p' vd vm vl e V vs:=by
  have hgw:=h.hgw
  have hge:=h.ge
  exact ⟨hr,(hw.kept.2 _ h.box.lt (by omega)).trans h.box,(h.own.toK.kept hw.kept (fun k hk e => by omega)).E,Kd.Dh (Kd.J7 (Kd.Dy h.evs) hw.kept (fun k hk e => by have:=hk.2.1;omega)) (fun _ _ => trivial),h.wro.CG hw (fun _ h => .inl h),h.bel.trans (hw.bel (fun k hk => by have:=h.hBg;omega) h.bel.size),h.ge,(hw.kept.2 _ h.bz.lt (by omega)).trans h.bz,h.hgw,h.hBg⟩
theorem Pl.old (h : Pl wB w wr g gE A n c p vd vm vl e V vs) (hw : Wrote wr w1 (fun j => j = g)) : Tm w1 w.heap.size (fun k => w.heap.size ≤ k ∧ k < wr.heap.size) V vs:=
  Kd.Dh (Kd.J7 (Kd.Dy h.evs) hw.kept (fun k hk e => by have:=hk.2.1;have:=h.hgw;omega)) (fun k hk => ⟨hk.2.1,hk.2.2.1⟩)
theorem Pl.added (h : Pl wB w wr g gE A n c p vd vm vl e V vs) (hV : Hz w1 w.heap.size V1 vs1) (hb : Below w.heap.size wr w1) (hg : wr.grownBy w1 V.ownBlock) : Pl wB w w1 g gE A n c p vd vm vl e V1 vs1:=by
  obtain ⟨q,h0,h1,hq⟩:=h.rd
  have hk : Kept wr w1 (fun k => V.ownBlock = some k):=Kept.GJ hg (Kept.refl _ _) (fun k e => .inl e)
  have hge:=h.ge
  have hgw:=h.hgw
  have ht:=Kd.EU h.evs
  refine ⟨⟨q,h0,h1,(hb.block g hgw).trans hq⟩,(hk.2 gE h.box.lt (fun e => ?_)).trans h.box,h.own.WX hk ht,hV,⟨hb.os.trans h.wro.os,hb.tape.trans h.wro.tape,hb.output.trans h.wro.output,Nat.le_trans h.wro.kept.1 hb.size,fun k hk1 hn => (hb.block k hk1).trans (h.wro.kept.2 k hk1 hn)⟩,h.bel.trans (hb.mono (by have:=h.hBg;omega)),h.ge,(hk.2 _ h.bz.lt (fun e => ?_)).trans h.bz,h.hgw,h.hBg⟩
  · obtain ⟨d,hd⟩:=ht gE e
    exact absurd (Js h.box.blk hd) (by decide)
  · obtain ⟨d,hd⟩:=ht _ e
    exact absurd (Js h.bz.blk hd) (by decide)
theorem Pl.Wl {u1 u2 u3 : Value} (h : Pl wB w wr g gE A n c p vd vm vl e V vs) (ho : AU w1 w.heap.size u1 u2 u3 f) (hb : Below w.heap.size wr w1) (hk : Ba wr w1) : Pl wB w (Go.Proofs.YtpjmlpmhgfghbaaGreat.Az w1 gE f u1 u2 u3) g gE A n c p u1 u2 u3 f V vs:=by
  obtain ⟨q,h0,h1,hq⟩:=h.rd
  have hge : w.heap.size ≤ gE:=Nat.le_of_lt h.ge
  have hne : gE ≠ w.heap.size:=Nat.ne_of_gt h.ge
  have hgw:=h.hgw
  have hbx : Ai w1 gE e vd vm vl:=h.box.Jf hk
  have hb5 : Below w.heap.size wr (Go.Proofs.YtpjmlpmhgfghbaaGreat.Az w1 gE f u1 u2 u3):=((((hb.setCell (p:=⟨gE,0,none⟩) hge _).setCell (p:=⟨gE,1,none⟩) hge _).setCell (p:=⟨gE,2,none⟩) hge _).setCell (p:=⟨gE,3,none⟩) hge _).setCell (p:=⟨gE,4,none⟩) hge _
  refine ⟨⟨q,h0,h1,(hb5.block g hgw).trans hq⟩,hbx.Az f u1 u2 u3,ho.Az (f:=f) hbx,?_,⟨hb5.os.trans h.wro.os,hb5.tape.trans h.wro.tape,hb5.output.trans h.wro.output,Nat.le_trans h.wro.kept.1 hb5.size,fun k hk1 hn => (hb5.block k hk1).trans (h.wro.kept.2 k hk1 hn)⟩,h.bel.trans (hb5.mono (by have:=h.hBg;omega)),h.ge,(((((h.bz.Jf hk).far hne _ _).far hne _ _).far hne _ _).far hne _ _).far hne _ _,h.hgw,h.hBg⟩
  exact (h.evs.Jf hk).Fe hbx f u1 u2 u3
theorem AR.C2 {b m d : Nat} {B : Option Addr} {xs : List Int} (h : AR wr b (.slice B m d) xs) : Kd.C (Kd.int .i64) wr B xs.length xs:=by
  obtain ⟨A2,c2,h1, -,h2⟩:=h.reads
  injection h1 with h1
  subst h1
  exact h2
theorem Pl.l22 {b c2 : Nat} {A2 : Option Addr} (v : Evt) (hi : ∃ C,Inv e C (3 * 40)) (h : Pl wB w wr g gE A n c p vd vm vl e V vs) (hu : AR wr b (.slice A2 v.vals.length c2) v.vals) : Calls Tryz.prog 33 #[e.ag vd vm vl,v.val A2 c2] wr fun x w1 => ∃ u1 u2 u3,x = .returned ((BN e v).ag u1 u2 u3) ∧ AU w1 w.heap.size u1 u2 u3 (BN e v) ∧ Below w.heap.size wr w1 ∧ Ba wr w1:=by
  obtain ⟨C,hi⟩:=hi
  obtain ⟨w0,hz,hb0⟩:=base_of wr (n:=w.heap.size) h.wro.kept.1
  refine (MH (w0:=w0) (c:=c2) v hi (by omega) (by rw [hz];exact hb0) (by rw [hz];exact h.own) (fun wx _ hk => (hu.Jf hk).C2)).mono ?_
  rintro x w1 ⟨u1,u2,u3,rfl,ho,hb,hk⟩
  rw [hz] at ho hb
  exact ⟨u1,u2,u3,rfl,ho,⟨hb.os.trans hb0.os.symm,hb.tape.trans hb0.tape.symm,hb.output.trans hb0.output.symm,hk.1,fun k hk1 => (hb.block k hk1).trans (hb0.block k hk1).symm⟩,hk⟩
end
theorem inv_all (vs : List Evt) (h : vs.length ≤ 40) : ∃ C,Inv (runE newE vs) C (3 * 40):=by
  have:=Pm vs vs.length h
  rwa [List.take_length] at this
theorem Vh {P : Program} {ops : Array Oper} {l : List Oper} {Q : Exit → Act → World → Prop} {a : Act} {W : World} (h : ∀ w1,Below W.heap.size W w1 → w1.heap.size = W.heap.size + 1 → (∀ base,base ≤ W.heap.size → Hz w1 base (.slice (some ⟨W.heap.size,0,none⟩) 0 0) []) → wpList P ops Q l a w1) : wpList P ops Q l a (W.alloc (.cells #[] 35)):=
  h _ (Ah (Below.refl _ _) _) (BA _ _) (fun base hb => ⟨fun _ => 0,fun _ _ => trivial, [],own_none' _ 6 rfl hb,Reps.none _ _⟩)
end Go.Proofs.YtpjmlpmhgfghbaaGreat
namespace Go.Proofs.YtpjmlpmhgfghbaaGreat
open Go.RowKit Go.Proofs.YtpjmlpmhgfghbaaGreatW.PrintWords Go.Proofs.YtpjmlpmhgfghbaaGreatW.PrintLast Go.Proofs.YtpjmlpmhgfghbaaGreatW.PrintMore
def VD (w : World) (g : Nat) (A : Option Addr) (n c : Nat) (p : Int) (x : Ending) (w' : World) : Prop := ∃ (V : Value) (vs : List Evt) (E : Eng) (B1 B2 B3 : Option Addr) (d1 d2 d3 : Nat),x = .returned (.tuple #[V,E.val B1 B2 B3 d1 d2 d3]) ∧ Hz w' w.heap.size V vs ∧ vs.length ≤ 36 ∧ (∃ q,0 ≤ q ∧ q ≤ p + 1000 ∧ CR w' g A n c q) ∧ Wrote w w' (fun j => j = g)
theorem TD (vs : List Evt) (v : Evt) : runE newE (vs ++ [v]) = BN (runE newE vs) v:=Ic vs newE v
set_option maxRecDepth 100000 in
set_option maxHeartbeats 16000000 in
theorem O4 {wB w : World} {g c : Nat} {A : Option Addr} {xs : List Int} {p : Int} (hp0 : 0 ≤ p) (hp1 : p ≤ 100000) (hn : xs.length ≤ 2000) (hx : Bytes xs) (hb : Below wB.heap.size wB w) (hg : wB.heap.size ≤ g) (hr : Kd.C (Kd.int .u8) wB A xs.length xs) (hq : CR w g A xs.length c p) : Calls Tryz.prog 29 #[.pointer (some ⟨g,0,none⟩)] w (VD w g A xs.length c p):=by
  have HP:=As (And.intro hp0 hp1)
  have HN:=As hn
  have HXS:=As hx
  have HR:=As hr
  have HQ:=As hq
  have HB:=As hb
  have HG:=As hg
  have HONE : True:=trivial
  clear hp0 hp1 hn hx hb hg hr hq
  go_enter Tryz.func29,Tryz.ntmps29
  go_wp2_with (first
    | (refine Aw (vd:=.slice none 0 0) (vm:=.slice none 0 0) (vl:=.slice none 0 0) zE ?_;clear HONE;intro w1 hb1 hz1 hq1;have HZ1:=As hz1;have HB1:=As hb1;have HP1:=As hq1;clear hb1 hz1 hq1)
    | (go_at_call 32;refine (Ga w1).mono ?_;rintro x w2 ⟨vd,vm,vl,rfl,ho,hb2⟩;obtain ⟨Ed,n1,Em,n2,El,n3,rfl,rfl,rfl, -, -⟩:=ho.reads;have HO:=As ho;have HB2:=As hb2;clear hb2 ho)
    | (refine Aw (vd:=.slice Ed newE.disk.length n1) (vm:=.slice Em newE.mem.length n2) (vl:=.slice El newE.log.length n3) newE ?_;intro w3 hb3 hz3 hq3;clear hz3;have HO3:=As (HO.out.below hb3);have HB3:=As (bj HB2.out hb3);have HQ3:=As hq3;clear hb3 hq3)
    | (with_reducible refine Vh ?_;intro w4 hb4 hz4 hv4;have HB4:=As hb4;have HV4:=As (hv4 w.heap.size (by have h1:=HB1.out.size;have h2:=HB3.out.size;omega));clear hb4 hz4 hv4)
    | (go_at_call 30;refine (IJ (wB:=wB) HP.out.1 (by have:=HP.out;omega) (by decide) (by decide) HN.out HXS.out (bj HB.out (bj HB1.out (bj HB3.out HB4.out))) HG.out HR.out (HQ.out.up (bj HB1.out (bj HB3.out HB4.out)))).mono ?_;rintro x w5 ⟨N,rfl,hk,hrd,hw⟩;obtain ⟨hN0,hN1⟩:=hk (by decide);clear hk;obtain ⟨N,rfl⟩:=Int.eq_ofNat_of_zero_le hN0;have h14:=bj HB3.out HB4.out;have hgw:=HQ.out.lt;have hz1:=HZ1.out;have hsz:=HB2.out.size;have hP4 : Pl wB w w4 g w2.heap.size A xs.length c p (.slice Ed newE.disk.length n1) (.slice Em newE.mem.length n2) (.slice El newE.log.length n3) newE (.slice (some ⟨w3.heap.size,0,none⟩) 0 0) []:=⟨⟨p,HP.out.1,Int.le_refl _,HQ.out.up (bj HB1.out h14)⟩,HQ3.out.up HB4.out,(HO3.out.below HB4.out).lower (by omega),HV4.out,Wrote.of_below (bj HB1.out h14) _,bj HB.out (bj HB1.out h14),by omega,HP1.out.up h14,hgw,HG.out⟩;have HPL:=As (hP4.drawn (p':=p + 1) ⟨_,by have:=HP.out;omega,Int.le_refl _,hrd⟩ hw);clear hrd hw h14 hgw hz1 hsz hP4))
  go_loopw [5,6] (fun x i wr => ∃ (k : Nat) (vs : List Evt) (V vd vm vl : Value),V = x ∧ k ≤ N ∧ i = .int .i64 ((N : Int) - k) ∧ vs.length = k ∧ Ac (Pl wB w wr g w2.heap.size A xs.length c (p + 1 + 12 * k) vd vm vl (runE newE vs) V vs)) (fun _ i _ => (intOf i).toNat)
  case atStart => exact ⟨0, [],_,_,_,_,rfl,Nat.zero_le _,by simp,rfl,⟨by rw [show p + 1 + 12 * ((0 : Nat) : Int) = p + 1 by simp];exact HPL.out⟩⟩
  case round =>
    obtain ⟨k,vs,V,vd,vm,vl,rfl,hk,rfl,hlen,HPK⟩:=hrel
    have HLEN:=As hlen
    obtain ⟨C0,hI⟩:=inv_all vs (by omega)
    have HI:=As hI
    obtain ⟨Ed',m1,Em',m2,El',m3,rfl,rfl,rfl,hcl,hrdE⟩:=HPK.out.own.reads
    have HRDE:=As hrdE
    obtain ⟨X,hX⟩ : ∃ X,runE newE vs = X:=⟨_,rfl⟩
    rw [hX] at HPK HI HRDE
    have HX:=As hX
    clear hlen hcl hX hI hrdE
    have x0:=HPK.out.box.c0
    have x1:=HPK.out.box.c1
    have x2:=HPK.out.box.c2
    have x3:=HPK.out.box.c3
    have x4:=HPK.out.box.c4
    by_cases hlt : k < N
    · have hi0 : decide ((0 : Int) < (N : Int) - (k : Int)) = true:=by simp;omega
      go_wp2_with (first
        | (go_at_call 66;obtain ⟨q,hq0,hq1,hrd⟩:=HPK.out.rd;refine (NE (wB:=wB) hq0 (by have:=HP.out;omega) HN.out HXS.out HPK.out.bel HPK.out.hBg HR.out hrd HPK.out.own HPK.out.hgw HI.out.mlen HI.out.core.log).mono ?_;clear hrd;rintro x w5 ⟨v,u,rfl,hu,hl3,⟨q',hq2,hq3,hrd⟩,hw⟩;obtain ⟨A3,c3,rfl, -, -⟩:=hu.reads;have HU5:=As hu;have HOLD:=As (HPK.out.old hw);have HN5:=As hw.kept.1;have HP5:=As (HPK.out.drawn (p':=p + 1 + 12 * ((k + 1 : Nat) : Int)) ⟨q',by omega,by push_cast;omega,hrd⟩ hw);clear hu hw hrd hq0 hq1 hq2 hq3 hl3 x0 x1 x2 x3 x4)
        | (with_reducible refine Er (A:=A3) (c:=c3) v ?_;intro w6 hb6 hz6 hq6;clear hz6;have HU6:=As (HU5.out.below hb6);have HO6:=As (Kd.Bu HOLD.out hb6);have HP6:=As (HP5.out.below hb6);have HV6:=As hq6;have HN6:=As hb6.size;clear hb6 hq6;have v0:=HV6.out.c0;have v1:=HV6.out.c1;have v2:=HV6.out.c2;have v3:=HV6.out.c3;have v4:=HV6.out.c4;have v5:=HV6.out.c5)
        | (at_builtin;refine NK (W:=w6) (base:=w.heap.size) (N:=wr.heap.size) rfl (.tmp 19) (.tmp 21) rfl rfl rfl HU6.out HO6.out HP6.out.wro.kept.1 (by have:=HLEN.out;omega) HPK.out.wro.kept.1 ?_;intro V1 w7 hV7 hb7 hg7;have hn : ∀ k,(Value.slice A3 v.vals.length c3).ownBlock = some k → V.ownBlock ≠ some k:=(fun m hm e => by have h1:=Cc HU6.out m hm;have h2:=(Uc HO6.out m e).2;omega);have HU7:=As (HU6.out.WY hg7 hn);have hbk : V.ownBlock ≠ some w5.heap.size:=(fun e => by have h1:=(Uc HO6.out _ e).2;have h2:=HN5.out;omega);have hv7 : EvBox w7 w5.heap.size v A3 c3:=((hg7.block _ HV6.out.lt (fun e => hbk e.symm)).trans HV6.out);have HP7:=As (HP6.out.added hV7 hb7 hg7);clear hV7 hb7 hg7 hn hbk;clear v0 v1 v2 v3 v4 v5;have v0:=hv7.c0;have v1:=hv7.c1;have v2:=hv7.c2;have v3:=hv7.c3;have v4:=hv7.c4;have v5:=hv7.c5;clear hv7;have x0:=HP7.out.box.c0;have x1:=HP7.out.box.c1;have x2:=HP7.out.box.c2;have x3:=HP7.out.box.c3;have x4:=HP7.out.box.c4)
        | (go_at_call 33;refine (HP7.out.l22 (c2:=c3) v ⟨C0,HI.out⟩ HU7.out).mono ?_;rintro x w8 ⟨u1,u2,u3,rfl,ho,hb8,hk8⟩;obtain ⟨Fd,k1,Fm,k2,Fl,k3,rfl,rfl,rfl, -, -⟩:=ho.reads;have HP8:=As (HP7.out.Wl ho hb8 hk8);have hy:=HP7.out.box.Jf hk8;clear x0 x1 x2 x3 x4 v0 v1 v2 v3 v4 v5 ho hb8 hk8;have y0:=hy.c0;have y1:=hy.c1;have y2:=hy.c2;have y3:=hy.c3;have y4:=hy.c4;have f0:=hy.frz 0;have f1:=hy.frz 1;have f2:=hy.frz 2;have f3:=hy.frz 3;have f4:=hy.frz 4;clear hy))
      go_roundw
      case rel => exact ⟨k + 1,vs ++ [v],_,_,_,_,rfl,by omega,by go_num,by simp [HLEN.out],⟨by rw [TD,HX.out];exact HP8.out⟩⟩
      case measure => simp [intOf];omega
    · have hi0 : decide ((0 : Int) < (N : Int) - (k : Int)) = false:=by simp;omega
      go_wp2_with (first | (go_at_call 42;refine (O9 (cd:=m1) (cm:=m2) (cl:=m3) (Ay (Cv.2 ⟨HI.out.core.dlen,HI.out.core.dok⟩)) (Ay HI.out.Gb) (Bg HI.out.core.log) (Below.refl _ _) HRDE.out).mono ?_;rintro x w6 ⟨ud,um,ul,rfl,ho,hb6⟩;obtain ⟨Fd,k1,Fm,k2,Fl,k3,rfl,rfl,rfl, -, -⟩:=ho.reads;have HP6:=As (HPK.out.below hb6);clear ho hb6 x0 x1 x2 x3 x4;have hy:=HP6.out.bz;have y0:=hy.c0;have y1:=hy.c1;have y2:=hy.c2;have y3:=hy.c3;have y4:=hy.c4;have f0:=hy.frz 0;have f1:=hy.frz 1;have f2:=hy.frz 2;have f3:=hy.frz 3;have f4:=hy.frz 4;clear hy))
      have hy:=HP6.out.bz.Az X (.slice Fd X.disk.length k1) (.slice Fm X.mem.length k2) (.slice Fl X.log.length k3)
      have z0:=hy.c0
      have z1:=hy.c1
      have z2:=hy.c2
      have z3:=hy.c3
      have z4:=hy.c4
      obtain ⟨q,hq0,hq1,hrd⟩:=HP6.out.rd
      have hgw:=HP6.out.hgw
      exact bodyPost_ret (v:=.tuple #[V,X.ag (.slice Fd X.disk.length k1) (.slice Fm X.mem.length k2) (.slice Fl X.log.length k3)]) (by simp [results,Tryz.results29,go_sem,z0,z1,z2,z3,z4]) rfl ⟨V,vs,X,_,_,_,_,_,_,rfl,HP6.out.evs.Fe HP6.out.bz X _ _ _,by have:=HLEN.out;omega,⟨q,hq0,by omega,((((hrd.far (by omega) _ _).far (by omega) _ _).far (by omega) _ _).far (by omega) _ _).far (by omega) _ _⟩,((((HP6.out.wro.setCell (.inr (Nat.le_refl _)) _).setCell (.inr (Nat.le_refl _)) _).setCell (.inr (Nat.le_refl _)) _).setCell (.inr (Nat.le_refl _)) _).setCell (.inr (Nat.le_refl _)) _⟩
theorem Bytes.take {xs : List Int} (h : Bytes xs) (n : Nat) : Bytes (xs.take n):=fun x hx => h x (List.mem_of_mem_take hx)
theorem CR.mk1 (w : World) (A : Option Addr) (n c : Nat) (p : Int) : CR (w.alloc (.cells #[.slice A n c, .int .i64 p] 91)) w.heap.size A n c p:=by
  show (w.heap.push _)[w.heap.size]? = _
  simp
def VF (w : World) (A : Option Addr) (xs : List Int) (x : Ending) (w' : World) : Prop := ∃ (g m d : Nat),x = .returned (.pointer (some ⟨g,0,none⟩)) ∧ w.heap.size ≤ g ∧ (xs.take m).length ≤ 2000 ∧ m ≤ xs.length ∧ CR w' g A (xs.take m).length d 0 ∧ Below w.heap.size w w'
set_option maxRecDepth 100000 in
set_option maxHeartbeats 4000000 in
theorem Pb {w : World} {A : Option Addr} {c : Nat} {xs : List Int} (hcap : xs.length ≤ c) (hm : xs.length ≤ 9223372036854775807) : Calls Tryz.prog 28 #[.slice A xs.length c] w (VF w A xs):=by
  by_cases hl : 2000 < xs.length
  · have h1 : decide ((2000 : Int) < (xs.length : Int)) = true:=by simp;omega
    have h2 : (2000 : Int) ≤ (c : Int):=by omega
    go_enter Tryz.func28,Tryz.ntmps28
    go_wp2
    go_ret
    exact ⟨w.heap.size,2000,c,rfl,Nat.le_refl _,by rw [List.length_take];omega,by omega,by rw [show (xs.take 2000).length = 2000 by rw [List.length_take];omega];exact CR.mk1 _ _ _ _ _,Ah (Below.refl _ _) _⟩
  · have h1 : decide ((2000 : Int) < (xs.length : Int)) = false:=by simp;omega
    go_enter Tryz.func28,Tryz.ntmps28
    go_wp2
    go_ret
    exact ⟨w.heap.size,xs.length,c,rfl,Nat.le_refl _,by rw [List.length_take];omega,Nat.le_refl _,by rw [List.take_length];exact CR.mk1 _ _ _ _ _,Ah (Below.refl _ _) _⟩
def WW : Value → Nat
  | .slice _ n _ => n
  | _ => 0
def VG (w : World) (x : Ending) (w' : World) : Prop := ∃ (V : Value) (vs : List Evt),x = .returned V ∧ Hz w' w.heap.size V vs ∧ vs.length ≤ 41 ∧ Below w.heap.size w w'
set_option maxRecDepth 100000 in
set_option maxHeartbeats 8000000 in
theorem LJ {w0 w : World} {A : Option Addr} {c : Nat} {xs : List Int} (hcap : xs.length ≤ c) (hx : Bytes xs) (hb : Below w0.heap.size w0 w) (hr : Kd.C (Kd.int .u8) w0 A xs.length xs) : Calls Tryz.prog 7 #[.slice A xs.length c] w (VG w):=by
  have HR:=As (BM hr hb)
  have HX:=As hx
  have HC:=As hcap
  have hmx:=(D5 hr).2
  clear hr hb hx hcap
  go_enter Tryz.func7,Tryz.ntmps7
  go_wp2_with (first
    | (go_at_call 28;refine (Pb HC.out hmx).mono ?_;rintro x w1 ⟨g,m,d,rfl,hg,hm2,hm,hq,hb1⟩;obtain ⟨ys,hys⟩ : ∃ ys,xs.take m = ys:=⟨_,rfl⟩;have hry:=Kd.Sc HR.out hm;have hxy:=HX.out.take m;rw [hys] at hm2 hq hry hxy;have HRY:=As hry;have HXY:=As hxy;have HM:=As hm2;have HQ:=As hq;have HB1:=As hb1;have HG:=As hg;clear hm2 hq hry hxy hys hb1 hg hm)
    | (go_at_call 29;refine (O4 (wB:=w) (p:=0) (Int.le_refl _) (by decide) HM.out HXY.out HB1.out HG.out HRY.out HQ.out).mono ?_;rintro x w2 ⟨V,vs,E,G1,G2,G3,e1,e2,e3,rfl,hV,hlen,⟨q,hq0,hq1,hrd⟩,hw⟩;have HV:=As hV;have HLEN:=As hlen;have HRD:=As (And.intro hq0 (And.intro hq1 hrd));have HB2:=As (HB1.out.trans (hw.bel (fun k hk => by have hk : k = g:=hk;have:=HG.out;omega) HB1.out.size));clear hV hlen hrd hq0 hq1 hw))
  obtain ⟨W3,hW3⟩ : ∃ W3,w2.alloc (Obj.cells #[.slice G1 E.disk.length e1, .slice G2 E.mem.length e2, .slice G3 E.log.length e3, .int .i64 E.safe, .bool E.down] 28) = W3:=⟨_,rfl⟩
  have hb3 : Below w2.heap.size w2 W3:=by rw [← hW3];exact Ah (Below.refl _ _) _
  rw [hW3]
  have HZ3:=As (show Hz W3 w1.heap.size V vs from Kd.Bu HV.out hb3)
  have HRD3:=As (HRD.out.2.2.up hb3)
  have HB3:=As (bj HB2.out hb3)
  clear hb3 hW3
  go_at_call 30
  refine (IJ (wB:=w) HRD.out.1 (by have:=HRD.out.2.1;omega) (by decide) (by decide) HM.out HXY.out HB3.out HG.out HRY.out HRD3.out).mono ?_
  rintro x w4 ⟨k,rfl,hk,hrd,hw⟩
  have HV4:=As (Kd.E8 (Kd.Dh (ok':=fun _ => True) (Kd.J7 (Kd.Dy HZ3.out) hw.kept (fun j hj e => by have e : j = g:=e;have:=hj.2.1;have:=HQ.out.lt;omega)) (fun _ _ => trivial)) HB1.out.size)
  have HB4:=As (HB3.out.trans (hw.bel (fun k hk => by have hk : k = g:=hk;have:=HG.out;omega) HB3.out.size))
  clear hk hrd hw
  rcases BS k 0 with ⟨e9,b9,c9⟩ | ⟨e9,b9,c9⟩
  · go_wp2
    go_loopw [4] (fun x wr => ∃ (vs : List Evt) (V : Value),V = x ∧ vs.length ≤ 41 ∧ Ac (Hz wr w.heap.size V vs) ∧ Ac (Below w.heap.size w wr)) (fun x _ => 41 - WW x)
    case atStart => exact ⟨vs,V,rfl,by have:=HLEN.out;omega,HV4,HB4⟩
    case round =>
      obtain ⟨vs,V,rfl,hl,HVV,HW⟩:=hrel
      obtain ⟨A1,c1,rfl, -, -⟩:=Kd.CJ HVV.out
      by_cases hlt : vs.length ≤ 40
      · have hlc : decide ((vs.length : Int) ≤ 40) = true:=by simp;omega
        have HL:=As hlt
        go_wp2_with (first
          | (at_builtin;refine NK (p:=⟨7,0,0,0,0, []⟩) (W:=wr) (base:=w.heap.size) (N:=wr.heap.size) rfl (.tmp 19) (.tmp 21) rfl rfl rfl (AR.nil _ _) (Kd.Dh (Kd.Dy HVV.out) (fun k hk => ⟨hk.2.1,hk.2.2.1⟩)) HW.out.size (by have:=HL.out;omega) HW.out.size ?_;intro V1 w7 hV7 hb7 hg7;obtain ⟨A7,c7,rfl, -, -⟩:=Kd.CJ hV7;have HV7:=As hV7;have HB7:=As (HW.out.trans hb7);clear hV7 hb7 hg7))
        go_roundw
        case rel => exact ⟨vs ++ [⟨7,0,0,0,0, []⟩],_,rfl,by (have:=HL.out;simp;omega),⟨by have h:=HV7.out;rw [List.length_append,List.length_singleton] at h;exact h⟩,HB7⟩
        case measure => simp [WW];omega
      · have hlc : decide ((vs.length : Int) ≤ 40) = false:=by simp;omega
        go_wp2
        go_ret
        exact ⟨_,vs,rfl,HVV.out,hl,HW.out⟩
  · go_wp2
    go_ret
    exact ⟨V,vs,rfl,HV4.out,by have:=HLEN.out;omega,HB4.out⟩
theorem Uj {vs : List Evt} {E : Eng} (h : LZ vs = (E,true)) : vs.length ≤ 40 ∧ E = runE newE vs:=by
  unfold LZ at h
  split at h
  · injection h with _ h
    cases h
  · injection h with h _
    exact ⟨by omega,h.symm⟩
theorem Wi {vs : List Evt} (h : vs.length ≤ 40) (m : Nat) : LZ (vs.take m) = (runE newE (vs.take m),true):=by
  unfold LZ
  rw [if_neg (by rw [List.length_take];omega)]
set_option maxRecDepth 100000 in
set_option maxHeartbeats 16000000 in
theorem NV {w : World} {A : Option Addr} {c : Nat} {xs : List Int} {B : Option Addr} {d : Nat} {ys : List Int} (hcap : xs.length ≤ c) (hx : Bytes xs) (hr : Kd.C (Kd.int .u8) w A xs.length xs) (hy : ys.length ≤ 9223372036854775807) : Calls Tryz.prog 3 #[.slice A xs.length c, .slice B ys.length d] w (OI w):=by
  have HR:=As hr
  have HCAP:=As hcap
  have HBY:=As hx
  have hmx:=(D5 hr).2
  have H2 : True:=trivial
  have H3 : True:=trivial
  have H5 : True:=trivial
  clear hcap hx hr
  rcases lts 1048576 (xs.length : Int) with ⟨e1,b1,c1⟩ | ⟨e1,b1,c1⟩
  · go_enter Tryz.func3,Tryz.ntmps3
    go_wp2
    go_ret
    exact ⟨rfl,Below.refl _ _⟩
  rcases lts 1048576 (ys.length : Int) with ⟨e2,b2,c2⟩ | ⟨e2,b2,c2⟩
  · go_enter Tryz.func3,Tryz.ntmps3
    go_wp2
    go_ret
    exact ⟨rfl,Below.refl _ _⟩
  go_enter Tryz.func3,Tryz.ntmps3
  go_wp2_with (go_at_call 7;refine (LJ HCAP.out HBY.out (Below.refl w.heap.size w) HR.out).mono ?_;rintro x w1 ⟨V,vs,rfl,hV,hlen,hb1⟩;obtain ⟨V1,v1_,rfl,hcv,hc⟩:=Kd.CJ hV;have HVC:=As hc;have HCV:=As hcv;have HLN:=As hlen;have HB1:=As hb1;clear hV hcv hc hlen hb1)
  obtain ⟨E,bb,hE⟩ : ∃ E bb,LZ vs = (E,bb):=⟨_,_,rfl⟩
  have HE:=As hE
  clear hE
  cases bb
  · go_wp2_with (first | (clear H2;go_at_call 8;refine (I9 (c:=v1_) (Below.refl w1.heap.size w1) HVC.out).mono ?_;rw [HE.out];rintro x w2 ⟨vd,vm,vl,rfl,ho,hb2⟩;obtain ⟨Gd,g1_,Gm,g2_,Gl,g3_,rfl,rfl,rfl,hgcl,hc⟩:=ho.reads;have HG2:=As hc;have HGL:=As hgcl;have HB2:=As hb2;clear ho hb2 hc hgcl) | (clear H3;refine Aw (vd:=.slice Gd E.disk.length g1_) (vm:=.slice Gm E.mem.length g2_) (vl:=.slice Gl E.log.length g3_) E ?_;intro w3 hb3 hz3 hq3;have HG3:=As (HG2.out.up hb3);have HQ3:=As hq3;have HB3:=As (bj HB2.out hb3);clear hb3 hz3 hq3) | (go_at_call 9;refine (Hg (c:=v1_) HB3.out HVC.out).mono ?_;rw [HE.out];rintro x w4 ⟨vd,vm,vl,rfl,ho,hb4⟩;obtain ⟨Jd,j1_,Jm,j2_,Jl,j3_,rfl,rfl,rfl, -,hc⟩:=ho.reads;have HJ4:=As hc;have HB4:=As hb4;clear ho hb4 hc) | (clear H5;refine Aw (vd:=.slice Jd E.disk.length j1_) (vm:=.slice Jm E.mem.length j2_) (vl:=.slice Jl E.log.length j3_) E ?_;intro w5 hb5 hz5 hq5;have HJ5:=As (HJ4.out.up hb5);have HQ5:=As hq5;have HT5:=As (bj HB4.out hb5);have HN5:=As (Below.refl w5.heap.size w5);clear hb5 hz5 hq5;have g0:=(HQ3.out.up HT5.out).c0;have g1:=(HQ3.out.up HT5.out).c1;have g2:=(HQ3.out.up HT5.out).c2;have g3:=(HQ3.out.up HT5.out).c3;have g4:=(HQ3.out.up HT5.out).c4;have s0:=(HQ5.out).c0;have s1:=(HQ5.out).c1;have s2:=(HQ5.out).c2;have s3:=(HQ5.out).c3;have s4:=(HQ5.out).c4) | (go_at_call 10;refine (GK (cd:=g1_) (cm:=g2_) (cl:=g3_) (dd:=j1_) (dm:=j2_) (dl:=j3_) (bj HT5.out HN5.out) HG3.out HN5.out HJ5.out).mono ?_;rintro x w6 ⟨rfl,hb6⟩;have HN6:=As (bj HN5.out hb6);clear HN5 hb6;clear g0 g1 g2 g3 g4 s0 s1 s2 s3 s4;have HN5:=HN6;clear HN6;have g0:=(HQ3.out.up (bj HT5.out HN5.out)).c0;have g1:=(HQ3.out.up (bj HT5.out HN5.out)).c1;have g2:=(HQ3.out.up (bj HT5.out HN5.out)).c2;have g3:=(HQ3.out.up (bj HT5.out HN5.out)).c3;have g4:=(HQ3.out.up (bj HT5.out HN5.out)).c4;have s0:=(HQ5.out.up HN5.out).c0;have s1:=(HQ5.out.up HN5.out).c1;have s2:=(HQ5.out.up HN5.out).c2;have s3:=(HQ5.out.up HN5.out).c3;have s4:=(HQ5.out.up HN5.out).c4))
    go_ret
    exact ⟨rfl,bj HB1.out (bj HB3.out (bj HT5.out HN5.out))⟩
  have HRUN:=As (Uj HE.out)
  have HINV : Ac (∃ C,Inv E C (3 * 40)):=⟨by rw [HRUN.out.2];exact inv_all vs HRUN.out.1⟩
  obtain ⟨m,hm⟩ : ∃ m : Nat,(ys.length : Int) % ((vs.length : Int) + 1) = m:=⟨ys.length % (vs.length + 1),by push_cast;rfl⟩
  have hml : m ≤ vs.length:=by have:=Int.emod_lt_of_pos (ys.length : Int) (show (0 : Int) < (vs.length : Int) + 1 by omega);omega
  have hml2 : (m : Int) ≤ (vs.length : Int):=by omega
  have hv40 : (vs.length : Int) ≤ 41:=by have:=HLN.out;omega
  have hvc : (m : Int) ≤ (v1_ : Int):=by have:=HCV.out;omega
  have HTL : (vs.take m).length = m:=by rw [List.length_take];omega
  obtain ⟨EX,hEX⟩ : ∃ EX,runE newE (vs.take m) = EX:=⟨_,rfl⟩
  have HPR : Ac (∀ wx,Below w1.heap.size w1 wx → Calls Tryz.prog 8 #[.slice V1 m v1_] wx (CQ wx EX true)):=⟨fun wx hb => by
    have h:=I9 (c:=v1_) hb (Kd.Sc HVC.out hml)
    rw [Wi HRUN.out.1,hEX,HTL] at h
    exact h⟩
  have HEX:=As hEX
  clear HTL hEX
  go_wp2_with (first | (clear H2;go_at_call 8;refine (I9 (c:=v1_) (Below.refl w1.heap.size w1) HVC.out).mono ?_;rw [HE.out];rintro x w2 ⟨vd,vm,vl,rfl,ho,hb2⟩;obtain ⟨Gd,g1_,Gm,g2_,Gl,g3_,rfl,rfl,rfl,hgcl,hc⟩:=ho.reads;have HG2:=As hc;have HGL:=As hgcl;have HB2:=As hb2;clear ho hb2 hc hgcl) | (clear H3;refine Aw (vd:=.slice Gd E.disk.length g1_) (vm:=.slice Gm E.mem.length g2_) (vl:=.slice Gl E.log.length g3_) E ?_;intro w3 hb3 hz3 hq3;have HG3:=As (HG2.out.up hb3);have HQ3:=As hq3;have HB3:=As (bj HB2.out hb3);clear hb3 hz3 hq3) | (go_at_call 9;refine (Hg (c:=v1_) HB3.out HVC.out).mono ?_;rw [HE.out];rintro x w4 ⟨vd,vm,vl,rfl,ho,hb4⟩;obtain ⟨Jd,j1_,Jm,j2_,Jl,j3_,rfl,rfl,rfl, -,hc⟩:=ho.reads;have HJ4:=As hc;have HB4:=As hb4;clear ho hb4 hc) | (clear H5;refine Aw (vd:=.slice Jd E.disk.length j1_) (vm:=.slice Jm E.mem.length j2_) (vl:=.slice Jl E.log.length j3_) E ?_;intro w5 hb5 hz5 hq5;have HJ5:=As (HJ4.out.up hb5);have HQ5:=As hq5;have HT5:=As (bj HB4.out hb5);have HN5:=As (Below.refl w5.heap.size w5);clear hb5 hz5 hq5;have g0:=(HQ3.out.up HT5.out).c0;have g1:=(HQ3.out.up HT5.out).c1;have g2:=(HQ3.out.up HT5.out).c2;have g3:=(HQ3.out.up HT5.out).c3;have g4:=(HQ3.out.up HT5.out).c4;have s0:=(HQ5.out).c0;have s1:=(HQ5.out).c1;have s2:=(HQ5.out).c2;have s3:=(HQ5.out).c3;have s4:=(HQ5.out).c4) | (go_at_call 10;refine (GK (cd:=g1_) (cm:=g2_) (cl:=g3_) (dd:=j1_) (dm:=j2_) (dl:=j3_) (bj HT5.out HN5.out) HG3.out HN5.out HJ5.out).mono ?_;rintro x w6 ⟨rfl,hb6⟩;have HN6:=As (bj HN5.out hb6);clear HN5 hb6;clear g0 g1 g2 g3 g4 s0 s1 s2 s3 s4;have HN5:=HN6;clear HN6;have g0:=(HQ3.out.up (bj HT5.out HN5.out)).c0;have g1:=(HQ3.out.up (bj HT5.out HN5.out)).c1;have g2:=(HQ3.out.up (bj HT5.out HN5.out)).c2;have g3:=(HQ3.out.up (bj HT5.out HN5.out)).c3;have g4:=(HQ3.out.up (bj HT5.out HN5.out)).c4;have s0:=(HQ5.out.up HN5.out).c0;have s1:=(HQ5.out.up HN5.out).c1;have s2:=(HQ5.out.up HN5.out).c2;have s3:=(HQ5.out.up HN5.out).c3;have s4:=(HQ5.out.up HN5.out).c4) | (go_at_call 8;refine (HPR.out w6 (bj HB3.out (bj HT5.out HN5.out))).mono ?_;rintro x w7 ⟨vd,vm,vl,rfl,ho,hb7⟩;obtain ⟨Xd,x1_,Xm,x2_,Xl,x3_,rfl,rfl,rfl, -, -⟩:=ho.reads;have HO7:=As ho;have HB7:=As hb7;clear ho hb7;clear g0 g1 g2 g3 g4 s0 s1 s2 s3 s4))
  obtain ⟨w8,hw8⟩ : ∃ w8,w7.alloc (Obj.cells #[.slice Xd EX.disk.length x1_, .slice Xm EX.mem.length x2_, .slice Xl EX.log.length x3_, .int .i64 EX.safe, .bool EX.down] 28) = w8:=⟨_,rfl⟩
  rw [hw8]
  have hb8 : Below w7.heap.size w7 w8:=by rw [← hw8];exact Ah (Below.refl _ _) _
  have hq8 : Ai w8 w7.heap.size EX (.slice Xd EX.disk.length x1_) (.slice Xm EX.mem.length x2_) (.slice Xl EX.log.length x3_):=by rw [← hw8];exact Ai.mk1 _ _ _ _ _
  have HEG : Ac (BO w6 w8 w7.heap.size EX):=⟨⟨⟨_,_,_,hq8,HO7.out.below hb8⟩,bj HB7.out hb8,HB7.out.size⟩⟩
  clear hw8 hb8 hq8
  go_loopw [13] (fun i wr => ∃ k : Nat,k ≤ vs.length ∧ i = .int .i64 (k : Int) ∧ Ac (BO w6 wr w7.heap.size (runE newE (vs.take k)))) (fun i _ => (vs.length - intOf i).toNat)
  case atStart => exact ⟨m,hml,rfl,⟨by rw [HEX.out];exact HEG.out⟩⟩
  case round =>
    obtain ⟨k,hk,rfl,HX⟩:=hrel
    obtain ⟨⟨vd,vm,vl,hq,ho⟩, -, -⟩:=HX.out
    obtain ⟨Ed',m1,Em',m2,El',m3,rfl,rfl,rfl,hcl,hrd⟩:=ho.reads
    have HRD:=As hrd
    have HQ:=As hq
    have x0:=hq.c0
    have x1:=hq.c1
    have x2:=hq.c2
    have x3:=hq.c3
    have x4:=hq.c4
    have HBV:=As (bj (bj HB3.out (bj HT5.out HN5.out)) HX.out.bel)
    by_cases hlt : k < vs.length
    · obtain ⟨ad,A2,c2,rfl,QV, -,hv⟩:=RL (BM HVC.out HBV.out) k hlt
      obtain ⟨z0,z1,z2,z3,z4,z5⟩:=QV
      have HV:=As hv
      have HTK:=As (show runE newE (vs.take (k + 1)) = BN (runE newE (vs.take k)) (ev vs k) by rw [Pp hlt,Ic])
      have HIV:=As (Pm vs k (by have:=HRUN.out.1;omega))
      obtain ⟨X,hX⟩ : ∃ X,runE newE (vs.take k) = X:=⟨_,rfl⟩
      obtain ⟨v,hvv⟩ : ∃ v,ev vs k = v:=⟨_,rfl⟩
      rw [hX] at HRD HQ x0 x1 x2 x3 x4 HTK HIV HX hcl
      rw [hvv] at z0 z1 z2 z3 z4 z5 HTK HV
      have HCL:=As hcl
      obtain ⟨X1,hX1⟩ : ∃ X1,BN X v = X1:=⟨_,rfl⟩
      rw [hX1] at HTK
      have HDO : Ac (∀ wx,Below wr.heap.size wr wx → Calls Tryz.prog 11 #[X.val Ed' Em' El' m1 m2 m3,v.val A2 c2] wx (RV wx X1)):=⟨fun wx hb => by
        obtain ⟨C,hi⟩:=HIV.out
        have h:=LD (cd:=m1) (cm:=m2) (cl:=m3) (c:=c2) v hi (by omega) HCL.out hb HRD.out HV.out
        rw [hX1] at h
        exact h⟩
      have hki : (k : Int) < (vs.length : Int):=by omega
      clear hq ho hrd hv hX hvv hcl hX1
      go_wp2
      refine AX (fun lx a wx => Below wr.heap.size wr wx ∧ Sl 5 80 (fun v wx => ∃ ud um ul,v = X1.ag ud um ul ∧ AU wx w6.heap.size ud um ul X1) lx a wx) 6 rfl (by kernel_rfl) (⟨Aj (Below.refl _ _),AZ⟩) (fun HT => ?_)
      refine Ae (i:=0) (v:=?_) HT rfl (by kernel_rfl) rfl (kA Aa (Ab rfl rfl)) (by rfl) (fun _ _ _ h => h) (fun lx ax wx hS => ?_) ?_;rotate_left;(have hbx:=hS.1;clear hS;replace x0:=bc hbx x0;replace x1:=bc hbx x1;replace x2:=bc hbx x2;replace x3:=bc hbx x3;replace x4:=bc hbx x4;replace z0:=bc hbx z0;replace z1:=bc hbx z1;replace z2:=bc hbx z2;replace z3:=bc hbx z3;replace z4:=bc hbx z4;replace z5:=bc hbx z5;go_simp;with_reducible rfl);rotate_left;simp only [sc0,sc1]
      refine Ae (i:=1) (v:=?_) HT rfl (by kernel_rfl) rfl (kA Aa (Ab rfl rfl)) (by rfl) (fun _ _ _ h => h) (fun lx ax wx hS => ?_) ?_;rotate_left;(have hbx:=hS.1;clear hS;replace x0:=bc hbx x0;replace x1:=bc hbx x1;replace x2:=bc hbx x2;replace x3:=bc hbx x3;replace x4:=bc hbx x4;replace z0:=bc hbx z0;replace z1:=bc hbx z1;replace z2:=bc hbx z2;replace z3:=bc hbx z3;replace z4:=bc hbx z4;replace z5:=bc hbx z5;go_simp;with_reducible rfl);rotate_left;simp only [sc0,sc1]
      refine Ae (i:=2) (v:=?_) HT rfl (by kernel_rfl) rfl (kA Aa (Ab rfl rfl)) (by rfl) (fun _ _ _ h => h) (fun lx ax wx hS => ?_) ?_;rotate_left;(have hbx:=hS.1;clear hS;replace x0:=bc hbx x0;replace x1:=bc hbx x1;replace x2:=bc hbx x2;replace x3:=bc hbx x3;replace x4:=bc hbx x4;replace z0:=bc hbx z0;replace z1:=bc hbx z1;replace z2:=bc hbx z2;replace z3:=bc hbx z3;replace z4:=bc hbx z4;replace z5:=bc hbx z5;go_simp;with_reducible rfl);rotate_left;simp only [sc0,sc1]
      refine Ae (i:=3) (v:=?_) HT rfl (by kernel_rfl) rfl (kA Aa (Ab rfl rfl)) (by rfl) (fun _ _ _ h => h) (fun lx ax wx hS => ?_) ?_;rotate_left;(have hbx:=hS.1;clear hS;replace x0:=bc hbx x0;replace x1:=bc hbx x1;replace x2:=bc hbx x2;replace x3:=bc hbx x3;replace x4:=bc hbx x4;replace z0:=bc hbx z0;replace z1:=bc hbx z1;replace z2:=bc hbx z2;replace z3:=bc hbx z3;replace z4:=bc hbx z4;replace z5:=bc hbx z5;go_simp;with_reducible rfl);rotate_left;simp only [sc0,sc1]
      refine Ae (i:=4) (v:=?_) HT rfl (by kernel_rfl) rfl (kA Aa (Ab rfl rfl)) (by rfl) (fun _ _ _ h => h) (fun lx ax wx hS => ?_) ?_;rotate_left;(have hbx:=hS.1;clear hS;replace x0:=bc hbx x0;replace x1:=bc hbx x1;replace x2:=bc hbx x2;replace x3:=bc hbx x3;replace x4:=bc hbx x4;replace z0:=bc hbx z0;replace z1:=bc hbx z1;replace z2:=bc hbx z2;replace z3:=bc hbx z3;replace z4:=bc hbx z4;replace z5:=bc hbx z5;go_simp;with_reducible rfl);rotate_left;simp only [sc0,sc1]
      refine BR (i:=5) (f:=11) (args:=#[X.val Ed' Em' El' m1 m2 m3,v.val A2 c2]) (fun v => ∃ ud um ul,v = X1.ag ud um ul) rfl (by kernel_rfl) rfl Tryz.func11 (by kernel_rfl) rfl rfl (by rfl) (by simp only [List.map_toArray,List.map_cons,List.map_nil];rfl) (fun wx hS => (HDO.out wx hS.1).mono (by rintro y w9 ⟨ud,um,ul,rfl,ho,hb⟩;exact ⟨_,rfl,⟨ud,um,ul,rfl⟩,bj hS.1 hb,fun _ => ⟨ud,um,ul,rfl,ho.lower (Nat.le_trans HX.out.bel.size hS.1.size)⟩⟩)) (fun vx hg => ?_);simp only [sc0,sc1]
      obtain ⟨ud,um,ul,rfl⟩:=hg
      refine BQ (i:=6) (by kernel_rfl) rfl (fun wx hS => ?_)
      obtain ⟨h1,h3⟩:=hS
      obtain ⟨ud',um',ul',hu',hown⟩:=h3 (by kernel_rfl)
      have hu' : X1.ag ud um ul = X1.ag ud' um' ul':=hu'
      obtain ⟨rfl,rfl,rfl⟩ : ud = ud' ∧ um = um' ∧ ul = ul':=by simpa using hu'
      obtain ⟨Bd,dd,Bm,dm,Bl,dl,rfl,rfl,rfl, -, -⟩:=hown.reads
      have hq5:=HQ.out.up h1
      clear x0 x1 x2 x3 x4 z0 z1 z2 z3 z4 z5
      have x0:=hq5.c0
      have x1:=hq5.c1
      have x2:=hq5.c2
      have x3:=hq5.c3
      have x4:=hq5.c4
      have f0:=hq5.frz 0
      have f1:=hq5.frz 1
      have f2:=hq5.frz 2
      have f3:=hq5.frz 3
      have f4:=hq5.frz 4
      refine Bh (w1:=Go.Proofs.YtpjmlpmhgfghbaaGreat.Az wx w7.heap.size X1 (.slice Bd X1.disk.length dd) (.slice Bm X1.mem.length dm) (.slice Bl X1.log.length dl)) rfl (by rfl) (by go_simp) ?_
      obtain ⟨w9,hw9⟩ : ∃ w9,Go.Proofs.YtpjmlpmhgfghbaaGreat.Az wx w7.heap.size X1 (.slice Bd X1.disk.length dd) (.slice Bm X1.mem.length dm) (.slice Bl X1.log.length dl) = w9:=⟨_,rfl⟩
      have HE9 : Ac (BO w6 w9 w7.heap.size X1):=⟨by rw [← hw9];exact ⟨⟨_,_,_,hq5.Az X1 _ _ _,hown.Az (f:=X1) hq5⟩,Ak (bj HX.out.bel h1) HX.out.ge X1 _ _ _,HX.out.ge⟩⟩
      rw [hw9]
      clear h1 h3 hu' hown hq5 hw9 x0 x1 x2 x3 x4 f0 f1 f2 f3 f4
      refine BB (by kernel_rfl) ?_
      go_wp2
      go_roundw
      case rel => exact ⟨k + 1,by omega,by go_num,⟨by rw [HTK.out];exact HE9.out⟩⟩
      case measure => simp [intOf];omega
    · have hke : vs.take k = vs:=List.take_of_length_le (by omega)
      have hxe : runE newE (vs.take k) = E:=by rw [hke];exact HRUN.out.2.symm
      rw [hxe] at HRD x0 x1 x2 x3 x4
      have HBX:=As (bj HT5.out (bj HN5.out HX.out.bel))
      have g0:=(HQ3.out.up HBX.out).c0
      have g1:=(HQ3.out.up HBX.out).c1
      have g2:=(HQ3.out.up HBX.out).c2
      have g3:=(HQ3.out.up HBX.out).c3
      have g4:=(HQ3.out.up HBX.out).c4
      clear hq ho hrd hcl hke hxe
      go_wp2_with (go_at_call 10;refine (GK (cd:=m1) (cm:=m2) (cl:=m3) (dd:=g1_) (dm:=g2_) (dl:=g3_) (Below.refl wr.heap.size wr) HRD.out HBX.out HG3.out).mono ?_;rintro x w10 ⟨rfl,hb10⟩;have HB10:=As hb10;clear hb10)
      go_ret
      exact ⟨rfl,bj HB1.out (bj HBV.out HB10.out)⟩
open Go.RowKit Go.Proofs.YtpjmlpmhgfghbaaGreatW.PrintWords Go.Proofs.YtpjmlpmhgfghbaaGreatW.PrintLast Go.Proofs.YtpjmlpmhgfghbaaGreatW.PrintMore Go.ChangeShapes Go.WideShapes Go.Deep
section
variable {H : Type} {enc : TypeId × Value → H} {P : Program} {w : World} {spare : Nat → Bool} {held : Bool}
def Opens (P : Program) (enc : TypeId × Value → H) (w : World) (spare : Nat → Bool) (held : Bool) {α : Type} (d : Kd α) (t : TypeId) : Prop:=
  ∀ fuel cs x,DataW.trod enc P w 0 spare held fuel t cs = some x → ∃ a,d.K w a cs
theorem TM {t : TypeId} {k : IntKind} (ht : P.underlying t = some (.int k)) : Opens P enc w spare held (Kd.int k) t:=by
  intro fuel cs x h
  obtain ⟨n,rfl, -⟩:=DataW.trod_int ht h
  exact ⟨n,rfl⟩
theorem UY {a : Addr} {n : Nat} {cs : List Value} (h : w.cells? 0 a n = some cs) (i : Nat) (u : Value) (hi : cs[i]? = some u) : w.cell? (a.add i) = some u:=by
  unfold World.cells? at h
  rw [if_pos (Nat.zero_le _)] at h
  have hl:=mapM_some_length h
  have hlt : i < n:=by have:=(List.getElem?_eq_some_iff.1 hi).1;simp at hl;omega
  rw [mapM_some_get h i i (by simp [hlt]),hi]
theorem Qh {α : Type} {d : Kd α} {t e : TypeId} (ht : P.underlying t = some (.slice e)) (hsz : P.cellsOf e = d.sz) (hd : Opens P enc w (fun _ => true) held d e) : Opens P enc w (fun _ => true) held (Kd.slice e d) t:=by
  intro fuel cs x h
  rcases open_slice ht h with ⟨rfl, -⟩ | ⟨a,len,cap,m,n,D,Pl,rfl, -,hl,hc,hm, -,hel⟩
  · exact ⟨[],none,0,rfl,Nat.le_refl _,rfl,by simp,fun h0 => by simp at h0⟩
  · rw [if_pos rfl] at hm
    subst hm
    have key : ∀ j,j ≤ len → ∃ xs : List α,xs.length = j ∧ ∀ i p,xs[i]? = some p → ∃ c,c.length = d.sz ∧ d.K w p c ∧ ∀ k u,c[k]? = some u → w.cell? (a.add (i * d.sz + k)) = some u:=by
      intro j
      induction j with
      | zero => exact fun _ => ⟨[],rfl,fun i p hp => by simp at hp⟩
      | succ j ih =>
        intro hj
        obtain ⟨xs,h1,h2⟩:=ih (by omega)
        obtain ⟨cs',h3,h4⟩:=hel j (by omega)
        obtain ⟨p,hp⟩:=hd _ _ _ h4
        refine ⟨xs ++ [p],by simp [h1],fun i q hq => ?_⟩
        by_cases hi : i < j
        · exact h2 i q (by rwa [List.getElem?_append_left (by omega)] at hq)
        · have hlt:=(List.getElem?_eq_some_iff.1 hq).1
          have hij : i = j:=by simp [h1] at hlt;omega
          subst hij
          rw [List.getElem?_append_right (by omega),h1,Nat.sub_self] at hq
          cases hq
          refine ⟨cs',d.K_len hp,hp,fun k u hk => ?_⟩
          rw [hsz] at h3
          rw [← Go.Deep.add_add]
          exact UY h3 k u hk
    obtain ⟨xs,h1,h2⟩:=key len (Nat.le_refl _)
    exact ⟨xs,some a,m,by rw [h1],by rw [h1];exact hl,rfl,by rw [h1];have : maxLen = 9223372036854775807:=rfl;omega,fun _ => ⟨a,rfl,h2⟩⟩
end
section
variable {H : Type} {enc : TypeId × Value → H} {w : World} {held : Bool}
end
end Go.Proofs.YtpjmlpmhgfghbaaGreat
namespace Go.Proofs.YtpjmlpmhgfghbaaGreat
open Go.RowKit Go.Proofs.YtpjmlpmhgfghbaaGreatW.PrintWords Go.Proofs.YtpjmlpmhgfghbaaGreatW.PrintLast Go.Proofs.YtpjmlpmhgfghbaaGreatW.PrintMore Go.ChangeShapes Go.WideShapes Go.Deep
theorem MB {H : Type} {enc : TypeId × Value → H} {w : World} {held : Bool} {fuel : Nat} {cs : List Value} {y : DataW H × List MemPlace} (h : DataW.trod enc Tryz.prog w 0 (fun _ => true) held fuel 22 cs = some y) : ∃ xs A c,cs = [.slice A (List.length xs) c] ∧ xs.length ≤ c ∧ (Kd.int .u8).C w A xs.length xs ∧ Bytes xs:=by
  obtain ⟨xs,A,c,he,hcl,hr⟩:=Qh (d:=Kd.int .u8) Tryz.underlying22 (by kernel_rfl) (TM Tryz.underlying5) _ _ _ h
  refine ⟨xs,A,c,he,hcl,hr,fun b hb => ?_⟩
  obtain ⟨i,hi,rfl⟩:=List.getElem_of_mem hb
  obtain ⟨ad,ha,hc⟩:=T9 hr i hi
  rcases open_ints Tryz.underlying22 Tryz.underlying5 (by kernel_rfl) h with ⟨hcs,_⟩ | ⟨x,l,c',zs,hcs,_,hl,hm,hz,_,hcell,hwz⟩
  · rw [he,ha] at hcs
    simp at hcs
  · rw [he,ha] at hcs
    simp only [List.cons.injEq,Value.slice.injEq,Option.some.injEq,and_true] at hcs
    obtain ⟨rfl,h2,rfl⟩:=hcs
    rw [if_pos rfl] at hz
    have h3:=hcell i (by omega)
    rw [hc] at h3
    have h4 : iv xs i = zs.getD i 0:=by simpa using h3
    have h5:=range_u8 hwz i
    have e : iv xs i = xs[i]:=by simp [iv,List.getD_eq_getElem?_getD,hi]
    rw [← e,h4,List.getD_eq_getElem?_getD]
    exact h5
end Go.Proofs.YtpjmlpmhgfghbaaGreat
namespace Go.Proofs.YtpjmlpmhgfghbaaGreat.fnRunCut
open Go.ChangeShapes Go.WideShapes Go.ChangeAt Go.RowKit Go.Proofs.YtpjmlpmhgfghbaaGreat
theorem own : ownKnob Tryz.prog.godebug = none:=by kernel_rfl
theorem laidOut : laidOutB Tryz.prog = true:=by kernel_rfl
set_option maxRecDepth 100000 in
theorem lifted (os : Os) (started : os.Started) (H : Type) (enc : TypeId × Value → H) :
    ReturnsInHanded {} Tryz.checked os 3 .any (Rows.fnRunCutSpec.pre6 enc Tryz.prog Tryz.f3 Rows.fnRunCutRow.domain false) (Rows.fnRunCutSpec.post enc Tryz.prog Tryz.f3 false true false false):=by
  refine returnsInHanded_of_change_sized (C:=Tryz.checked) own started (by kernel_rfl) Tryz.func3
    (ChangeSpec.witness6 (enc:=enc) (C:=Tryz.checked) false ⟨#[],#[.slice none 0 0, .slice none 0 0], []⟩ 8 (by kernel_rfl) (by kernel_rfl) (by kernel_rfl) (by kernel_rfl)) ?_
  intro W base args ds gs before hval0 hW hcnd hsz0 _
  have hval : ∀ (j : Nat) t v,Tryz.f3.params[j]? = some t → args[j]? = some v → Value.okWide Tryz.prog W .any base t v:=hval0
  have hW':=hW
  obtain ⟨p,q,hA0,hV,rfl,hfz,hnd⟩:=hW
  have hA : DataW.TrodAll enc Tryz.prog W 0 (fun _ => true) true Tryz.f3.params.toList args.toList ds p:=hA0
  rw [Tryz.params3] at hA hval
  obtain ⟨v0,vs0,d0,ds0,p0,q0,hargs,rfl,rfl,h0,r0⟩:=trodAll_cons hA
  obtain ⟨v1,vs1,d1,ds1,p1,q1,rfl,rfl,rfl,h1,r1⟩:=trodAll_cons r0
  obtain ⟨rfl,rfl,rfl⟩:=trodAll_nil r1
  obtain rfl : args = #[v0,v1]:=by cases args;simp_all
  obtain ⟨rfl,rfl⟩:=trodVars_none hV
  have k0:=h0
  have lt0 : ∀ x ∈ p0,x.block < W.heap.size:=by obtain ⟨m,hm⟩:=k0;exact DataW.trod_lt m _ _ _ hm
  obtain ⟨a0,len0,cap0,rfl⟩:=okWide_slice Tryz.underlying22 (hval 0 22 v0 rfl rfl)
  obtain ⟨fuel0,hf0⟩:=h0
  obtain ⟨xs0,A0,c0,he0,hcl0,hr0,hby0⟩:=MB hf0
  obtain ⟨rfl,rfl,rfl⟩ : a0 = A0 ∧ len0 = xs0.length ∧ cap0 = c0:=by simpa [Value.cells] using he0
  have k1:=h1
  have lt1 : ∀ x ∈ p1,x.block < W.heap.size:=by obtain ⟨m,hm⟩:=k1;exact DataW.trod_lt m _ _ _ hm
  obtain ⟨a1,TU,cap1,rfl⟩:=okWide_slice Tryz.underlying22 (hval 1 22 v1 rfl rfl)
  obtain ⟨fuel1,hf1⟩:=h1
  obtain ⟨xs1,A1,c1,he1,hcl1,hr1,hby1⟩:=MB hf1
  obtain ⟨rfl,rfl,rfl⟩ : a1 = A1 ∧ TU = xs1.length ∧ cap1 = c1:=by simpa [Value.cells] using he1
  clear hA0 hval0 hsz0 hval hA
  refine (NV hcl0 hby0 hr0 (D5 hr1).2).mono fun e1 W' ⟨he1,bel⟩ => ?_
  subst he1
  exact ⟨_,rfl,_,_,_, [],_, [],hW',trodAll_mk1 (shut_bool Tryz.underlying4 _),(trodAll_cons_mk (Below.trod laidOut (by kernel_rfl) (of_decide_eq_true (by kernel_rfl)) k0 bel lt0) (trodAll_cons_mk (Below.trod laidOut (by kernel_rfl) (of_decide_eq_true (by kernel_rfl)) k1 bel lt1) trodAll_mk0)),rfl,bel.frame _,fun h => by cases h⟩
theorem k24b : (Rows.fnRunCutRow.lifted == Tryz.pinned.checked.prog.liftsFinal) = true:=by
  rw [show Tryz.pinned.checked.prog.liftsFinal = false from Qv]
  rfl
theorem k24c : (Tryz.pinned.checked.prog.make == some Rows.fnRunCutRow.make) = true:=by
  rw [show Tryz.pinned.checked.prog.make = some Make.cut from Uz]
  rfl
set_option maxRecDepth 100000 in
set_option maxHeartbeats 8000000 in
theorem closed : joinedFacts Tryz.pinned.checked.prog 3 Tryz.f3 Rows.fnRunCutSpec Rows.fnRunCutRow = true:=by
  simp only [joinedFacts,Bool.and_eq_true]
  exact ⟨⟨⟨⟨⟨⟨⟨⟨⟨⟨⟨⟨⟨⟨⟨⟨⟨⟨⟨⟨⟨⟨⟨⟨⟨⟨⟨⟨⟨⟨⟨(by as_aux_lemma => kernel_rfl),(by as_aux_lemma => kernel_rfl)⟩,(by as_aux_lemma => kernel_rfl)⟩,(by as_aux_lemma => kernel_rfl)⟩,(by as_aux_lemma => kernel_rfl)⟩,(by as_aux_lemma => kernel_rfl)⟩,(by as_aux_lemma => kernel_rfl)⟩,(by as_aux_lemma => kernel_rfl)⟩,(by as_aux_lemma => kernel_rfl)⟩,(by as_aux_lemma => kernel_rfl)⟩,(by as_aux_lemma => kernel_rfl)⟩,(by as_aux_lemma => kernel_rfl)⟩,(by as_aux_lemma => kernel_rfl)⟩,(by as_aux_lemma => kernel_rfl)⟩,(by as_aux_lemma => kernel_rfl)⟩,(by as_aux_lemma => kernel_rfl)⟩,(by as_aux_lemma => kernel_rfl)⟩,(by as_aux_lemma => kernel_rfl)⟩,(by as_aux_lemma => kernel_rfl)⟩,(by as_aux_lemma => kernel_rfl)⟩,(by as_aux_lemma => kernel_rfl)⟩,(by as_aux_lemma => kernel_rfl)⟩,(by as_aux_lemma => kernel_rfl)⟩,(by as_aux_lemma => kernel_rfl)⟩,(by as_aux_lemma => kernel_rfl)⟩,TR⟩,k24b⟩,k24c⟩,(by as_aux_lemma => kernel_rfl)⟩,(by as_aux_lemma => kernel_rfl)⟩,(by as_aux_lemma => kernel_rfl)⟩,(by as_aux_lemma => kernel_rfl)⟩
theorem over : Rows.fnRunCutRow.holds Tryz.pinned (OpenSpec.ofChange Rows.fnRunCutSpec):=
  OpenClaim.holds_of_wide 3 Tryz.f3 rfl rfl rfl rfl rfl rfl rfl ⟨rfl,rfl,rfl,rfl,rfl⟩ rfl rfl rfl rfl rfl (by kernel_rfl) Tryz.func3 closed
    (of_decide_eq_true (by kernel_rfl)) (by unfold Func.isWrapper;first | (rw [if_pos (by decide +kernel)];kernel_rfl) | (rw [if_neg (by decide +kernel)];exact ⟨rfl,rfl⟩))
    (fun os started H enc _ => lifted os started H enc)
theorem proved : Rows.FnRunCutSaid:=over
end Go.Proofs.YtpjmlpmhgfghbaaGreat.fnRunCut
namespace Go.Proofs.YtpjmlpmhgfghbaaGreat
theorem fnRunCut_holds : Rows.FnRunCutSaid:=fnRunCut.proved
end Go.Proofs.YtpjmlpmhgfghbaaGreat
