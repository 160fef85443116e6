/- A part of the proof: what the last text of the claim says leans on this one. -/
import Derived.Test.YtjeodgfkilhkhaaGreatZK1
import Derived.Test.YtjeodgfkilhkhaaGreatZN1
import Derived.Test.YtjeodgfkilhkhaaGreatZF1
set_option linter.unusedVariables false
set_option linter.unusedSimpArgs false
namespace Go.Proofs.YtjeodgfkilhkhaaGreat
open Go.RowKit Go.Proofs.YtjeodgfkilhkhaaGreatW.PrintWords Go.Proofs.YtjeodgfkilhkhaaGreatW.PrintLast Go.Proofs.YtjeodgfkilhkhaaGreatW.PrintMore
def forceR (e : Eng) : Eng × Bool:=if eOk e = true ∧ e.down = false then (DV e,true) else (zE,false)
theorem forceR_ok {e : Eng} (h : eOk e = true) : Ki e = forceR e:=by
 rw [Ki,forceR]
 by_cases hd : e.down = false
 ·rw [if_pos hd,if_pos ⟨h,hd⟩]
 ·rw [if_neg hd,if_neg (fun x => hd x.2)]
theorem forceR_yes {e X : Eng} (h : forceR e = (X,true)) : eOk e = true ∧ e.down = false ∧ X = DV e:=by
 rw [forceR] at h
 split at h
 ·rename_i h1
  injection h with h2 _
  exact ⟨h1.1,h1.2,h2.symm⟩
 ·injection h with _ h2
  cases h2
set_option maxRecDepth 100000 in
set_option maxHeartbeats 16000000 in
theorem EngineForceR_calls {w0 w : World} {e : Eng} {Ad Am Al : Option Addr} {cd cm cl : Nat} (hcl : e.log.length ≤ cl) (hb : Below w0.heap.size w0 w) (hr : Ff w0 e Ad Am Al) : Calls Tryz.prog 19 #[e.val Ad Am Al cd cm cl] w (OL w (forceR e).1 (forceR e).2):=by
 cases hv : eOk e
 rotate_left
 ·have h:=Ty (cd:=cd) (cm:=cm) hv hcl hb hr
  rw [forceR_ok hv] at h
  exact h
 rw [show forceR e = (zE,false) by rw [forceR,if_neg (fun x => by rw [hv] at x;cases x.1)]]
 have HV:=As hv
 clear hv
 have HR:=As (hr.up hb)
 clear hr hb
 obtain ⟨w1,hw1⟩ : ∃ w1,w.alloc (e.obox (.slice Ad e.disk.length cd) (.slice Am e.mem.length cm) (.slice Al e.log.length cl)) = w1:=⟨_,rfl⟩
 obtain ⟨w2,hw2⟩ : ∃ w2,w1.alloc (zE.obox (.slice none 0 0) (.slice none 0 0) (.slice none 0 0)) = w2:=⟨_,rfl⟩
 have hz1 : w1.heap.size = w.heap.size + 1:=by rw [← hw1];exact BD _ _
 have hz2 : w2.heap.size = w.heap.size + 2:=by rw [← hw2,BD,hz1]
 have hb12 : Below w1.heap.size w1 w2:=by rw [← hw2];exact Aa (Below.refl _ _) _
 have HB2 : A7 (Below w.heap.size w w2):=⟨by rw [← hw2, ← hw1];exact Aa (Aa (Below.refl _ _) _) _⟩
 have HQ2 : A7 (Ab w2 w.heap.size e (.slice Ad e.disk.length cd) (.slice Am e.mem.length cm) (.slice Al e.log.length cl)):=⟨Ab.up (by rw [← hw1];exact Ab.mk1 _ _ _ _ _) hb12⟩
 have HP2 : A7 (Ab w2 (w.heap.size + 1) zE (.slice none 0 0) (.slice none 0 0) (.slice none 0 0)):=⟨by rw [← hw2, ← hz1];exact Ab.mk1 _ _ _ _ _⟩
 have HW2 : A7 ((w.alloc (e.obox (.slice Ad e.disk.length cd) (.slice Am e.mem.length cm) (.slice Al e.log.length cl))).alloc (zE.obox (.slice none 0 0) (.slice none 0 0) (.slice none 0 0)) = w2):=⟨by rw [hw1,hw2]⟩
 have HZ2:=As hz2
 clear hw1 hw2 hz1 hz2 hb12
 have x0:=HQ2.out.c0
 have x1:=HQ2.out.c1
 have x2:=HQ2.out.c2
 have x3:=HQ2.out.c3
 have x4:=HQ2.out.c4
 go_enter Tryz.func19,Tryz.ntmps19
 go_wp2_with (first | (go_at_call 16;rw [show (w.alloc (Obj.cells #[Value.slice Ad e.disk.length cd,Value.slice Am e.mem.length cm,Value.slice Al e.log.length cl,Value.int IntKind.i64 e.safe,Value.bool e.down] 26)).alloc (Obj.cells #[Value.slice none 0 0,Value.slice none 0 0,Value.slice none 0 0,Value.int IntKind.i64 0,Value.bool false] 26) = w2 from HW2.out];refine (BU (cd:=cd) (cm:=cm) HV.out hcl HB2.out HR.out).mono ?_;rintro x w3 ⟨rfl,hb3⟩;have HX3:=As hb3;have HB3:=As (bj HB2.out hb3);have hp:=HP2.out.up hb3;have HP3:=As hp;have y0:=(hp).c0;have y1:=(hp).c1;have y2:=(hp).c2;have y3:=(hp).c3;have y4:=(hp).c4;have f0:=(hp).frz 0;have f1:=(hp).frz 1;have f2:=(hp).frz 2;have f3:=(hp).frz 3;have f4:=(hp).frz 4;clear hp;replace x0:=bc hb3 x0;replace x1:=bc hb3 x1;replace x2:=bc hb3 x2;replace x3:=bc hb3 x3;replace x4:=bc hb3 x4;clear hb3))
 obtain ⟨z0,z1,z2,z3,z4⟩:=HP3.out.empty
 have hz:=HZ2.out
 exact bodyPost_ret (v:=.tuple #[zEv, .bool false]) (by simp [results,Tryz.results19,go_sem,z0,z1,z2,z3,z4]) rfl ⟨_,_,_,rfl,Hz _ _,Aj (g:=w.heap.size + 1) HB3.out (by omega) zE _ _ _⟩
set_option maxRecDepth 100000 in
set_option maxHeartbeats 16000000 in
theorem specEngineForce_calls {w0 w : World} {e : Eng} {Ad Am Al : Option Addr} {cd cm cl : Nat} (hcl : e.log.length ≤ cl) (hb : Below w0.heap.size w0 w) (hr : Ff w0 e Ad Am Al) : Calls Tryz.prog 18 #[e.val Ad Am Al cd cm cl] w (OL w (forceR e).1 (forceR e).2):=by
 have HR:=As (hr.up hb)
 clear hr hb
 obtain ⟨w1,hw1⟩ : ∃ w1,w.alloc (e.obox (.slice Ad e.disk.length cd) (.slice Am e.mem.length cm) (.slice Al e.log.length cl)) = w1:=⟨_,rfl⟩
 obtain ⟨w2,hw2⟩ : ∃ w2,w1.alloc (zE.obox (.slice none 0 0) (.slice none 0 0) (.slice none 0 0)) = w2:=⟨_,rfl⟩
 have hz1 : w1.heap.size = w.heap.size + 1:=by rw [← hw1];exact BD _ _
 have hz2 : w2.heap.size = w.heap.size + 2:=by rw [← hw2,BD,hz1]
 have hb12 : Below w1.heap.size w1 w2:=by rw [← hw2];exact Aa (Below.refl _ _) _
 have HB2 : A7 (Below w.heap.size w w2):=⟨by rw [← hw2, ← hw1];exact Aa (Aa (Below.refl _ _) _) _⟩
 have HQ2 : A7 (Ab w2 w.heap.size e (.slice Ad e.disk.length cd) (.slice Am e.mem.length cm) (.slice Al e.log.length cl)):=⟨Ab.up (by rw [← hw1];exact Ab.mk1 _ _ _ _ _) hb12⟩
 have HP2 : A7 (Ab w2 (w.heap.size + 1) zE (.slice none 0 0) (.slice none 0 0) (.slice none 0 0)):=⟨by rw [← hw2, ← hz1];exact Ab.mk1 _ _ _ _ _⟩
 have HW2 : A7 ((w.alloc (e.obox (.slice Ad e.disk.length cd) (.slice Am e.mem.length cm) (.slice Al e.log.length cl))).alloc (zE.obox (.slice none 0 0) (.slice none 0 0) (.slice none 0 0)) = w2):=⟨by rw [hw1,hw2]⟩
 have HZ2:=As hz2
 clear hw1 hw2 hz1 hz2 hb12
 have x0:=HQ2.out.c0
 have x1:=HQ2.out.c1
 have x2:=HQ2.out.c2
 have x3:=HQ2.out.c3
 have x4:=HQ2.out.c4
 cases hv : eOk e
 ·rw [show forceR e = (zE,false) by rw [forceR,if_neg (fun x => by rw [hv] at x;cases x.1)]]
  have HV:=As hv
  clear hv
  go_enter Tryz.func18,Tryz.ntmps18
  go_wp2_with (first | (go_at_call 24;rw [show (w.alloc (Obj.cells #[Value.slice Ad e.disk.length cd,Value.slice Am e.mem.length cm,Value.slice Al e.log.length cl,Value.int IntKind.i64 e.safe,Value.bool e.down] 26)).alloc (Obj.cells #[Value.slice none 0 0,Value.slice none 0 0,Value.slice none 0 0,Value.int IntKind.i64 0,Value.bool false] 26) = w2 from HW2.out];refine (Cw (cd:=cd) (cm:=cm) HV.out hcl HB2.out HR.out).mono ?_;rintro x w3 ⟨rfl,hb3⟩;have HX3:=As hb3;have HB3:=As (bj HB2.out hb3);have hp:=HP2.out.up hb3;have HP3:=As hp;have y0:=(hp).c0;have y1:=(hp).c1;have y2:=(hp).c2;have y3:=(hp).c3;have y4:=(hp).c4;have f0:=(hp).frz 0;have f1:=(hp).frz 1;have f2:=(hp).frz 2;have f3:=(hp).frz 3;have f4:=(hp).frz 4;clear hp;replace x0:=bc hb3 x0;replace x1:=bc hb3 x1;replace x2:=bc hb3 x2;replace x3:=bc hb3 x3;replace x4:=bc hb3 x4;clear hb3))
  obtain ⟨z0,z1,z2,z3,z4⟩:=HP3.out.empty
  have hz:=HZ2.out
  exact bodyPost_ret (v:=.tuple #[zEv, .bool false]) (by simp [results,Tryz.results18,go_sem,z0,z1,z2,z3,z4]) rfl ⟨_,_,_,rfl,Hz _ _,Aj (g:=w.heap.size + 1) HB3.out (by omega) zE _ _ _⟩
 have HV:=As hv
 cases hdn : e.down
 rotate_left
 ·rw [show forceR e = (zE,false) by rw [forceR,if_neg (fun x => by rw [hdn] at x;cases x.2)]]
  rw [hdn] at x4
  clear hdn hv
  go_enter Tryz.func18,Tryz.ntmps18
  go_wp2_with (first | (go_at_call 24;rw [show (w.alloc (Obj.cells #[Value.slice Ad e.disk.length cd,Value.slice Am e.mem.length cm,Value.slice Al e.log.length cl,Value.int IntKind.i64 e.safe,Value.bool e.down] 26)).alloc (Obj.cells #[Value.slice none 0 0,Value.slice none 0 0,Value.slice none 0 0,Value.int IntKind.i64 0,Value.bool false] 26) = w2 from HW2.out];refine (Cw (cd:=cd) (cm:=cm) HV.out hcl HB2.out HR.out).mono ?_;rintro x w3 ⟨rfl,hb3⟩;have HX3:=As hb3;have HB3:=As (bj HB2.out hb3);have hp:=HP2.out.up hb3;have HP3:=As hp;have y0:=(hp).c0;have y1:=(hp).c1;have y2:=(hp).c2;have y3:=(hp).c3;have y4:=(hp).c4;have f0:=(hp).frz 0;have f1:=(hp).frz 1;have f2:=(hp).frz 2;have f3:=(hp).frz 3;have f4:=(hp).frz 4;clear hp;replace x0:=bc hb3 x0;replace x1:=bc hb3 x1;replace x2:=bc hb3 x2;replace x3:=bc hb3 x3;replace x4:=bc hb3 x4;clear hb3))
  obtain ⟨z0,z1,z2,z3,z4⟩:=HP3.out.empty
  have hz:=HZ2.out
  exact bodyPost_ret (v:=.tuple #[zEv, .bool false]) (by simp [results,Tryz.results18,go_sem,z0,z1,z2,z3,z4]) rfl ⟨_,_,_,rfl,Hz _ _,Aj (g:=w.heap.size + 1) HB3.out (by omega) zE _ _ _⟩
 have HDN:=As hdn
 rw [hdn] at x4
 rw [show forceR e = (DV e,true) by rw [forceR,if_pos ⟨hv,hdn⟩]]
 have HF:=As (Ct.1 hv)
 have HLG:=As (BA HF.out.log)
 clear hdn hv
 go_enter Tryz.func18,Tryz.ntmps18
 go_wp2_with (first | (go_at_call 24;rw [show (w.alloc (Obj.cells #[Value.slice Ad e.disk.length cd,Value.slice Am e.mem.length cm,Value.slice Al e.log.length cl,Value.int IntKind.i64 e.safe,Value.bool e.down] 26)).alloc (Obj.cells #[Value.slice none 0 0,Value.slice none 0 0,Value.slice none 0 0,Value.int IntKind.i64 0,Value.bool false] 26) = w2 from HW2.out];refine (Cw (cd:=cd) (cm:=cm) HV.out hcl HB2.out HR.out).mono ?_;rintro x w3 ⟨rfl,hb3⟩;have HX3:=As hb3;replace x0:=bc hb3 x0;replace x1:=bc hb3 x1;replace x2:=bc hb3 x2;replace x3:=bc hb3 x3;replace x4:=bc hb3 x4;clear hb3) | (go_at_call 35;refine (XO (Gr (cd:=cd) (cm:=cm) (cl:=cl) (AZ HF.out.disk) (AZ HF.out.mem) HLG.out (bj HB2.out HX3.out) HR.out) (by simp only [Eng.val,Eng.ag,HDN.out])).mono ?_;rintro x w4 ⟨vd,vm,vl,rfl,ho,hb4⟩;obtain ⟨Bd,dd,Bm,dm,Bl,dl,rfl,rfl,rfl, -,hc⟩:=ho.reads;have HO4:=As ho;have HC4:=As hc;have HX4:=As hb4;clear ho hb4 hc x0 x1 x2 x3 x4) | (refine Ca (vd:=.slice Bd e.disk.length dd) (vm:=.slice Bm e.mem.length dm) (vl:=.slice Bl e.log.length dl) e ?_;intro w5 hb5 hz5 hq5;have q0:=hq5.c0;have q1:=hq5.c1;have q2:=hq5.c2;have q3:=hq5.c3;have q4:=hq5.c4;have g3:=hq5.frz 3;have HQ5:=As hq5;have HO5:=As (HO4.out.below hb5);have HX5:=As (bj HX4.out hb5);have HGE:=As HX4.out.size;have hne1 : ¬ w4.heap.size = w.heap.size + 1:=(by have:=HZ2.out;have:=HX3.out.size;have:=HGE.out;omega);have hne2 : ¬ w.heap.size + 1 = w4.heap.size:=fun e => hne1 e.symm;have hp:=HP2.out.up (bj HX3.out HX5.out);have HP7:=As hp;have y0:=(hp).c0;have y1:=(hp).c1;have y2:=(hp).c2;have y3:=(hp).c3;have y4:=(hp).c4;have f0:=(hp).frz 0;have f1:=(hp).frz 1;have f2:=(hp).frz 2;have f3:=(hp).frz 3;have f4:=(hp).frz 4;clear hp;clear hb5 hq5 hz5))
 have HO7 : A7 (Aw (w5.setCell ⟨w4.heap.size,3,none⟩ (.int .i64 (e.log.length : Int))) w3.heap.size (.slice Bd e.disk.length dd) (.slice Bm e.mem.length dm) (.slice Bl e.log.length dl) e):=⟨HO5.out.Dy HQ5.out 3 _⟩
 have p1:=HP7.out.far (b:=w4.heap.size) (by omega) 3 (.int .i64 (e.log.length : Int))
 have b1:=(bj HB2.out (bj HX3.out HX5.out)).setCell (p:=⟨w4.heap.size,3,none⟩) (by show w.heap.size ≤ w4.heap.size;have:=HZ2.out;have:=HX3.out.size;have:=HGE.out;omega) (.int .i64 (e.log.length : Int))
 have hz:=HZ2.out
 have hn3:=HX3.out.size
 have hy:=p1.Ap (DV e) (.slice Bd e.disk.length dd) (.slice Bm e.mem.length dm) (.slice Bl e.log.length dl)
 have h1:=HO7.out.Ap (f:=DV e) (xd:=.slice Bd e.disk.length dd) (xm:=.slice Bm e.mem.length dm) (xl:=.slice Bl e.log.length dl) p1
 have h2:=Aj (g:=w.heap.size + 1) b1 (by omega) (DV e) (.slice Bd e.disk.length dd) (.slice Bm e.mem.length dm) (.slice Bl e.log.length dl)
 have z0:=hy.c0
 have z1:=hy.c1
 have z2:=hy.c2
 have z3:=hy.c3
 have z4:=hy.c4
 simp only [DV] at z0 z1 z2 z3 z4 h2
 exact bodyPost_ret (v:=.tuple #[(DV e).ag (.slice Bd e.disk.length dd) (.slice Bm e.mem.length dm) (.slice Bl e.log.length dl), .bool true]) (by simp [results,Tryz.results18,go_sem,z0,z1,z2,z3,z4,DV]) rfl ⟨_,_,_,rfl,Aw.lower ⟨h1.ex,h1.l⟩ (by omega),h2⟩
set_option maxRecDepth 100000 in
set_option maxHeartbeats 16000000 in
theorem EngineDirty_none {w0 w : World} {e : Eng} {Ad Am Al : Option Addr} {cd cm cl : Nat} (hmd : e.mem = e.disk) (hcl : e.log.length ≤ cl) (hb : Below w0.heap.size w0 w) (hr : Ff w0 e Ad Am Al) : Calls Tryz.prog 20 #[e.val Ad Am Al cd cm cl] w fun x w' => x = .returned (.slice none 0 0) ∧ Below w.heap.size w w':=by
 have HR:=As (hr.up hb)
 have HMD:=As hmd
 clear hr hb hmd
 obtain ⟨w1,hw1⟩ : ∃ w1,w.alloc (e.obox (.slice Ad e.disk.length cd) (.slice Am e.mem.length cm) (.slice Al e.log.length cl)) = w1:=⟨_,rfl⟩
 have HB1 : A7 (Below w.heap.size w w1):=⟨by rw [← hw1];exact Aa (Below.refl _ _) _⟩
 have HQ1 : A7 (Ab w1 w.heap.size e (.slice Ad e.disk.length cd) (.slice Am e.mem.length cm) (.slice Al e.log.length cl)):=⟨by rw [← hw1];exact Ab.mk1 _ _ _ _ _⟩
 have HW1 : A7 (w.alloc (e.obox (.slice Ad e.disk.length cd) (.slice Am e.mem.length cm) (.slice Al e.log.length cl)) = w1):=⟨hw1⟩
 clear hw1
 have x0:=HQ1.out.c0
 have x1:=HQ1.out.c1
 have x2:=HQ1.out.c2
 have x3:=HQ1.out.c3
 have x4:=HQ1.out.c4
 cases hv : eOk e
 all_goals have HV:=As hv
 all_goals clear hv
 ·go_enter Tryz.func20,Tryz.ntmps20
  go_wp2_with (first | (go_at_call 16;rw [show w.alloc (Obj.cells #[Value.slice Ad e.disk.length cd,Value.slice Am e.mem.length cm,Value.slice Al e.log.length cl,Value.int IntKind.i64 e.safe,Value.bool e.down] 26) = w1 from HW1.out];refine (BU (cd:=cd) (cm:=cm) HV.out hcl HB1.out HR.out).mono ?_;rintro x w3 ⟨rfl,hb3⟩;have HX3:=As hb3;have HB3:=As (bj HB1.out hb3);replace x0:=bc hb3 x0;replace x1:=bc hb3 x1;replace x2:=bc hb3 x2;replace x3:=bc hb3 x3;replace x4:=bc hb3 x4;clear hb3))
  go_ret
  exact ⟨rfl,HB3.out⟩
 ·go_enter Tryz.func20,Tryz.ntmps20
  go_wp2_with (first | (go_at_call 16;rw [show w.alloc (Obj.cells #[Value.slice Ad e.disk.length cd,Value.slice Am e.mem.length cm,Value.slice Al e.log.length cl,Value.int IntKind.i64 e.safe,Value.bool e.down] 26) = w1 from HW1.out];refine (BU (cd:=cd) (cm:=cm) HV.out hcl HB1.out HR.out).mono ?_;rintro x w3 ⟨rfl,hb3⟩;have HX3:=As hb3;have HB3:=As (bj HB1.out hb3);replace x0:=bc hb3 x0;replace x1:=bc hb3 x1;replace x2:=bc hb3 x2;replace x3:=bc hb3 x3;replace x4:=bc hb3 x4;clear hb3))
  have hm5:=HR.out.m.2
  go_loopw [3,12] (fun v i wr => ∃ k : Nat,k ≤ e.mem.length ∧ v = .slice none 0 0 ∧ i = .int .i64 (k : Int) ∧ A7 (Below w3.heap.size w3 wr)) (fun _ i _ => (e.mem.length - intOf i).toNat)
  case atStart => exact ⟨0,Nat.zero_le _,rfl,rfl,⟨Below.refl _ _⟩⟩
  case round =>
   obtain ⟨k,hk,rfl,rfl,HW⟩:=hrel
   replace x0:=bc HW.out x0
   replace x1:=bc HW.out x1
   replace x2:=bc HW.out x2
   replace x3:=bc HW.out x3
   replace x4:=bc HW.out x4
   by_cases hlt : k < e.mem.length
   ·have hki : (k : Int) < (e.mem.length : Int):=by omega
    have hdl : e.mem.length = e.disk.length:=by rw [HMD.out]
    have hkd : (k : Int) < (e.disk.length : Int):=by omega
    obtain ⟨am,Vm,qm,rfl,hPm, -, -⟩:=DT HR.out.m k hlt
    obtain ⟨ad,Vd,qd,rfl,hPd, -, -⟩:=DT HR.out.d k (by omega)
    have hb:=bj (bj HB1.out HX3.out) HW.out
    have m0:=bc hb hPm.c0
    have m1:=bc hb hPm.c1
    have m2:=bc hb hPm.c2
    have d0:=bc hb hPd.c0
    rw [show pg e.disk k = pg e.mem k by rw [HMD.out]] at d0
    clear hPm hPd hb
    go_wp2
    obtain ⟨w9,hw9⟩ : ∃ w9,wr.alloc (Obj.cells #[.int .i64 (pg e.mem k).lsn, .int .i64 (pg e.mem k).owner, .slice Vm (pg e.mem k).vals.length qm] 47) = w9:=⟨_,rfl⟩
    rw [hw9]
    have hb9 : Below wr.heap.size wr w9:=by rw [← hw9];exact Aa (Below.refl _ _) _
    have p0 : w9.cell? ⟨wr.heap.size,0,none⟩ = some (.int .i64 (pg e.mem k).lsn):=by rw [← hw9];exact (AU.mk1 wr (pg e.mem k) (.slice Vm (pg e.mem k).vals.length qm)).c0
    have HW9:=As (bj HW.out hb9)
    replace x0:=bc hb9 x0
    replace d0:=bc hb9 d0
    clear hw9 hb9 m0 m1 m2 x1 x2 x3 x4
    refine Bo (fun lx a wx => Below w9.heap.size w9 wx) 9 rfl (by kernel_rfl) (Ac (Below.refl _ _)) (fun HT => ?_)
    refine Bw [0,1,2,3,4,5,6,7,8] ?_
    iterate 9 (refine Bq (v:=?_) HT rfl (by kernel_rfl) rfl (Ah) (by rfl) (fun _ _ _ h => h) (fun lx ax wx hS => ?_) ?_;rotate_left;(have hbx:=hS;replace x0:=bc hbx x0;replace d0:=bc hbx d0;replace p0:=bc hbx p0;go_simp;with_reducible rfl);rotate_left;simp only [sc0,sc1])
    refine Bv ?_
    refine GU (by kernel_rfl) (fun wx hS => ?_)
    have HZ:=As (bj HW9.out hS)
    clear hS
    go_wp2
    go_roundw
    case rel => exact ⟨k + 1,by omega,rfl,by go_num,HZ⟩
    case measure => simp [intOf];omega
   ·have hki : ¬ (k : Int) < (e.mem.length : Int):=by omega
    go_wp2
    go_ret
    exact ⟨rfl,bj HB3.out HW.out⟩
end Go.Proofs.YtjeodgfkilhkhaaGreat
