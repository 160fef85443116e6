/- A part of the proof: what the last text of the claim says leans on this one. -/
import Derived.Test.YtjeodgfkilhkhaaGreatZK1
import Derived.Test.YtjeodgfkilhkhaaGreatZN1
import Derived.Test.YtjeodgfkilhkhaaGreatZI1
import Derived.Test.YtjeodgfkilhkhaaGreatZF1
set_option linter.unusedVariables false
set_option linter.unusedSimpArgs false
namespace Go.Proofs.YtjeodgfkilhkhaaGreat
open Go.RowKit Go.Proofs.YtjeodgfkilhkhaaGreatW.PrintWords Go.Proofs.YtjeodgfkilhkhaaGreatW.PrintLast Go.Proofs.YtjeodgfkilhkhaaGreatW.PrintMore
def writeR (e : Eng) (page : Int) : Eng × Bool:=if eOk e = true ∧ e.down = false ∧ inB page 0 4 = true then (Cj e page.toNat,true) else (zE,false)
theorem writeR_ok {e : Eng} (h : eOk e = true) (page : Int) : Il e page = writeR e page:=by
 rw [Il,writeR]
 by_cases hd : e.down = false ∧ inB page 0 4 = true
 ·rw [if_pos hd,if_pos ⟨h,hd⟩]
 ·rw [if_neg hd,if_neg (fun x => hd x.2)]
theorem writeR_yes {e X : Eng} {page : Int} (h : writeR e page = (X,true)) : eOk e = true ∧ e.down = false ∧ inB page 0 4 = true ∧ X = Cj e page.toNat:=by
 rw [writeR] at h
 split at h
 ·rename_i h1
  injection h with h2 _
  exact ⟨h1.1,h1.2.1,h1.2.2,h2.symm⟩
 ·injection h with _ h2
  cases h2
set_option maxRecDepth 100000 in
set_option maxHeartbeats 16000000 in
theorem EngineWriteR_calls {w0 w : World} {e : Eng} {Ad Am Al : Option Addr} {cd cm cl : Nat} (page : Int) (hcl : e.log.length ≤ cl) (hb : Below w0.heap.size w0 w) (hr : Ff w0 e Ad Am Al) : Calls Tryz.prog 29 #[e.val Ad Am Al cd cm cl, .int .i64 page] w (OL w (writeR e page).1 (writeR e page).2):=by
 cases hv : eOk e
 rotate_left
 ·have h:=Tx (cd:=cd) (cm:=cm) page hv hcl hb hr
  rw [writeR_ok hv] at h
  exact h
 rw [show writeR e page = (zE,false) by rw [writeR,if_neg (fun x => by rw [hv] at x;cases x.1)]]
 have HV:=As hv
 clear hv
 have HR:=As (hr.up hb)
 clear hr hb
 obtain ⟨w1,hw1⟩ : ∃ w1,w.alloc (e.obox (.slice Ad e.disk.length cd) (.slice Am e.mem.length cm) (.slice Al e.log.length cl)) = w1:=⟨_,rfl⟩
 obtain ⟨w2,hw2⟩ : ∃ w2,w1.alloc (zE.obox (.slice none 0 0) (.slice none 0 0) (.slice none 0 0)) = w2:=⟨_,rfl⟩
 have hz1 : w1.heap.size = w.heap.size + 1:=by rw [← hw1];exact BD _ _
 have hz2 : w2.heap.size = w.heap.size + 2:=by rw [← hw2,BD,hz1]
 have hb12 : Below w1.heap.size w1 w2:=by rw [← hw2];exact Aa (Below.refl _ _) _
 have HB2 : A7 (Below w.heap.size w w2):=⟨by rw [← hw2, ← hw1];exact Aa (Aa (Below.refl _ _) _) _⟩
 have HQ2 : A7 (Ab w2 w.heap.size e (.slice Ad e.disk.length cd) (.slice Am e.mem.length cm) (.slice Al e.log.length cl)):=⟨Ab.up (by rw [← hw1];exact Ab.mk1 _ _ _ _ _) hb12⟩
 have HP2 : A7 (Ab w2 (w.heap.size + 1) zE (.slice none 0 0) (.slice none 0 0) (.slice none 0 0)):=⟨by rw [← hw2, ← hz1];exact Ab.mk1 _ _ _ _ _⟩
 have HW2 : A7 ((w.alloc (e.obox (.slice Ad e.disk.length cd) (.slice Am e.mem.length cm) (.slice Al e.log.length cl))).alloc (zE.obox (.slice none 0 0) (.slice none 0 0) (.slice none 0 0)) = w2):=⟨by rw [hw1,hw2]⟩
 have HZ2:=As hz2
 clear hw1 hw2 hz1 hz2 hb12
 have x0:=HQ2.out.c0
 have x1:=HQ2.out.c1
 have x2:=HQ2.out.c2
 have x3:=HQ2.out.c3
 have x4:=HQ2.out.c4
 go_enter Tryz.func29,Tryz.ntmps29
 go_wp2_with (first | (go_at_call 16;rw [show (w.alloc (Obj.cells #[Value.slice Ad e.disk.length cd,Value.slice Am e.mem.length cm,Value.slice Al e.log.length cl,Value.int IntKind.i64 e.safe,Value.bool e.down] 26)).alloc (Obj.cells #[Value.slice none 0 0,Value.slice none 0 0,Value.slice none 0 0,Value.int IntKind.i64 0,Value.bool false] 26) = w2 from HW2.out];refine (BU (cd:=cd) (cm:=cm) HV.out hcl HB2.out HR.out).mono ?_;rintro x w3 ⟨rfl,hb3⟩;have HX3:=As hb3;have HB3:=As (bj HB2.out hb3);have hp:=HP2.out.up hb3;have HP3:=As hp;have y0:=(hp).c0;have y1:=(hp).c1;have y2:=(hp).c2;have y3:=(hp).c3;have y4:=(hp).c4;have f0:=(hp).frz 0;have f1:=(hp).frz 1;have f2:=(hp).frz 2;have f3:=(hp).frz 3;have f4:=(hp).frz 4;clear hp;replace x0:=bc hb3 x0;replace x1:=bc hb3 x1;replace x2:=bc hb3 x2;replace x3:=bc hb3 x3;replace x4:=bc hb3 x4;clear hb3))
 obtain ⟨z0,z1,z2,z3,z4⟩:=HP3.out.empty
 have hz:=HZ2.out
 exact bodyPost_ret (v:=.tuple #[zEv, .bool false]) (by simp [results,Tryz.results29,go_sem,z0,z1,z2,z3,z4]) rfl ⟨_,_,_,rfl,Hz _ _,Aj (g:=w.heap.size + 1) HB3.out (by omega) zE _ _ _⟩
set_option maxRecDepth 100000 in
set_option maxHeartbeats 16000000 in
theorem specEngineWrite_calls {w0 w : World} {e : Eng} {Ad Am Al : Option Addr} {cd cm cl : Nat} (page : Int) (hcl : e.log.length ≤ cl) (hb : Below w0.heap.size w0 w) (hr : Ff w0 e Ad Am Al) : Calls Tryz.prog 28 #[e.val Ad Am Al cd cm cl, .int .i64 page] w (OL w (writeR e page).1 (writeR e page).2):=by
 have HR:=As (hr.up hb)
 clear hr hb
 obtain ⟨w1,hw1⟩ : ∃ w1,w.alloc (e.obox (.slice Ad e.disk.length cd) (.slice Am e.mem.length cm) (.slice Al e.log.length cl)) = w1:=⟨_,rfl⟩
 obtain ⟨w2,hw2⟩ : ∃ w2,w1.alloc (zE.obox (.slice none 0 0) (.slice none 0 0) (.slice none 0 0)) = w2:=⟨_,rfl⟩
 have hz1 : w1.heap.size = w.heap.size + 1:=by rw [← hw1];exact BD _ _
 have hz2 : w2.heap.size = w.heap.size + 2:=by rw [← hw2,BD,hz1]
 have hb12 : Below w1.heap.size w1 w2:=by rw [← hw2];exact Aa (Below.refl _ _) _
 have HB2 : A7 (Below w.heap.size w w2):=⟨by rw [← hw2, ← hw1];exact Aa (Aa (Below.refl _ _) _) _⟩
 have HQ2 : A7 (Ab w2 w.heap.size e (.slice Ad e.disk.length cd) (.slice Am e.mem.length cm) (.slice Al e.log.length cl)):=⟨Ab.up (by rw [← hw1];exact Ab.mk1 _ _ _ _ _) hb12⟩
 have HP2 : A7 (Ab w2 (w.heap.size + 1) zE (.slice none 0 0) (.slice none 0 0) (.slice none 0 0)):=⟨by rw [← hw2, ← hz1];exact Ab.mk1 _ _ _ _ _⟩
 have HW2 : A7 ((w.alloc (e.obox (.slice Ad e.disk.length cd) (.slice Am e.mem.length cm) (.slice Al e.log.length cl))).alloc (zE.obox (.slice none 0 0) (.slice none 0 0) (.slice none 0 0)) = w2):=⟨by rw [hw1,hw2]⟩
 have HZ2:=As hz2
 clear hw1 hw2 hz1 hz2 hb12
 have x0:=HQ2.out.c0
 have x1:=HQ2.out.c1
 have x2:=HQ2.out.c2
 have x3:=HQ2.out.c3
 have x4:=HQ2.out.c4
 cases hv : eOk e
 ·rw [show writeR e page = (zE,false) by rw [writeR,if_neg (fun x => by rw [hv] at x;cases x.1)]]
  have HV:=As hv
  clear hv
  go_enter Tryz.func28,Tryz.ntmps28
  go_wp2_with (first | (go_at_call 24;rw [show (w.alloc (Obj.cells #[Value.slice Ad e.disk.length cd,Value.slice Am e.mem.length cm,Value.slice Al e.log.length cl,Value.int IntKind.i64 e.safe,Value.bool e.down] 26)).alloc (Obj.cells #[Value.slice none 0 0,Value.slice none 0 0,Value.slice none 0 0,Value.int IntKind.i64 0,Value.bool false] 26) = w2 from HW2.out];refine (Cw (cd:=cd) (cm:=cm) HV.out hcl HB2.out HR.out).mono ?_;rintro x w3 ⟨rfl,hb3⟩;have HX3:=As hb3;have HB3:=As (bj HB2.out hb3);have hp:=HP2.out.up hb3;have HP3:=As hp;have y0:=(hp).c0;have y1:=(hp).c1;have y2:=(hp).c2;have y3:=(hp).c3;have y4:=(hp).c4;have f0:=(hp).frz 0;have f1:=(hp).frz 1;have f2:=(hp).frz 2;have f3:=(hp).frz 3;have f4:=(hp).frz 4;clear hp;replace x0:=bc hb3 x0;replace x1:=bc hb3 x1;replace x2:=bc hb3 x2;replace x3:=bc hb3 x3;replace x4:=bc hb3 x4;clear hb3))
  obtain ⟨z0,z1,z2,z3,z4⟩:=HP3.out.empty
  have hz:=HZ2.out
  exact bodyPost_ret (v:=.tuple #[zEv, .bool false]) (by simp [results,Tryz.results28,go_sem,z0,z1,z2,z3,z4]) rfl ⟨_,_,_,rfl,Hz _ _,Aj (g:=w.heap.size + 1) HB3.out (by omega) zE _ _ _⟩
 have HV:=As hv
 cases hdn : e.down
 rotate_left
 ·rw [show writeR e page = (zE,false) by rw [writeR,if_neg (fun x => by rw [hdn] at x;cases x.2.1)]]
  rw [hdn] at x4
  clear hdn hv
  go_enter Tryz.func28,Tryz.ntmps28
  go_wp2_with (first | (go_at_call 24;rw [show (w.alloc (Obj.cells #[Value.slice Ad e.disk.length cd,Value.slice Am e.mem.length cm,Value.slice Al e.log.length cl,Value.int IntKind.i64 e.safe,Value.bool e.down] 26)).alloc (Obj.cells #[Value.slice none 0 0,Value.slice none 0 0,Value.slice none 0 0,Value.int IntKind.i64 0,Value.bool false] 26) = w2 from HW2.out];refine (Cw (cd:=cd) (cm:=cm) HV.out hcl HB2.out HR.out).mono ?_;rintro x w3 ⟨rfl,hb3⟩;have HX3:=As hb3;have HB3:=As (bj HB2.out hb3);have hp:=HP2.out.up hb3;have HP3:=As hp;have y0:=(hp).c0;have y1:=(hp).c1;have y2:=(hp).c2;have y3:=(hp).c3;have y4:=(hp).c4;have f0:=(hp).frz 0;have f1:=(hp).frz 1;have f2:=(hp).frz 2;have f3:=(hp).frz 3;have f4:=(hp).frz 4;clear hp;replace x0:=bc hb3 x0;replace x1:=bc hb3 x1;replace x2:=bc hb3 x2;replace x3:=bc hb3 x3;replace x4:=bc hb3 x4;clear hb3))
  obtain ⟨z0,z1,z2,z3,z4⟩:=HP3.out.empty
  have hz:=HZ2.out
  exact bodyPost_ret (v:=.tuple #[zEv, .bool false]) (by simp [results,Tryz.results28,go_sem,z0,z1,z2,z3,z4]) rfl ⟨_,_,_,rfl,Hz _ _,Aj (g:=w.heap.size + 1) HB3.out (by omega) zE _ _ _⟩
 have HDN:=As hdn
 rw [hdn] at x4
 cases hin : inB page 0 4
 ·rw [show writeR e page = (zE,false) by rw [writeR,if_neg (fun x => by rw [hin] at x;cases x.2.2)]]
  have HIN:=As hin
  clear hdn hv hin
  go_enter Tryz.func28,Tryz.ntmps28
  go_wp2_with (first | (go_at_call 24;rw [show (w.alloc (Obj.cells #[Value.slice Ad e.disk.length cd,Value.slice Am e.mem.length cm,Value.slice Al e.log.length cl,Value.int IntKind.i64 e.safe,Value.bool e.down] 26)).alloc (Obj.cells #[Value.slice none 0 0,Value.slice none 0 0,Value.slice none 0 0,Value.int IntKind.i64 0,Value.bool false] 26) = w2 from HW2.out];refine (Cw (cd:=cd) (cm:=cm) HV.out hcl HB2.out HR.out).mono ?_;rintro x w3 ⟨rfl,hb3⟩;have HX3:=As hb3;have HB3:=As (bj HB2.out hb3);have hp:=HP2.out.up hb3;have HP3:=As hp;have y0:=(hp).c0;have y1:=(hp).c1;have y2:=(hp).c2;have y3:=(hp).c3;have y4:=(hp).c4;have f0:=(hp).frz 0;have f1:=(hp).frz 1;have f2:=(hp).frz 2;have f3:=(hp).frz 3;have f4:=(hp).frz 4;clear hp;replace x0:=bc hb3 x0;replace x1:=bc hb3 x1;replace x2:=bc hb3 x2;replace x3:=bc hb3 x3;replace x4:=bc hb3 x4;clear hb3) | (go_at_call 53;refine (AX page 0 4 _).mono ?_;rw [HIN.out];rintro x w9 ⟨rfl,rfl⟩))
  obtain ⟨z0,z1,z2,z3,z4⟩:=HP3.out.empty
  have hz:=HZ2.out
  exact bodyPost_ret (v:=.tuple #[zEv, .bool false]) (by simp [results,Tryz.results28,go_sem,z0,z1,z2,z3,z4]) rfl ⟨_,_,_,rfl,Hz _ _,Aj (g:=w.heap.size + 1) HB3.out (by omega) zE _ _ _⟩
 have HIN:=As hin
 have hpg:=CU.1 hin
 have HPG:=As hpg
 obtain ⟨p,rfl⟩:=Int.eq_ofNat_of_zero_le hpg.1
 rw [show writeR e (p : Int) = (Cj e p,true) by rw [writeR,if_pos ⟨hv,hdn,hin⟩,Int.toNat_natCast]]
 have HF:=As (Ct.1 hv)
 have HLG:=As (BA HF.out.log)
 clear hdn hv hin hpg
 go_enter Tryz.func28,Tryz.ntmps28
 go_wp2_with (first | (go_at_call 24;rw [show (w.alloc (Obj.cells #[Value.slice Ad e.disk.length cd,Value.slice Am e.mem.length cm,Value.slice Al e.log.length cl,Value.int IntKind.i64 e.safe,Value.bool e.down] 26)).alloc (Obj.cells #[Value.slice none 0 0,Value.slice none 0 0,Value.slice none 0 0,Value.int IntKind.i64 0,Value.bool false] 26) = w2 from HW2.out];refine (Cw (cd:=cd) (cm:=cm) HV.out hcl HB2.out HR.out).mono ?_;rintro x w3 ⟨rfl,hb3⟩;have HX3:=As hb3;replace x0:=bc hb3 x0;replace x1:=bc hb3 x1;replace x2:=bc hb3 x2;replace x3:=bc hb3 x3;replace x4:=bc hb3 x4;clear hb3) | (go_at_call 53;refine (AX (p : Int) 0 4 _).mono ?_;rw [HIN.out];rintro x w9 ⟨rfl,rfl⟩) | (go_at_call 35;refine (XO (Gr (cd:=cd) (cm:=cm) (cl:=cl) (AZ HF.out.disk) (AZ HF.out.mem) HLG.out (bj HB2.out HX3.out) HR.out) (by simp only [Eng.val,Eng.ag,HDN.out])).mono ?_;rintro x w4 ⟨vd,vm,vl,rfl,ho,hb4⟩;have HO4:=As ho;have HX4:=As hb4;clear ho hb4 x0 x1 x2 x3 x4) | (go_at_call 62;refine (JQ (w0:=w3) (p:=p) (by have:=HPG.out;omega) (AZ HF.out.disk) (AZ HF.out.mem) HX4.out HO4.out).mono ?_;rintro x w5 ⟨rfl,ho5,hb5, -⟩;obtain ⟨Ed,n1,Em,n2,El,n3,rfl,rfl,rfl, -, -⟩:=ho5.reads;have HO5:=As ho5;have HX5:=As (bj HX3.out hb5);have hp:=HP2.out.up HX5.out;have HP5:=As hp;have y0:=(hp).c0;have y1:=(hp).c1;have y2:=(hp).c2;have y3:=(hp).c3;have y4:=(hp).c4;have f0:=(hp).frz 0;have f1:=(hp).frz 1;have f2:=(hp).frz 2;have f3:=(hp).frz 3;have f4:=(hp).frz 4;clear hp ho5 hb5))
 have hy:=HP5.out.Ap (Cj e p) (.slice Ed (Cj e p).disk.length n1) (.slice Em (Cj e p).mem.length n2) (.slice El (Cj e p).log.length n3)
 have h1:=HO5.out.Ap (f:=Cj e p) (xd:=.slice Ed (Cj e p).disk.length n1) (xm:=.slice Em (Cj e p).mem.length n2) (xl:=.slice El (Cj e p).log.length n3) HP5.out
 have hz:=HZ2.out
 have hn3:=HX3.out.size
 have h2:=Aj (g:=w.heap.size + 1) (bj HB2.out HX5.out) (by omega) (Cj e p) (.slice Ed (Cj e p).disk.length n1) (.slice Em (Cj e p).mem.length n2) (.slice El (Cj e p).log.length n3)
 have z0:=hy.c0
 have z1:=hy.c1
 have z2:=hy.c2
 have z3:=hy.c3
 have z4:=hy.c4
 exact bodyPost_ret (v:=.tuple #[(Cj e p).ag (.slice Ed (Cj e p).disk.length n1) (.slice Em (Cj e p).mem.length n2) (.slice El (Cj e p).log.length n3), .bool true]) (by simp [results,Tryz.results28,go_sem,z0,z1,z2,z3,z4]) rfl ⟨_,_,_,rfl,Aw.lower h1 (by omega),h2⟩
end Go.Proofs.YtjeodgfkilhkhaaGreat
