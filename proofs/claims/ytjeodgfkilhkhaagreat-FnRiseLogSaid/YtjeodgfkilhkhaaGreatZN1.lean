/- A part of the proof: what the last text of the claim says leans on this one. -/
import Derived.Test.YtjeodgfkilhkhaaGreatZV1
import Derived.Test.YtjeodgfkilhkhaaGreatZP1
import Derived.Test.YtjeodgfkilhkhaaGreatZA2
import Derived.Test.YtjeodgfkilhkhaaGreatZV2
set_option linter.unusedVariables false
set_option linter.unusedSimpArgs false
namespace Go.Proofs.YtjeodgfkilhkhaaGreat
open Go.RowKit Go.Proofs.YtjeodgfkilhkhaaGreatW.PrintWords Go.Proofs.YtjeodgfkilhkhaaGreatW.PrintLast Go.Proofs.YtjeodgfkilhkhaaGreatW.PrintMore
theorem Qu {l : List Rec} (hl : Au l = true) {n : Nat} (hn : n ≤ l.length) {p : Int} (h : EZ l n p = true) : 0 ≤ p ∧ p < 5:=by
 rw [EZ,List.any_eq_true] at h
 obtain ⟨m,hm,h1⟩:=h
 simp only [Bool.and_eq_true,beq_iff_eq] at h1
 have h2:=Es n m hm
 have h3:=(Ag hl (k:=m - 1) (by omega)).ok
 rw [D7] at h3
 omega
def JM (w : World) (g : Nat) : Nat:=match w.cell? ⟨g,2,none⟩ with
 | some (.slice _ n _) => n
 | _ => 0
theorem JZ.JM {w0 w : World} {g : Nat} {e : Eng} (h : JZ w0 w g e) : Go.Proofs.YtjeodgfkilhkhaaGreat.JM w g = e.log.length:=by
 obtain ⟨⟨vd,vm,vl,hq,ho⟩, -, -⟩:=h
 obtain ⟨Ad,cd,Am,cm,Al,cl, -, -,rfl, -, -⟩:=ho.reads
 unfold Go.Proofs.YtjeodgfkilhkhaaGreat.JM
 rw [hq.c2]
theorem Lu {w0 w : World} {e : Eng} {b : Bool} {Ad Am Al : Option Addr} {cd cm cl : Nat} (hdn : e.down = b) (hd : geo e.disk) (hm : geo e.mem) (hl : e.log.length ≤ 150) (hb : Below w0.heap.size w0 w) (hr : Ff w0 e Ad Am Al) : Calls Tryz.prog 47 #[.agg #[.slice Ad e.disk.length cd, .slice Am e.mem.length cm, .slice Al e.log.length cl, .int .i64 e.safe, .bool b]] w (WE w e):=by
 subst hdn
 exact IU hd hm hl hb hr
def Il (e : Eng) (page : Int) : Eng × Bool:=if e.down = false ∧ inB page 0 4 = true then (Cj e page.toNat,true) else (zE,false)
set_option maxRecDepth 100000 in
set_option maxHeartbeats 16000000 in
theorem Tx {w0 w : World} {e : Eng} {Ad Am Al : Option Addr} {cd cm cl : Nat} (page : Int) (hok : eOk e = true) (hcl : e.log.length ≤ cl) (hb : Below w0.heap.size w0 w) (hr : Ff w0 e Ad Am Al) : Calls Tryz.prog 29 #[e.val Ad Am Al cd cm cl, .int .i64 page] w (OL w (Il e page).1 (Il e page).2):=by
 have HR:=As (hr.up hb)
 have HV:=As hok
 have HF:=As (Ct.1 hok)
 have HLG:=As (BA HF.out.log)
 clear hr hb hok
 obtain ⟨w1,hw1⟩ : ∃ w1,w.alloc (e.obox (.slice Ad e.disk.length cd) (.slice Am e.mem.length cm) (.slice Al e.log.length cl)) = w1:=⟨_,rfl⟩
 obtain ⟨w2,hw2⟩ : ∃ w2,w1.alloc (zE.obox (.slice none 0 0) (.slice none 0 0) (.slice none 0 0)) = w2:=⟨_,rfl⟩
 have hz1 : w1.heap.size = w.heap.size + 1:=by rw [← hw1];exact BD _ _
 have hz2 : w2.heap.size = w.heap.size + 2:=by rw [← hw2,BD,hz1]
 have hb12 : Below w1.heap.size w1 w2:=by rw [← hw2];exact Aa (Below.refl _ _) _
 have HB2 : A7 (Below w.heap.size w w2):=⟨by rw [← hw2, ← hw1];exact Aa (Aa (Below.refl _ _) _) _⟩
 have HQ2 : A7 (Ab w2 w.heap.size e (.slice Ad e.disk.length cd) (.slice Am e.mem.length cm) (.slice Al e.log.length cl)):=⟨Ab.up (by rw [← hw1];exact Ab.mk1 _ _ _ _ _) hb12⟩
 have HP2 : A7 (Ab w2 (w.heap.size + 1) zE (.slice none 0 0) (.slice none 0 0) (.slice none 0 0)):=⟨by rw [← hw2, ← hz1];exact Ab.mk1 _ _ _ _ _⟩
 have HW2 : A7 ((w.alloc (e.obox (.slice Ad e.disk.length cd) (.slice Am e.mem.length cm) (.slice Al e.log.length cl))).alloc (zE.obox (.slice none 0 0) (.slice none 0 0) (.slice none 0 0)) = w2):=⟨by rw [hw1,hw2]⟩
 have HZ2:=As hz2
 clear hw1 hw2 hz1 hz2 hb12
 have x0:=HQ2.out.c0
 have x1:=HQ2.out.c1
 have x2:=HQ2.out.c2
 have x3:=HQ2.out.c3
 have x4:=HQ2.out.c4
 cases hdn : e.down
 rotate_left
 ·rw [show Il e page = (zE,false) by rw [Il,if_neg (by rw [hdn];simp)]]
  rw [hdn] at x4
  clear hdn
  go_enter Tryz.func29,Tryz.ntmps29
  go_wp2_with (go_at_call 16;rw [show (w.alloc (Obj.cells #[Value.slice Ad e.disk.length cd,Value.slice Am e.mem.length cm,Value.slice Al e.log.length cl,Value.int IntKind.i64 e.safe,Value.bool e.down] 26)).alloc (Obj.cells #[Value.slice none 0 0,Value.slice none 0 0,Value.slice none 0 0,Value.int IntKind.i64 0,Value.bool false] 26) = w2 from HW2.out];refine (BU (cd:=cd) (cm:=cm) HV.out hcl HB2.out HR.out).mono ?_;rintro x w3 ⟨rfl,hb3⟩;have HX3:=As hb3;have HB3:=As (bj HB2.out hb3);have hp:=HP2.out.up hb3;have HP3:=As hp;have y0:=hp.c0;have y1:=hp.c1;have y2:=hp.c2;have y3:=hp.c3;have y4:=hp.c4;have f0:=hp.frz 0;have f1:=hp.frz 1;have f2:=hp.frz 2;have f3:=hp.frz 3;have f4:=hp.frz 4;clear hp;replace x0:=bc hb3 x0;replace x1:=bc hb3 x1;replace x2:=bc hb3 x2;replace x3:=bc hb3 x3;replace x4:=bc hb3 x4;clear hb3)
  obtain ⟨z0,z1,z2,z3,z4⟩:=HP3.out.empty
  have hz:=HZ2.out
  exact bodyPost_ret (v:=.tuple #[zEv, .bool false]) (by simp [results,Tryz.results29,go_sem,z0,z1,z2,z3,z4]) rfl ⟨_,_,_,rfl,Hz _ _,Aj (g:=w.heap.size + 1) HB3.out (by omega) zE _ _ _⟩
 have HDN:=As hdn
 rw [hdn] at x4
 clear hdn
 cases hpg : inB page 0 4
 ·rw [show Il e page = (zE,false) by rw [Il,if_neg (by rw [hpg];simp)]]
  have HPG:=As hpg
  clear hpg
  go_enter Tryz.func29,Tryz.ntmps29
  go_wp2_with (first
   | (go_at_call 16;rw [show (w.alloc (Obj.cells #[Value.slice Ad e.disk.length cd,Value.slice Am e.mem.length cm,Value.slice Al e.log.length cl,Value.int IntKind.i64 e.safe,Value.bool e.down] 26)).alloc (Obj.cells #[Value.slice none 0 0,Value.slice none 0 0,Value.slice none 0 0,Value.int IntKind.i64 0,Value.bool false] 26) = w2 from HW2.out];refine (BU (cd:=cd) (cm:=cm) HV.out hcl HB2.out HR.out).mono ?_;rintro x w3 ⟨rfl,hb3⟩;have HX3:=As hb3;have HB3:=As (bj HB2.out hb3);have hp:=HP2.out.up hb3;have HP3:=As hp;have y0:=hp.c0;have y1:=hp.c1;have y2:=hp.c2;have y3:=hp.c3;have y4:=hp.c4;have f0:=hp.frz 0;have f1:=hp.frz 1;have f2:=hp.frz 2;have f3:=hp.frz 3;have f4:=hp.frz 4;clear hp;replace x0:=bc hb3 x0;replace x1:=bc hb3 x1;replace x2:=bc hb3 x2;replace x3:=bc hb3 x3;replace x4:=bc hb3 x4;clear hb3)
   | (go_at_call 63;refine (BQ _ _).mono ?_;rw [HPG.out];rintro x w' ⟨rfl,rfl⟩))
  obtain ⟨z0,z1,z2,z3,z4⟩:=HP3.out.empty
  have hz:=HZ2.out
  exact bodyPost_ret (v:=.tuple #[zEv, .bool false]) (by simp [results,Tryz.results29,go_sem,z0,z1,z2,z3,z4]) rfl ⟨_,_,_,rfl,Hz _ _,Aj (g:=w.heap.size + 1) HB3.out (by omega) zE _ _ _⟩
 ·have HPG:=As hpg
  rw [CU] at hpg
  obtain ⟨p,rfl⟩ : ∃ p : Nat,page = (p : Int):=⟨page.toNat,by omega⟩
  have HP5 : A7 (p < 5):=⟨by omega⟩
  obtain ⟨X,hX⟩ : ∃ X,Cj e p = X:=⟨_,rfl⟩
  have HXX:=As hX
  rw [show Il e (p : Int) = (X,true) by rw [Il,if_pos ⟨HDN.out,HPG.out⟩,Int.toNat_natCast,hX]]
  clear hpg hX
  go_enter Tryz.func29,Tryz.ntmps29
  go_wp2_with (first
   | (go_at_call 16;rw [show (w.alloc (Obj.cells #[Value.slice Ad e.disk.length cd,Value.slice Am e.mem.length cm,Value.slice Al e.log.length cl,Value.int IntKind.i64 e.safe,Value.bool e.down] 26)).alloc (Obj.cells #[Value.slice none 0 0,Value.slice none 0 0,Value.slice none 0 0,Value.int IntKind.i64 0,Value.bool false] 26) = w2 from HW2.out];refine (BU (cd:=cd) (cm:=cm) HV.out hcl HB2.out HR.out).mono ?_;rintro x w3 ⟨rfl,hb3⟩;have HX3:=As hb3;replace x0:=bc hb3 x0;replace x1:=bc hb3 x1;replace x2:=bc hb3 x2;replace x3:=bc hb3 x3;replace x4:=bc hb3 x4;clear hb3)
   | (go_at_call 63;refine (BQ _ _).mono ?_;rw [HPG.out];rintro x w' ⟨rfl,rfl⟩)
   | (go_at_call 47;refine (Lu (cd:=cd) (cm:=cm) (cl:=cl) HDN.out (AZ HF.out.disk) (AZ HF.out.mem) HLG.out (bj HB2.out HX3.out) HR.out).mono ?_;rintro x w4 ⟨vd,vm,vl,rfl,ho,hb4⟩;obtain ⟨Bd,dd,Bm,dm,Bl,dl,rfl,rfl,rfl, -,hc⟩:=ho.reads;have HO4:=As ho;have HC4:=As hc;have HX4:=As hb4;clear ho hb4 hc x0 x1 x2 x3 x4)
   | (refine Ca (vd:=.slice Bd e.disk.length dd) (vm:=.slice Bm e.mem.length dm) (vl:=.slice Bl e.log.length dl) e ?_;intro w5 hb5 _ hq5;have q0:=hq5.c0;have q1:=hq5.c1;have q2:=hq5.c2;have q3:=hq5.c3;have q4:=hq5.c4;have HQ5:=As hq5;have HO5:=As (HO4.out.below hb5);have HX5:=As (bj HX4.out hb5);have HGE:=As HX4.out.size;clear hb5 hq5)
   | (go_at_call 64;refine (PO HP5.out (AZ HF.out.disk) (AZ HF.out.mem) HX5.out HGE.out HQ5.out HO5.out).mono ?_;rw [HXX.out];rintro x w7 ⟨⟨v,rfl⟩,hq7,ho7,hb7, -⟩;obtain ⟨Ed,n1,Em,n2,El,n3,ed,em,el, -, -⟩:=ho7.reads;rw [ed,em,el] at hq7 ho7;have HO7:=As ho7;have HX7:=As hb7;clear q0 q1 q2 q3 q4;have q0:=hq7.c0;have q1:=hq7.c1;have q2:=hq7.c2;have q3:=hq7.c3;have q4:=hq7.c4;have hp:=HP2.out.up (bj HX3.out HX7.out);have HP7:=As hp;have y0:=hp.c0;have y1:=hp.c1;have y2:=hp.c2;have y3:=hp.c3;have y4:=hp.c4;have f0:=hp.frz 0;have f1:=hp.frz 1;have f2:=hp.frz 2;have f3:=hp.frz 3;have f4:=hp.frz 4;clear hp;clear hq7 ho7 hb7))
  have hz:=HZ2.out
  have hn3:=HX3.out.size
  have hy:=HP7.out.Ap X (.slice Ed X.disk.length n1) (.slice Em X.mem.length n2) (.slice El X.log.length n3)
  have h1:=HO7.out.Ap (f:=X) (xd:=.slice Ed X.disk.length n1) (xm:=.slice Em X.mem.length n2) (xl:=.slice El X.log.length n3) HP7.out
  have h2:=Aj (g:=w.heap.size + 1) (bj HB2.out (bj HX3.out HX7.out)) (by omega) X (.slice Ed X.disk.length n1) (.slice Em X.mem.length n2) (.slice El X.log.length n3)
  have z0:=hy.c0
  have z1:=hy.c1
  have z2:=hy.c2
  have z3:=hy.c3
  have z4:=hy.c4
  exact bodyPost_ret (v:=.tuple #[X.ag (.slice Ed X.disk.length n1) (.slice Em X.mem.length n2) (.slice El X.log.length n3), .bool true]) (by simp [results,Tryz.results29,go_sem,z0,z1,z2,z3,z4]) rfl ⟨_,_,_,rfl,h1.lower (by omega),h2⟩
def Ki (e : Eng) : Eng × Bool:=if e.down = false then (DV e,true) else (zE,false)
set_option maxRecDepth 100000 in
set_option maxHeartbeats 16000000 in
theorem Ty {w0 w : World} {e : Eng} {Ad Am Al : Option Addr} {cd cm cl : Nat} (hok : eOk e = true) (hcl : e.log.length ≤ cl) (hb : Below w0.heap.size w0 w) (hr : Ff w0 e Ad Am Al) : Calls Tryz.prog 19 #[e.val Ad Am Al cd cm cl] w (OL w (Ki e).1 (Ki e).2):=by
 have HR:=As (hr.up hb)
 have HV:=As hok
 have HF:=As (Ct.1 hok)
 have HLG:=As (BA HF.out.log)
 clear hr hb hok
 obtain ⟨w1,hw1⟩ : ∃ w1,w.alloc (e.obox (.slice Ad e.disk.length cd) (.slice Am e.mem.length cm) (.slice Al e.log.length cl)) = w1:=⟨_,rfl⟩
 obtain ⟨w2,hw2⟩ : ∃ w2,w1.alloc (zE.obox (.slice none 0 0) (.slice none 0 0) (.slice none 0 0)) = w2:=⟨_,rfl⟩
 have hz1 : w1.heap.size = w.heap.size + 1:=by rw [← hw1];exact BD _ _
 have hz2 : w2.heap.size = w.heap.size + 2:=by rw [← hw2,BD,hz1]
 have hb12 : Below w1.heap.size w1 w2:=by rw [← hw2];exact Aa (Below.refl _ _) _
 have HB2 : A7 (Below w.heap.size w w2):=⟨by rw [← hw2, ← hw1];exact Aa (Aa (Below.refl _ _) _) _⟩
 have HQ2 : A7 (Ab w2 w.heap.size e (.slice Ad e.disk.length cd) (.slice Am e.mem.length cm) (.slice Al e.log.length cl)):=⟨Ab.up (by rw [← hw1];exact Ab.mk1 _ _ _ _ _) hb12⟩
 have HP2 : A7 (Ab w2 (w.heap.size + 1) zE (.slice none 0 0) (.slice none 0 0) (.slice none 0 0)):=⟨by rw [← hw2, ← hz1];exact Ab.mk1 _ _ _ _ _⟩
 have HW2 : A7 ((w.alloc (e.obox (.slice Ad e.disk.length cd) (.slice Am e.mem.length cm) (.slice Al e.log.length cl))).alloc (zE.obox (.slice none 0 0) (.slice none 0 0) (.slice none 0 0)) = w2):=⟨by rw [hw1,hw2]⟩
 have HZ2:=As hz2
 clear hw1 hw2 hz1 hz2 hb12
 have x0:=HQ2.out.c0
 have x1:=HQ2.out.c1
 have x2:=HQ2.out.c2
 have x3:=HQ2.out.c3
 have x4:=HQ2.out.c4
 cases hdn : e.down
 rotate_left
 ·rw [show Ki e = (zE,false) by rw [Ki,if_neg (by rw [hdn];simp)]]
  rw [hdn] at x4
  clear hdn
  go_enter Tryz.func19,Tryz.ntmps19
  go_wp2_with (go_at_call 16;rw [show (w.alloc (Obj.cells #[Value.slice Ad e.disk.length cd,Value.slice Am e.mem.length cm,Value.slice Al e.log.length cl,Value.int IntKind.i64 e.safe,Value.bool e.down] 26)).alloc (Obj.cells #[Value.slice none 0 0,Value.slice none 0 0,Value.slice none 0 0,Value.int IntKind.i64 0,Value.bool false] 26) = w2 from HW2.out];refine (BU (cd:=cd) (cm:=cm) HV.out hcl HB2.out HR.out).mono ?_;rintro x w3 ⟨rfl,hb3⟩;have HX3:=As hb3;have HB3:=As (bj HB2.out hb3);have hp:=HP2.out.up hb3;have HP3:=As hp;have y0:=hp.c0;have y1:=hp.c1;have y2:=hp.c2;have y3:=hp.c3;have y4:=hp.c4;have f0:=hp.frz 0;have f1:=hp.frz 1;have f2:=hp.frz 2;have f3:=hp.frz 3;have f4:=hp.frz 4;clear hp;replace x0:=bc hb3 x0;replace x1:=bc hb3 x1;replace x2:=bc hb3 x2;replace x3:=bc hb3 x3;replace x4:=bc hb3 x4;clear hb3)
  obtain ⟨z0,z1,z2,z3,z4⟩:=HP3.out.empty
  have hz:=HZ2.out
  exact bodyPost_ret (v:=.tuple #[zEv, .bool false]) (by simp [results,Tryz.results19,go_sem,z0,z1,z2,z3,z4]) rfl ⟨_,_,_,rfl,Hz _ _,Aj (g:=w.heap.size + 1) HB3.out (by omega) zE _ _ _⟩
 have HDN:=As hdn
 rw [hdn] at x4
 rw [show Ki e = (DV e,true) by rw [Ki,if_pos hdn]]
 clear hdn
 go_enter Tryz.func19,Tryz.ntmps19
 go_wp2_with (first
  | (go_at_call 16;rw [show (w.alloc (Obj.cells #[Value.slice Ad e.disk.length cd,Value.slice Am e.mem.length cm,Value.slice Al e.log.length cl,Value.int IntKind.i64 e.safe,Value.bool e.down] 26)).alloc (Obj.cells #[Value.slice none 0 0,Value.slice none 0 0,Value.slice none 0 0,Value.int IntKind.i64 0,Value.bool false] 26) = w2 from HW2.out];refine (BU (cd:=cd) (cm:=cm) HV.out hcl HB2.out HR.out).mono ?_;rintro x w3 ⟨rfl,hb3⟩;have HX3:=As hb3;replace x0:=bc hb3 x0;replace x1:=bc hb3 x1;replace x2:=bc hb3 x2;replace x3:=bc hb3 x3;replace x4:=bc hb3 x4;clear hb3)
  | (go_at_call 47;refine (Lu (cd:=cd) (cm:=cm) (cl:=cl) HDN.out (AZ HF.out.disk) (AZ HF.out.mem) HLG.out (bj HB2.out HX3.out) HR.out).mono ?_;rintro x w4 ⟨vd,vm,vl,rfl,ho,hb4⟩;obtain ⟨Bd,dd,Bm,dm,Bl,dl,rfl,rfl,rfl, -,hc⟩:=ho.reads;have HO4:=As ho;have HC4:=As hc;have HX4:=As hb4;clear ho hb4 hc x0 x1 x2 x3 x4)
  | (refine Ca (vd:=.slice Bd e.disk.length dd) (vm:=.slice Bm e.mem.length dm) (vl:=.slice Bl e.log.length dl) e ?_;intro w5 hb5 hz5 hq5;have q0:=hq5.c0;have q1:=hq5.c1;have q2:=hq5.c2;have q3:=hq5.c3;have q4:=hq5.c4;have g3:=hq5.frz 3;have HQ5:=As hq5;have HO5:=As (HO4.out.below hb5);have HX5:=As (bj HX4.out hb5);have HGE:=As HX4.out.size;have hne1 : ¬ w4.heap.size = w.heap.size + 1:=(by have:=HZ2.out;have:=HX3.out.size;have:=HGE.out;omega);have hne2 : ¬ w.heap.size + 1 = w4.heap.size:=fun e => hne1 e.symm;have hp:=HP2.out.up (bj HX3.out HX5.out);have HP7:=As hp;have y0:=hp.c0;have y1:=hp.c1;have y2:=hp.c2;have y3:=hp.c3;have y4:=hp.c4;have f0:=hp.frz 0;have f1:=hp.frz 1;have f2:=hp.frz 2;have f3:=hp.frz 3;have f4:=hp.frz 4;clear hp;clear hb5 hq5 hz5))
 have HO7 : A7 (Aw (w5.setCell ⟨w4.heap.size,3,none⟩ (.int .i64 (e.log.length : Int))) w3.heap.size (.slice Bd e.disk.length dd) (.slice Bm e.mem.length dm) (.slice Bl e.log.length dl) e):=⟨HO5.out.Dy HQ5.out 3 _⟩
 have p1:=HP7.out.far (b:=w4.heap.size) (by omega) 3 (.int .i64 (e.log.length : Int))
 have b1:=(bj HB2.out (bj HX3.out HX5.out)).setCell (p:=⟨w4.heap.size,3,none⟩) (by show w.heap.size ≤ w4.heap.size;have:=HZ2.out;have:=HX3.out.size;have:=HGE.out;omega) (.int .i64 (e.log.length : Int))
 have hz:=HZ2.out
 have hn3:=HX3.out.size
 have hy:=p1.Ap (DV e) (.slice Bd e.disk.length dd) (.slice Bm e.mem.length dm) (.slice Bl e.log.length dl)
 have h1:=HO7.out.Ap (f:=DV e) (xd:=.slice Bd e.disk.length dd) (xm:=.slice Bm e.mem.length dm) (xl:=.slice Bl e.log.length dl) p1
 have h2:=Aj (g:=w.heap.size + 1) b1 (by omega) (DV e) (.slice Bd e.disk.length dd) (.slice Bm e.mem.length dm) (.slice Bl e.log.length dl)
 have z0:=hy.c0
 have z1:=hy.c1
 have z2:=hy.c2
 have z3:=hy.c3
 have z4:=hy.c4
 simp only [DV] at z0 z1 z2 z3 z4 h2
 exact bodyPost_ret (v:=.tuple #[(DV e).ag (.slice Bd e.disk.length dd) (.slice Bm e.mem.length dm) (.slice Bl e.log.length dl), .bool true]) (by simp [results,Tryz.results19,go_sem,z0,z1,z2,z3,z4,DV]) rfl ⟨_,_,_,rfl,Aw.lower ⟨h1.ex,h1.l⟩ (by omega),h2⟩
abbrev Evt.val (v : Evt) (A : Option Addr) (c : Nat) : Value:=.agg #[.int .i64 v.kind, .int .i64 v.tx, .int .i64 v.page, .int .i64 v.slot, .int .i64 v.n, .slice A v.vals.length c]
def EvBox (w : World) (g : Nat) (v : Evt) (A : Option Addr) (c : Nat) : Prop:=w.heap[g]? = some (.cells #[.int .i64 v.kind, .int .i64 v.tx, .int .i64 v.page, .int .i64 v.slot, .int .i64 v.n, .slice A v.vals.length c] 114 (0,0))
section
variable {w w1 : World} {g c : Nat} {v : Evt} {A : Option Addr}
theorem EvBox.c0 (h : EvBox w g v A c) : w.cell? ⟨g,0,none⟩ = some (.int .i64 v.kind):=by unfold EvBox at h;simp [World.cell?,h]
theorem EvBox.c1 (h : EvBox w g v A c) : w.cell? ⟨g,1,none⟩ = some (.int .i64 v.tx):=by unfold EvBox at h;simp [World.cell?,h]
theorem EvBox.c2 (h : EvBox w g v A c) : w.cell? ⟨g,2,none⟩ = some (.int .i64 v.page):=by unfold EvBox at h;simp [World.cell?,h]
theorem EvBox.c3 (h : EvBox w g v A c) : w.cell? ⟨g,3,none⟩ = some (.int .i64 v.slot):=by unfold EvBox at h;simp [World.cell?,h]
theorem EvBox.c4 (h : EvBox w g v A c) : w.cell? ⟨g,4,none⟩ = some (.int .i64 v.n):=by unfold EvBox at h;simp [World.cell?,h]
theorem EvBox.c5 (h : EvBox w g v A c) : w.cell? ⟨g,5,none⟩ = some (.slice A v.vals.length c):=by unfold EvBox at h;simp [World.cell?,h]
theorem EvBox.lt (h : EvBox w g v A c) : g < w.heap.size:=(Array.getElem?_eq_some_iff.1 h).1
theorem EvBox.up (h : EvBox w g v A c) (hb : Below w.heap.size w w1) : EvBox w1 g v A c:=(hb.block g h.lt).trans h
end
theorem EvBox.mk1 (w : World) (v : Evt) (A : Option Addr) (c : Nat) : EvBox (w.alloc (.cells #[.int .i64 v.kind, .int .i64 v.tx, .int .i64 v.page, .int .i64 v.slot, .int .i64 v.n, .slice A v.vals.length c] 114)) w.heap.size v A c:=by
 show (w.heap.push _)[w.heap.size]? = _
 simp
theorem MU {P : Program} {ops : Array Oper} {l : List Oper} {Q : Exit → Act → World → Prop} {a : Act} {w : World} (v : Evt) {A : Option Addr} {c : Nat} (h : ∀ w1,Below w.heap.size w w1 → w1.heap.size = w.heap.size + 1 → EvBox w1 w.heap.size v A c → wpList P ops Q l a w1) : wpList P ops Q l a (w.alloc (.cells #[.int .i64 v.kind, .int .i64 v.tx, .int .i64 v.page, .int .i64 v.slot, .int .i64 v.n, .slice A v.vals.length c] 114)):=h _ ((Below.refl _ _).alloc (Nat.le_refl _) _) (BD _ _) (EvBox.mk1 _ _ _ _)
end Go.Proofs.YtjeodgfkilhkhaaGreat
