/- A part of the proof: what the last text of the claim says leans on this one. -/
import Derived.Test.YtofgeajaajfiaaaGreatZV1
import Derived.Test.YtofgeajaajfiaaaGreatZP1
import Derived.Test.YtofgeajaajfiaaaGreatZA2
import Derived.Test.YtofgeajaajfiaaaGreatZV2
set_option linter.unusedVariables false
set_option linter.unusedSimpArgs false
namespace Go.Proofs.YtofgeajaajfiaaaGreat
open Go.RowKit Go.Proofs.YtofgeajaajfiaaaGreatW.PrintWords Go.Proofs.YtofgeajaajfiaaaGreatW.PrintLast Go.Proofs.YtofgeajaajfiaaaGreatW.PrintMore
set_option maxRecDepth 100000 in
set_option maxHeartbeats 16000000 in
theorem JZ {w0 w : World} {e : Eng} {Ad Am Al : Option Addr} {cd cm cl : Nat} (tx page : Int) {p6 p7 p8 p9 : Value} {b : Bool} {X : Eng} (hok : eOk e = true) (hcl : e.log.length ≤ cl) (hb : Below w0.heap.size w0 w) (hr : DC w0 e Ad Am Al)
  (hh : DR e tx page = true → ∀ wb wx g,Below w.heap.size w wb → BR wb wx g e → Calls Tryz.prog 55 #[ptr g,p7,p8,p9] wx fun x w' => x = .returned (.bool b) ∧ Below wx.heap.size wx w')
  (hw : DR e tx page = true → b = true → ∀ wb wx g,Below w.heap.size w wb → BR wb wx g e → Calls Tryz.prog 56 #[ptr g,p6,p7,p8,p9] wx (IK wb g X))
  (hX : DR e tx page = true → b = true → AB X.log = true) : Calls Tryz.prog 52 #[e.val Ad Am Al cd cm cl, .int .i64 tx, .int .i64 page, .func (.func 55) #[] #[p7,p8,p9], .func (.func 56) #[] #[p6,p7,p8,p9]] w (D9 w (Bp e (DR e tx page && b) X).1 (Bp e (DR e tx page && b) X).2):=by
 have HR:=As (hr.up hb)
 have HH:=As hh
 have HW:=As hw
 have HLX:=As hX
 have HV:=As hok
 have HF:=As (Fv.1 hok)
 have HLG:=As (Bo HF.out.log)
 clear hr hb hh hw hX hok
 obtain ⟨w1,hw1⟩ : ∃ w1,w.alloc (e.obox (.slice Ad e.disk.length cd) (.slice Am e.mem.length cm) (.slice Al e.log.length cl)) = w1:=⟨_,rfl⟩
 obtain ⟨w2,hw2⟩ : ∃ w2,w1.alloc (zE.obox (.slice none 0 0) (.slice none 0 0) (.slice none 0 0)) = w2:=⟨_,rfl⟩
 have hz1 : w1.heap.size = w.heap.size + 1:=by rw [← hw1];exact BJ _ _
 have hz2 : w2.heap.size = w.heap.size + 2:=by rw [← hw2,BJ,hz1]
 have hb12 : Below w1.heap.size w1 w2:=by rw [← hw2];exact Ab (Below.refl _ _) _
 have HB2 : Aa (Below w.heap.size w w2):=⟨by rw [← hw2, ← hw1];exact Ab (Ab (Below.refl _ _) _) _⟩
 have HQ2 : Aa (Ac w2 w.heap.size e (.slice Ad e.disk.length cd) (.slice Am e.mem.length cm) (.slice Al e.log.length cl)):=⟨Ac.up (by rw [← hw1];exact Ac.mk1 _ _ _ _ _) hb12⟩
 have HP2 : Aa (Ac w2 (w.heap.size + 1) zE (.slice none 0 0) (.slice none 0 0) (.slice none 0 0)):=⟨by rw [← hw2, ← hz1];exact Ac.mk1 _ _ _ _ _⟩
 have HW2 : Aa ((w.alloc (e.obox (.slice Ad e.disk.length cd) (.slice Am e.mem.length cm) (.slice Al e.log.length cl))).alloc (zE.obox (.slice none 0 0) (.slice none 0 0) (.slice none 0 0)) = w2):=⟨by rw [hw1,hw2]⟩
 have HZ2:=As hz2
 clear hw1 hw2 hz1 hz2 hb12
 have x0:=HQ2.out.c0
 have x1:=HQ2.out.c1
 have x2:=HQ2.out.c2
 have x3:=HQ2.out.c3
 have x4:=HQ2.out.c4
 cases hm : DR e tx page
 ·have HM:=As hm
  rw [show Bp e (false && b) X = (e,false) by rw [Bp,if_neg (by simp)]]
  clear hm
  go_enter Tryz.func52,Tryz.ntmps52
  go_wp2_with (first
   | (go_at_call 43;rw [show (w.alloc (Obj.cells #[Value.slice Ad e.disk.length cd,Value.slice Am e.mem.length cm,Value.slice Al e.log.length cl,Value.int IntKind.i64 e.safe,Value.bool e.down] 28)).alloc (Obj.cells #[Value.slice none 0 0,Value.slice none 0 0,Value.slice none 0 0,Value.int IntKind.i64 0,Value.bool false] 28) = w2 from HW2.out];refine (Aw (cd:=cd) (cm:=cm) HV.out hcl HB2.out HR.out).mono ?_;rintro x w3 ⟨rfl,hb3⟩;have HX3:=As hb3;replace x0:=bc hb3 x0;replace x1:=bc hb3 x1;replace x2:=bc hb3 x2;replace x3:=bc hb3 x3;replace x4:=bc hb3 x4;clear hb3)
   | (go_at_call 45;refine (AP (cd:=cd) (cm:=cm) (cl:=cl) (Ak HF.out.disk) (Ak HF.out.mem) HLG.out (bj HB2.out HX3.out) HR.out).mono ?_;rintro x w4 ⟨vd,vm,vl,rfl,ho,hb4⟩;obtain ⟨Bd,dd,Bm,dm,Bl,dl,rfl,rfl,rfl, -, -⟩:=ho.reads;have HO4:=As ho;have HX4:=As hb4;replace x0:=bc hb4 x0;replace x1:=bc hb4 x1;replace x2:=bc hb4 x2;replace x3:=bc hb4 x3;replace x4:=bc hb4 x4;clear ho hb4)
   | (refine Ag (vd:=.slice Bd e.disk.length dd) (vm:=.slice Bm e.mem.length dm) (vl:=.slice Bl e.log.length dl) e ?_;intro w5 hb5 _ hq5;have HG5 : Aa (BR w3 w5 w4.heap.size e):=⟨⟨⟨_,_,_,hq5,HO4.out.below hb5⟩,bj HX4.out hb5,HX4.out.size⟩⟩;replace x0:=bc hb5 x0;replace x1:=bc hb5 x1;replace x2:=bc hb5 x2;replace x3:=bc hb5 x3;replace x4:=bc hb5 x4;clear hb5 hq5)
   | (go_at_call 103;refine (DV tx page HF.out.log HG5.out).mono ?_;rw [HM.out];rintro x w6 ⟨rfl,hb6⟩;have HG6:=As (HG5.out.up hb6);replace x0:=bc hb6 x0;replace x1:=bc hb6 x1;replace x2:=bc hb6 x2;replace x3:=bc hb6 x3;replace x4:=bc hb6 x4;clear hb6;clear x0 x1 x2 x3 x4;obtain ⟨ud,um,ul,hq,ho⟩:=HG6.out.ex;obtain ⟨Ed,n1,Em,n2,El,n3,rfl,rfl,rfl, -, -⟩:=ho.reads;have HO7:=As ho;have q0:=hq.c0;have q1:=hq.c1;have q2:=hq.c2;have q3:=hq.c3;have q4:=hq.c4;have hx2:=bj HX3.out HG6.out.bel;have HX7:=As HG6.out.bel;have hp:=HP2.out.up hx2;have HP7:=As hp;have y0:=hp.c0;have y1:=hp.c1;have y2:=hp.c2;have y3:=hp.c3;have y4:=hp.c4;have f0:=hp.frz 0;have f1:=hp.frz 1;have f2:=hp.frz 2;have f3:=hp.frz 3;have f4:=hp.frz 4;clear hp;clear hq ho hx2))
  have hz:=HZ2.out
  have hn3:=HX3.out.size
  have hy:=HP7.out.Ao e (.slice Ed e.disk.length n1) (.slice Em e.mem.length n2) (.slice El e.log.length n3)
  have h1:=HO7.out.Ao (f:=e) (xd:=.slice Ed e.disk.length n1) (xm:=.slice Em e.mem.length n2) (xl:=.slice El e.log.length n3) HP7.out
  have h2:=Ah (g:=w.heap.size + 1) (bj HB2.out (bj HX3.out HX7.out)) (by omega) e (.slice Ed e.disk.length n1) (.slice Em e.mem.length n2) (.slice El e.log.length n3)
  have z0:=hy.c0
  have z1:=hy.c1
  have z2:=hy.c2
  have z3:=hy.c3
  have z4:=hy.c4
  exact bodyPost_ret (v:=.tuple #[e.ag (.slice Ed e.disk.length n1) (.slice Em e.mem.length n2) (.slice El e.log.length n3), .bool false]) (by simp [results,Tryz.results52,go_sem,z0,z1,z2,z3,z4]) rfl ⟨_,_,_,rfl,h1.lower (by omega),h2⟩
 ·have HM:=As hm
  clear hm
  cases b
  ·rw [show Bp e (true && false) X = (e,false) by rw [Bp,if_neg (by simp)]]
   go_enter Tryz.func52,Tryz.ntmps52
   go_wp2_with (first
    | (go_at_call 43;rw [show (w.alloc (Obj.cells #[Value.slice Ad e.disk.length cd,Value.slice Am e.mem.length cm,Value.slice Al e.log.length cl,Value.int IntKind.i64 e.safe,Value.bool e.down] 28)).alloc (Obj.cells #[Value.slice none 0 0,Value.slice none 0 0,Value.slice none 0 0,Value.int IntKind.i64 0,Value.bool false] 28) = w2 from HW2.out];refine (Aw (cd:=cd) (cm:=cm) HV.out hcl HB2.out HR.out).mono ?_;rintro x w3 ⟨rfl,hb3⟩;have HX3:=As hb3;replace x0:=bc hb3 x0;replace x1:=bc hb3 x1;replace x2:=bc hb3 x2;replace x3:=bc hb3 x3;replace x4:=bc hb3 x4;clear hb3)
    | (go_at_call 45;refine (AP (cd:=cd) (cm:=cm) (cl:=cl) (Ak HF.out.disk) (Ak HF.out.mem) HLG.out (bj HB2.out HX3.out) HR.out).mono ?_;rintro x w4 ⟨vd,vm,vl,rfl,ho,hb4⟩;obtain ⟨Bd,dd,Bm,dm,Bl,dl,rfl,rfl,rfl, -, -⟩:=ho.reads;have HO4:=As ho;have HX4:=As hb4;replace x0:=bc hb4 x0;replace x1:=bc hb4 x1;replace x2:=bc hb4 x2;replace x3:=bc hb4 x3;replace x4:=bc hb4 x4;clear ho hb4)
    | (refine Ag (vd:=.slice Bd e.disk.length dd) (vm:=.slice Bm e.mem.length dm) (vl:=.slice Bl e.log.length dl) e ?_;intro w5 hb5 _ hq5;have HG5 : Aa (BR w3 w5 w4.heap.size e):=⟨⟨⟨_,_,_,hq5,HO4.out.below hb5⟩,bj HX4.out hb5,HX4.out.size⟩⟩;replace x0:=bc hb5 x0;replace x1:=bc hb5 x1;replace x2:=bc hb5 x2;replace x3:=bc hb5 x3;replace x4:=bc hb5 x4;clear hb5 hq5)
    | (go_at_call 103;refine (DV tx page HF.out.log HG5.out).mono ?_;rw [HM.out];rintro x w6 ⟨rfl,hb6⟩;have HG6:=As (HG5.out.up hb6);replace x0:=bc hb6 x0;replace x1:=bc hb6 x1;replace x2:=bc hb6 x2;replace x3:=bc hb6 x3;replace x4:=bc hb6 x4;clear hb6)
    | (go_at_call 55;refine (HH.out HM.out w3 w6 w4.heap.size (bj HB2.out HX3.out) HG6.out).mono ?_;rintro x w7 ⟨rfl,hb7⟩;have HG7:=As (HG6.out.up hb7);replace x0:=bc hb7 x0;replace x1:=bc hb7 x1;replace x2:=bc hb7 x2;replace x3:=bc hb7 x3;replace x4:=bc hb7 x4;clear hb7;clear x0 x1 x2 x3 x4;obtain ⟨ud,um,ul,hq,ho⟩:=HG7.out.ex;obtain ⟨Ed,n1,Em,n2,El,n3,rfl,rfl,rfl, -, -⟩:=ho.reads;have HO7:=As ho;have q0:=hq.c0;have q1:=hq.c1;have q2:=hq.c2;have q3:=hq.c3;have q4:=hq.c4;have hx2:=bj HX3.out HG7.out.bel;have HX7:=As HG7.out.bel;have hp:=HP2.out.up hx2;have HP7:=As hp;have y0:=hp.c0;have y1:=hp.c1;have y2:=hp.c2;have y3:=hp.c3;have y4:=hp.c4;have f0:=hp.frz 0;have f1:=hp.frz 1;have f2:=hp.frz 2;have f3:=hp.frz 3;have f4:=hp.frz 4;clear hp;clear hq ho hx2))
   have hz:=HZ2.out
   have hn3:=HX3.out.size
   have hy:=HP7.out.Ao e (.slice Ed e.disk.length n1) (.slice Em e.mem.length n2) (.slice El e.log.length n3)
   have h1:=HO7.out.Ao (f:=e) (xd:=.slice Ed e.disk.length n1) (xm:=.slice Em e.mem.length n2) (xl:=.slice El e.log.length n3) HP7.out
   have h2:=Ah (g:=w.heap.size + 1) (bj HB2.out (bj HX3.out HX7.out)) (by omega) e (.slice Ed e.disk.length n1) (.slice Em e.mem.length n2) (.slice El e.log.length n3)
   have z0:=hy.c0
   have z1:=hy.c1
   have z2:=hy.c2
   have z3:=hy.c3
   have z4:=hy.c4
   exact bodyPost_ret (v:=.tuple #[e.ag (.slice Ed e.disk.length n1) (.slice Em e.mem.length n2) (.slice El e.log.length n3), .bool false]) (by simp [results,Tryz.results52,go_sem,z0,z1,z2,z3,z4]) rfl ⟨_,_,_,rfl,h1.lower (by omega),h2⟩
  ·cases hfx : Jj X.log
   all_goals have HFX:=As hfx;have HWW:=As (HW.out HM.out rfl);have HLL:=As (HLX.out HM.out rfl);clear HW HLX
   ·rw [show Bp e (true && true) X = (e,false) by rw [Bp,if_neg (by rw [hfx];simp)]]
    clear hfx
    go_enter Tryz.func52,Tryz.ntmps52
    go_wp2_with (first
     | (go_at_call 43;rw [show (w.alloc (Obj.cells #[Value.slice Ad e.disk.length cd,Value.slice Am e.mem.length cm,Value.slice Al e.log.length cl,Value.int IntKind.i64 e.safe,Value.bool e.down] 28)).alloc (Obj.cells #[Value.slice none 0 0,Value.slice none 0 0,Value.slice none 0 0,Value.int IntKind.i64 0,Value.bool false] 28) = w2 from HW2.out];refine (Aw (cd:=cd) (cm:=cm) HV.out hcl HB2.out HR.out).mono ?_;rintro x w3 ⟨rfl,hb3⟩;have HX3:=As hb3;replace x0:=bc hb3 x0;replace x1:=bc hb3 x1;replace x2:=bc hb3 x2;replace x3:=bc hb3 x3;replace x4:=bc hb3 x4;clear hb3)
     | (go_at_call 45;refine (AP (cd:=cd) (cm:=cm) (cl:=cl) (Ak HF.out.disk) (Ak HF.out.mem) HLG.out (bj HB2.out HX3.out) HR.out).mono ?_;rintro x w4 ⟨vd,vm,vl,rfl,ho,hb4⟩;obtain ⟨Bd,dd,Bm,dm,Bl,dl,rfl,rfl,rfl, -, -⟩:=ho.reads;have HO4:=As ho;have HX4:=As hb4;replace x0:=bc hb4 x0;replace x1:=bc hb4 x1;replace x2:=bc hb4 x2;replace x3:=bc hb4 x3;replace x4:=bc hb4 x4;clear ho hb4)
     | (refine Ag (vd:=.slice Bd e.disk.length dd) (vm:=.slice Bm e.mem.length dm) (vl:=.slice Bl e.log.length dl) e ?_;intro w5 hb5 _ hq5;have HG5 : Aa (BR w3 w5 w4.heap.size e):=⟨⟨⟨_,_,_,hq5,HO4.out.below hb5⟩,bj HX4.out hb5,HX4.out.size⟩⟩;replace x0:=bc hb5 x0;replace x1:=bc hb5 x1;replace x2:=bc hb5 x2;replace x3:=bc hb5 x3;replace x4:=bc hb5 x4;clear hb5 hq5)
     | (go_at_call 103;refine (DV tx page HF.out.log HG5.out).mono ?_;rw [HM.out];rintro x w6 ⟨rfl,hb6⟩;have HG6:=As (HG5.out.up hb6);replace x0:=bc hb6 x0;replace x1:=bc hb6 x1;replace x2:=bc hb6 x2;replace x3:=bc hb6 x3;replace x4:=bc hb6 x4;clear hb6)
     | (go_at_call 55;refine (HH.out HM.out w3 w6 w4.heap.size (bj HB2.out HX3.out) HG6.out).mono ?_;rintro x w7 ⟨rfl,hb7⟩;have HG7:=As (HG6.out.up hb7);replace x0:=bc hb7 x0;replace x1:=bc hb7 x1;replace x2:=bc hb7 x2;replace x3:=bc hb7 x3;replace x4:=bc hb7 x4;clear hb7)
     | (go_at_call 56;refine (HWW.out w3 w7 w4.heap.size (bj HB2.out HX3.out) HG7.out).mono ?_;rintro x w8 ⟨⟨v,rfl⟩,hg8⟩;obtain ⟨ud,um,ul,hq,ho⟩:=hg8.ex;obtain ⟨Ed,n1,Em,n2,El,n3,rfl,rfl,rfl, -,hc⟩:=ho.reads;have HO8:=As ho;have HC8:=As hc;have HX8:=As hg8.bel;have q0:=hq.c0;have q1:=hq.c1;have q2:=hq.c2;have q3:=hq.c3;have q4:=hq.c4;clear x0 x1 x2 x3 x4;have hq2:=HQ2.out.up (bj HX3.out hg8.bel);have x0:=hq2.c0;have x1:=hq2.c1;have x2:=hq2.c2;have x3:=hq2.c3;have x4:=hq2.c4;clear hq ho hc hq2 hg8)
     | (go_at_call 84;refine (Ep (w0:=w8) (c:=n3) (Below.refl _ _) HC8.out.l HLL.out).mono ?_;rw [HFX.out];rintro x w9 ⟨rfl,hb9⟩;replace x0:=bc hb9 x0;replace x1:=bc hb9 x1;replace x2:=bc hb9 x2;replace x3:=bc hb9 x3;replace x4:=bc hb9 x4;have HX9:=As (bj HX8.out hb9);clear q0 q1 q2 q3 q4 hb9)
     | (go_at_call 45;refine (AP (cd:=cd) (cm:=cm) (cl:=cl) (Ak HF.out.disk) (Ak HF.out.mem) HLG.out (bj HB2.out (bj HX3.out HX9.out)) HR.out).mono ?_;rintro x w10 ⟨vd,vm,vl,rfl,ho,hb10⟩;obtain ⟨Ed,n1,Em,n2,El,n3,rfl,rfl,rfl, -, -⟩:=ho.reads;have HO7:=As (ho.lower (b':=w3.heap.size) HX9.out.size);have HX7:=As (bj HX9.out hb10);clear x0 x1 x2 x3 x4 ho hb10;have hp:=HP2.out.up (bj HX3.out HX7.out);have HP7:=As hp;have y0:=hp.c0;have y1:=hp.c1;have y2:=hp.c2;have y3:=hp.c3;have y4:=hp.c4;have f0:=hp.frz 0;have f1:=hp.frz 1;have f2:=hp.frz 2;have f3:=hp.frz 3;have f4:=hp.frz 4;clear hp))
    have hz:=HZ2.out
    have hn3:=HX3.out.size
    have hy:=HP7.out.Ao e (.slice Ed e.disk.length n1) (.slice Em e.mem.length n2) (.slice El e.log.length n3)
    have h1:=HO7.out.Ao (f:=e) (xd:=.slice Ed e.disk.length n1) (xm:=.slice Em e.mem.length n2) (xl:=.slice El e.log.length n3) HP7.out
    have h2:=Ah (g:=w.heap.size + 1) (bj HB2.out (bj HX3.out HX7.out)) (by omega) e (.slice Ed e.disk.length n1) (.slice Em e.mem.length n2) (.slice El e.log.length n3)
    have z0:=hy.c0
    have z1:=hy.c1
    have z2:=hy.c2
    have z3:=hy.c3
    have z4:=hy.c4
    exact bodyPost_ret (v:=.tuple #[e.ag (.slice Ed e.disk.length n1) (.slice Em e.mem.length n2) (.slice El e.log.length n3), .bool false]) (by simp [results,Tryz.results52,go_sem,z0,z1,z2,z3,z4]) rfl ⟨_,_,_,rfl,h1.lower (by omega),h2⟩
   ·rw [show Bp e (true && true) X = (X,true) by rw [Bp,if_pos ⟨rfl,hfx⟩]]
    clear hfx
    go_enter Tryz.func52,Tryz.ntmps52
    go_wp2_with (first
     | (go_at_call 43;rw [show (w.alloc (Obj.cells #[Value.slice Ad e.disk.length cd,Value.slice Am e.mem.length cm,Value.slice Al e.log.length cl,Value.int IntKind.i64 e.safe,Value.bool e.down] 28)).alloc (Obj.cells #[Value.slice none 0 0,Value.slice none 0 0,Value.slice none 0 0,Value.int IntKind.i64 0,Value.bool false] 28) = w2 from HW2.out];refine (Aw (cd:=cd) (cm:=cm) HV.out hcl HB2.out HR.out).mono ?_;rintro x w3 ⟨rfl,hb3⟩;have HX3:=As hb3;replace x0:=bc hb3 x0;replace x1:=bc hb3 x1;replace x2:=bc hb3 x2;replace x3:=bc hb3 x3;replace x4:=bc hb3 x4;clear hb3)
     | (go_at_call 45;refine (AP (cd:=cd) (cm:=cm) (cl:=cl) (Ak HF.out.disk) (Ak HF.out.mem) HLG.out (bj HB2.out HX3.out) HR.out).mono ?_;rintro x w4 ⟨vd,vm,vl,rfl,ho,hb4⟩;obtain ⟨Bd,dd,Bm,dm,Bl,dl,rfl,rfl,rfl, -, -⟩:=ho.reads;have HO4:=As ho;have HX4:=As hb4;replace x0:=bc hb4 x0;replace x1:=bc hb4 x1;replace x2:=bc hb4 x2;replace x3:=bc hb4 x3;replace x4:=bc hb4 x4;clear ho hb4)
     | (refine Ag (vd:=.slice Bd e.disk.length dd) (vm:=.slice Bm e.mem.length dm) (vl:=.slice Bl e.log.length dl) e ?_;intro w5 hb5 _ hq5;have HG5 : Aa (BR w3 w5 w4.heap.size e):=⟨⟨⟨_,_,_,hq5,HO4.out.below hb5⟩,bj HX4.out hb5,HX4.out.size⟩⟩;replace x0:=bc hb5 x0;replace x1:=bc hb5 x1;replace x2:=bc hb5 x2;replace x3:=bc hb5 x3;replace x4:=bc hb5 x4;clear hb5 hq5)
     | (go_at_call 103;refine (DV tx page HF.out.log HG5.out).mono ?_;rw [HM.out];rintro x w6 ⟨rfl,hb6⟩;have HG6:=As (HG5.out.up hb6);replace x0:=bc hb6 x0;replace x1:=bc hb6 x1;replace x2:=bc hb6 x2;replace x3:=bc hb6 x3;replace x4:=bc hb6 x4;clear hb6)
     | (go_at_call 55;refine (HH.out HM.out w3 w6 w4.heap.size (bj HB2.out HX3.out) HG6.out).mono ?_;rintro x w7 ⟨rfl,hb7⟩;have HG7:=As (HG6.out.up hb7);replace x0:=bc hb7 x0;replace x1:=bc hb7 x1;replace x2:=bc hb7 x2;replace x3:=bc hb7 x3;replace x4:=bc hb7 x4;clear hb7)
     | (go_at_call 56;refine (HWW.out w3 w7 w4.heap.size (bj HB2.out HX3.out) HG7.out).mono ?_;rintro x w8 ⟨⟨v,rfl⟩,hg8⟩;obtain ⟨ud,um,ul,hq,ho⟩:=hg8.ex;obtain ⟨Ed,n1,Em,n2,El,n3,rfl,rfl,rfl, -,hc⟩:=ho.reads;have HO8:=As ho;have HC8:=As hc;have HX8:=As hg8.bel;have q0:=hq.c0;have q1:=hq.c1;have q2:=hq.c2;have q3:=hq.c3;have q4:=hq.c4;clear x0 x1 x2 x3 x4;have hq2:=HQ2.out.up (bj HX3.out hg8.bel);have x0:=hq2.c0;have x1:=hq2.c1;have x2:=hq2.c2;have x3:=hq2.c3;have x4:=hq2.c4;clear hq ho hc hq2 hg8)
     | (go_at_call 84;refine (Ep (w0:=w8) (c:=n3) (Below.refl _ _) HC8.out.l HLL.out).mono ?_;rw [HFX.out];rintro x w9 ⟨rfl,hb9⟩;replace q0:=bc hb9 q0;replace q1:=bc hb9 q1;replace q2:=bc hb9 q2;replace q3:=bc hb9 q3;replace q4:=bc hb9 q4;clear x0 x1 x2 x3 x4;have HX7:=As (bj HX8.out hb9);have HO7:=As (HO8.out.below hb9);have hp:=HP2.out.up (bj HX3.out HX7.out);have HP7:=As hp;have y0:=hp.c0;have y1:=hp.c1;have y2:=hp.c2;have y3:=hp.c3;have y4:=hp.c4;have f0:=hp.frz 0;have f1:=hp.frz 1;have f2:=hp.frz 2;have f3:=hp.frz 3;have f4:=hp.frz 4;clear hp;clear hb9))
    have hz:=HZ2.out
    have hn3:=HX3.out.size
    have hy:=HP7.out.Ao X (.slice Ed X.disk.length n1) (.slice Em X.mem.length n2) (.slice El X.log.length n3)
    have h1:=HO7.out.Ao (f:=X) (xd:=.slice Ed X.disk.length n1) (xm:=.slice Em X.mem.length n2) (xl:=.slice El X.log.length n3) HP7.out
    have h2:=Ah (g:=w.heap.size + 1) (bj HB2.out (bj HX3.out HX7.out)) (by omega) X (.slice Ed X.disk.length n1) (.slice Em X.mem.length n2) (.slice El X.log.length n3)
    have z0:=hy.c0
    have z1:=hy.c1
    have z2:=hy.c2
    have z3:=hy.c3
    have z4:=hy.c4
    exact bodyPost_ret (v:=.tuple #[X.ag (.slice Ed X.disk.length n1) (.slice Em X.mem.length n2) (.slice El X.log.length n3), .bool true]) (by simp [results,Tryz.results52,go_sem,z0,z1,z2,z3,z4]) rfl ⟨_,_,_,rfl,h1.lower (by omega),h2⟩
set_option maxRecDepth 100000 in
set_option maxHeartbeats 8000000 in
theorem Tt {w0 w : World} {g gp gs gv : Nat} {e : Eng} {p : Nat} {slot val : Int} (hp : p < 5) (hgm : geo e.mem) (h : BR w0 w g e) (bp : Co w gp (.int .i64 (p : Int)) 3) (bs : Co w gs (.int .i64 slot) 3) (bv : Co w gv (.int .i64 val) 3) : Calls Tryz.prog 55 #[ptr g,ptr gp,ptr gs,ptr gv] w fun x w' => x = .returned (.bool ((pg e.mem p).owner != 0 && (inB slot 0 2 && inB val 0 9))) ∧ Below w.heap.size w w':=by
 obtain ⟨⟨vd,vm,vl,hq,ho⟩, -, -⟩:=h
 obtain ⟨okd,okm, -, -,hpm⟩:=ho.ex
 have hg5:=hgm.1
 obtain ⟨gm,capm,rfl, -, -⟩:=Ci hpm (by omega)
 have hpl : p < e.mem.length:=by omega
 obtain ⟨A2,c2,p0,p1,p2, -, -⟩:=E5 hpm p hpl
 have hp5i : (p : Int) < 5:=by omega
 have x1:=hq.c1
 have y1:=bp.c0
 have y2:=bs.c0
 have y3:=bv.c0
 clear ho hpm hq bp bs bv hgm p0 p2
 cases h1 : inB slot 0 2
 all_goals cases h2 : inB val 0 9
 all_goals rcases BQ (pg e.mem p).owner 0 with ⟨e1,b1,c1⟩ | ⟨e1,b1,c1⟩
 all_goals
  have H1:=As h1
  have H2:=As h2
  clear h1 h2
  go_enter Tryz.func55,Tryz.ntmps55
  go_wp2
  refine Ba (fun w' => Below w.heap.size w w') rfl rfl (by kernel_rfl) (Af (Below.refl _ _)) (fun HT => ?_)
  repeat (first
   | (refine BO (fun wx hS => ?_))
   | ((with_reducible refine Bh (f:=50) rfl ?_);refine Bj (v:=.bool _) (args:=#[.int .i64 slot, .int .i64 0, .int .i64 2]) HT rfl Tryz.func50 (by kernel_rfl) rfl rfl (by rfl) (fun _ _ _ h => h) (by simp only [List.map_toArray,List.map_cons,List.map_nil];rfl) (fun wx hS => (Cn slot 0 2 wx).mono fun _ _ h => ⟨h.1.trans (congrArg (fun b => Ending.returned (Value.bool b)) H1.out),h.2 ▸ hS⟩) ?_;simp only [sc0,sc1])
   | ((with_reducible refine Bh (f:=50) rfl ?_);refine Bj (v:=.bool _) (args:=#[.int .i64 val, .int .i64 0, .int .i64 9]) HT rfl Tryz.func50 (by kernel_rfl) rfl rfl (by rfl) (fun _ _ _ h => h) (by simp only [List.map_toArray,List.map_cons,List.map_nil];rfl) (fun wx hS => (Cn val 0 9 wx).mono fun _ _ h => ⟨h.1.trans (congrArg (fun b => Ending.returned (Value.bool b)) H2.out),h.2 ▸ hS⟩) ?_;simp only [sc0,sc1])
   | (refine Bq HT rfl (by rfl) (fun _ _ _ h => h) ?_;simp only [sc0,sc1])
   | (refine BN (v:=?_) HT rfl (by rfl) (fun _ _ _ h => h) (fun wx hS => ?_) ?_;rotate_left;(have x1:=bc hS x1;have y1:=bc hS y1;have y2:=bc hS y2;have y3:=bc hS y3;have p1:=bc hS p1;go_simp;with_reducible rfl);rotate_left;simp only [sc0,sc1]))
  have HS:=As hS
  clear hS x1 y1 y2 y3 p1
  go_wp2
  go_ret
  exact ⟨Au (by simp [b1,c1]),HS.out⟩
set_option maxRecDepth 100000 in
set_option maxHeartbeats 8000000 in
theorem Tq {w0 w : World} {g gt gp gs gv : Nat} {e : Eng} {p s : Nat} {tx val : Int} (hp : p < 5) (hs : s < 3) (hgm : geo e.mem) (hl : e.log.length + 1 ≤ 150) (hdo : FR (pg e.mem p) (DN (Mq e tx (p : Int) (s : Int) val) (Ai e.log tx e.log.length)) (e.log.length + 1 : Nat) = true) (h : BR w0 w g e) (bt : Co w gt (.int .i64 tx) 3) (bp : Co w gp (.int .i64 (p : Int)) 3) (bs : Co w gs (.int .i64 (s : Int)) 3) (bv : Co w gv (.int .i64 val) 3) : Calls Tryz.prog 56 #[ptr g,ptr gt,ptr gp,ptr gs,ptr gv] w (IK w0 g (e.app (Mq e tx (p : Int) (s : Int) val))):=by
 have HG:=As h
 obtain ⟨⟨vd,vm,vl,hq,ho⟩, -, -⟩:=h
 obtain ⟨okd,okm, -, -,hpm⟩:=ho.ex
 have hg5:=hgm.1
 obtain ⟨gm,capm,rfl, -, -⟩:=Ci hpm (by omega)
 have hpl : p < e.mem.length:=by omega
 obtain ⟨A2,c2,p0,p1,p2,pC, -⟩:=E5 hpm p hpl
 have hv3 : (pg e.mem p).vals.length = 3:=FZ hgm hp
 have hsl : s < (pg e.mem p).vals.length:=by omega
 have hs3i : (s : Int) < 3:=by omega
 obtain ⟨ad,rfl,z0⟩:=Dj pC s hsl
 have hp5i : (p : Int) < 5:=by omega
 have x1:=hq.c1
 have y0:=bt.c0
 have y1:=bp.c0
 have y2:=bs.c0
 have y3:=bv.c0
 have HGM:=As hgm
 have HL:=As hl
 have HDO:=As hdo
 obtain ⟨r,hr⟩ : ∃ r,Mq e tx (p : Int) (s : Int) val = r:=⟨_,rfl⟩
 have HR:=As hr
 have HRV : Aa (r.val = .agg #[.int .i64 1, .int .i64 tx, .int .i64 (p : Int), .int .i64 (s : Int), .int .i64 (iv (pg e.mem p).vals s), .int .i64 val, .int .i64 0, .int .i64 0]):=⟨by rw [← hr];rfl⟩
 have HRT : Aa (r.tx = tx):=⟨by rw [← hr];rfl⟩
 have HRP : Aa (r.page = (p : Int)):=⟨by rw [← hr];rfl⟩
 have HCALL : Aa (∀ wx,Below w.heap.size w wx → Calls Tryz.prog 54 #[ptr g, .agg #[.int .i64 1, .int .i64 tx, .int .i64 (p : Int), .int .i64 (s : Int), .int .i64 (iv (pg e.mem p).vals s), .int .i64 val, .int .i64 0, .int .i64 0]] wx (IK w0 g (e.app r))):=⟨fun wx hb => by
  have h:=KL r HL.out HGM.out (by rw [HRP.out];omega) (by have:=HDO.out;rw [HR.out] at this;rw [HRP.out,HRT.out];simpa using this) (HG.out.up hb)
  rw [HRV.out] at h
  exact h⟩
 rw [hr]
 clear ho hpm hq bt bp bs bv hgm hl hdo hr hv3 p0 p1 pC HR HRV HRT HRP HDO HL HGM HG
 go_enter Tryz.func56,Tryz.ntmps56
 go_wp2
 refine AQ (fun lx a wx => Un 17 (fun wx => Below w.heap.size w wx) lx a wx ∧ Sl 17 23 (fun _ wx => BR w0 wx g (e.app r)) lx a wx) 18 rfl (by kernel_rfl) (⟨fun _ => Af (Below.refl _ _),Bb⟩) (fun HT => ?_)
 refine AX [0,1,2,3,4,5,6,7,8,9,10,11,12,13,14,15,16] ?_
 iterate 17 (refine FL (v:=?_) 17 HT rfl (by kernel_rfl) (by kernel_rfl) rfl (kA (AA rfl) (Aj rfl rfl)) (by rfl) (fun _ _ _ h => h) (fun lx ax wx hK hS => ?_) ?_;rotate_left;(have hbx:=hS.1 hK;clear hS;replace x1:=bc hbx x1;replace y0:=bc hbx y0;replace y1:=bc hbx y1;replace y2:=bc hbx y2;replace y3:=bc hbx y3;replace p2:=bc hbx p2;replace z0:=bc hbx z0;go_simp;with_reducible rfl);rotate_left;simp only [sc0,sc1])
 refine AV ?_
 refine C8 (i:=17) (f:=54) (args:=#[ptr g, .agg #[.int .i64 1, .int .i64 tx, .int .i64 (p : Int), .int .i64 (s : Int), .int .i64 (iv (pg e.mem p).vals s), .int .i64 val, .int .i64 0, .int .i64 0]]) (fun _ => True) rfl (by kernel_rfl) rfl Tryz.func54 (by kernel_rfl) rfl rfl (by rfl) (by simp only [List.map_toArray,List.map_cons,List.map_nil];rfl) (fun wx hS => (HCALL.out wx (hS.1 (by kernel_rfl))).mono (by rintro x w6 ⟨⟨v,rfl⟩,hg6⟩;exact ⟨v,rfl,trivial,fun h => (Ap (by kernel_rfl) h).elim,fun _ => hg6⟩)) (fun vx hg => ?_);simp only [sc0,sc1]
 refine Ej (by kernel_rfl) (fun w6 hS => ?_)
 have HG6:=As (hS.2 (by kernel_rfl))
 clear hS hg x1 y0 y1 y2 y3 p2 z0
 go_wp2
 exact bodyPost_ret (v:=.tuple #[]) (by simp [results,Tryz.results56,go_sem]) rfl ⟨⟨_,rfl⟩,HG6.out⟩
theorem Rk {w0 w : World} {e : Eng} {C : Nat → Page} {B : Nat} {Ad Am Al : Option Addr} {cd cm cl gt gp gs gv : Nat} (tx page slot val : Int) (hi : Inv e C B) (hB : B + 3 ≤ 150) (hcl : e.log.length ≤ cl) (hb : Below w0.heap.size w0 w) (hr : DC w0 e Ad Am Al) (bt : Co w gt (.int .i64 tx) 3) (bp : Co w gp (.int .i64 page) 3) (bs : Co w gs (.int .i64 slot) 3) (bv : Co w gv (.int .i64 val) 3) : Calls Tryz.prog 52 #[e.val Ad Am Al cd cm cl, .int .i64 tx, .int .i64 page, .func (.func 55) #[] #[ptr gp,ptr gs,ptr gv], .func (.func 56) #[] #[ptr gt,ptr gp,ptr gs,ptr gv]] w (D9 w (Ko e tx page slot val).1 (Ko e tx page slot val).2):=by
 refine JZ (b:=(pg e.mem page.toNat).owner != 0 && (inB slot 0 2 && inB val 0 9)) (X:=e.app (Mq e tx page slot val)) tx page hi.ok hcl hb hr (fun hm wb wx g hbw hg => ?_) (fun hm hbt wb wx g hbw hg => ?_) (fun hm hbt => ?_)
 ·obtain ⟨-, -,h3, -⟩:=DI.1 hm
  obtain ⟨p,rfl⟩ : ∃ p : Nat,page = (p : Int):=⟨page.toNat,by omega⟩
  have hx:=bj hbw hg.bel
  rw [Int.toNat_natCast]
  exact Tt (show p < 5 by omega) (Ak hi.FT) hg (bp.up hx) (bs.up hx) (bv.up hx)
 ·have hp : OT e tx page slot val = true:=by rw [Rz,hm,hbt];rfl
  have hI:=hi.Vi hB hp
  obtain ⟨hd, -,h3, -⟩:=DI.1 hm
  obtain ⟨p,rfl⟩ : ∃ p : Nat,page = (p : Int):=⟨page.toNat,by omega⟩
  have hsl : 0 ≤ slot ∧ slot ≤ 2:=by simp only [Bool.and_eq_true,DK] at hbt;omega
  obtain ⟨s,rfl⟩ : ∃ s : Nat,slot = (s : Int):=⟨slot.toNat,by omega⟩
  have hx:=bj hbw hg.bel
  have hdo:=hi.XH (r:=Mq e tx (p : Int) (s : Int) val) hd hI rfl ⟨by show (0 : Int) ≤ (p : Int);omega,by show (p : Int) < 5;omega⟩
  rw [show (Mq e tx (p : Int) (s : Int) val).page.toNat = p from Int.toNat_natCast p] at hdo
  exact Tq (by omega) (by omega) (Ak hi.FT) (hI.Oe (H8 _ _)) hdo hg (bt.up hx) (bp.up hx) (bs.up hx) (bv.up hx)
 ·exact (hi.Vi hB (by rw [Rz,hm,hbt];rfl)).core.log
set_option maxRecDepth 100000 in
set_option maxHeartbeats 16000000 in
theorem JX {w0 w : World} {e : Eng} {C : Nat → Page} {B : Nat} {Ad Am Al : Option Addr} {cd cm cl : Nat} (tx page slot val : Int) (hi : Inv e C B) (hB : B + 3 ≤ 150) (hcl : e.log.length ≤ cl) (hb : Below w0.heap.size w0 w) (hr : DC w0 e Ad Am Al) : Calls Tryz.prog 26 #[e.val Ad Am Al cd cm cl, .int .i64 tx, .int .i64 page, .int .i64 slot, .int .i64 val] w (D9 w (Ko e tx page slot val).1 (Ko e tx page slot val).2):=by
 obtain ⟨E,bb,hE⟩ : ∃ E bb,Ko e tx page slot val = (E,bb):=⟨_,_,rfl⟩
 have HIN : Aa (∀ wx g_tx g_page g_slot g_val,Below w.heap.size w wx → Co wx g_tx (.int .i64 tx) 3 → Co wx g_page (.int .i64 page) 3 → Co wx g_slot (.int .i64 slot) 3 → Co wx g_val (.int .i64 val) 3 → Calls Tryz.prog 52 #[e.val Ad Am Al cd cm cl, .int .i64 tx, .int .i64 page, .func (.func 55) #[] #[ptr g_page,ptr g_slot,ptr g_val], .func (.func 56) #[] #[ptr g_tx,ptr g_page,ptr g_slot,ptr g_val]] wx (D9 wx E bb)):=⟨fun wx g_tx g_page g_slot g_val hbx b_tx b_page b_slot b_val => by
  have h:=Rk (cd:=cd) (cm:=cm) tx page slot val hi hB hcl (bj hb hbx) hr b_tx b_page b_slot b_val
  rw [hE] at h
  exact h⟩
 rw [hE]
 clear hi hb hr hE hcl hB
 go_enter Tryz.func26,Tryz.ntmps26
 go_wp2_with (first
  | (with_reducible refine Ag (vd:=.slice Ad e.disk.length cd) (vm:=.slice Am e.mem.length cm) (vl:=.slice Al e.log.length cl) e ?_;intro w1 hb1 hz1 hq1;clear hz1;have HB:=As hb1;have HQ:=As hq1;clear hb1 hq1)
  | (with_reducible refine DU (t:=3) (.int .i64 tx) ?_;intro w2 hb1 hz1 hq1;clear hz1;replace HB:=As (bj HB.out hb1);replace HQ:=As (HQ.out.up hb1);have HC_tx:=As hq1;clear hb1 hq1)
  | (with_reducible refine DU (t:=3) (.int .i64 page) ?_;intro w3 hb1 hz1 hq1;clear hz1;replace HB:=As (bj HB.out hb1);replace HQ:=As (HQ.out.up hb1);replace HC_tx:=As (HC_tx.out.up hb1);have HC_page:=As hq1;clear hb1 hq1)
  | (with_reducible refine DU (t:=3) (.int .i64 slot) ?_;intro w4 hb1 hz1 hq1;clear hz1;replace HB:=As (bj HB.out hb1);replace HQ:=As (HQ.out.up hb1);replace HC_tx:=As (HC_tx.out.up hb1);replace HC_page:=As (HC_page.out.up hb1);have HC_slot:=As hq1;clear hb1 hq1)
  | (with_reducible refine DU (t:=3) (.int .i64 val) ?_;intro w5 hb1 hz1 hq1;clear hz1;replace HB:=As (bj HB.out hb1);replace HQ:=As (HQ.out.up hb1);replace HC_tx:=As (HC_tx.out.up hb1);replace HC_page:=As (HC_page.out.up hb1);replace HC_slot:=As (HC_slot.out.up hb1);have HC_val:=As hq1;clear hb1 hq1)
  | (refine Ag (vd:=.slice none 0 0) (vm:=.slice none 0 0) (vl:=.slice none 0 0) zE ?_;intro w6 hb1 hz1 hq1;have HBG:=As HB.out.size;replace HB:=As (bj HB.out hb1);replace HQ:=As (HQ.out.up hb1);replace HC_tx:=As (HC_tx.out.up hb1);replace HC_page:=As (HC_page.out.up hb1);replace HC_slot:=As (HC_slot.out.up hb1);replace HC_val:=As (HC_val.out.up hb1);have HP:=As hq1;have HZ:=As hz1;have x0:=HQ.out.c0;have x1:=HQ.out.c1;have x2:=HQ.out.c2;have x3:=HQ.out.c3;have x4:=HQ.out.c4;have c_tx:=HC_tx.out.c0;have c_page:=HC_page.out.c0;have c_slot:=HC_slot.out.c0;have c_val:=HC_val.out.c0;clear hb1 hz1 hq1)
  | (go_at_call 52;refine (HIN.out w6 _ _ _ _ HB.out HC_tx.out HC_page.out HC_slot.out HC_val.out).mono ?_;rintro x w7 ⟨vd,vm,vl,rfl,ho,hb2⟩;obtain ⟨Ed,n1,Em,n2,El,n3,rfl,rfl,rfl, -, -⟩:=ho.reads;have HO:=As ho;have HX:=As hb2;have hp:=HP.out.up hb2;have HP2:=As hp;have y0:=hp.c0;have y1:=hp.c1;have y2:=hp.c2;have y3:=hp.c3;have y4:=hp.c4;have f0:=hp.frz 0;have f1:=hp.frz 1;have f2:=hp.frz 2;have f3:=hp.frz 3;have f4:=hp.frz 4;clear hp hb2 ho x0 x1 x2 x3 x4 c_tx c_page c_slot c_val))
 have hy:=HP2.out.Ao E (.slice Ed E.disk.length n1) (.slice Em E.mem.length n2) (.slice El E.log.length n3)
 have h1:=HO.out.Ao (f:=E) (xd:=.slice Ed E.disk.length n1) (xm:=.slice Em E.mem.length n2) (xl:=.slice El E.log.length n3) HP2.out
 have hge:=HBG.out
 have hzz:=HZ.out
 have h2:=Ah (g:=w5.heap.size) (bj HB.out HX.out) hge E (.slice Ed E.disk.length n1) (.slice Em E.mem.length n2) (.slice El E.log.length n3)
 have z0:=hy.c0
 have z1:=hy.c1
 have z2:=hy.c2
 have z3:=hy.c3
 have z4:=hy.c4
 exact bodyPost_ret (v:=.tuple #[E.ag (.slice Ed E.disk.length n1) (.slice Em E.mem.length n2) (.slice El E.log.length n3), .bool bb]) (by simp [results,Tryz.results26,go_sem,z0,z1,z2,z3,z4]) rfl ⟨_,_,_,rfl,h1.lower (by omega),h2⟩
set_option maxRecDepth 100000 in
set_option maxHeartbeats 16000000 in
theorem Ka {w0 w : World} {e : Eng} {Ad Am Al : Option Addr} {cd cm cl : Nat} (tx page : Int) {p5 p6 p7 : Value} {b : Bool} {X : Eng} (hok : eOk e = true) (hcl : e.log.length ≤ cl) (hb : Below w0.heap.size w0 w) (hr : DC w0 e Ad Am Al)
  (hh : DR e tx page = true → ∀ wb wx g,Below w.heap.size w wb → BR wb wx g e → Calls Tryz.prog 49 #[ptr g,p6,p7] wx fun x w' => x = .returned (.bool b) ∧ Below wx.heap.size wx w')
  (hw : DR e tx page = true → b = true → ∀ wb wx g,Below w.heap.size w wb → BR wb wx g e → Calls Tryz.prog 53 #[ptr g,p5,p6,p7] wx (IK wb g X))
  (hX : DR e tx page = true → b = true → AB X.log = true) : Calls Tryz.prog 52 #[e.val Ad Am Al cd cm cl, .int .i64 tx, .int .i64 page, .func (.func 49) #[] #[p6,p7], .func (.func 53) #[] #[p5,p6,p7]] w (D9 w (Bp e (DR e tx page && b) X).1 (Bp e (DR e tx page && b) X).2):=by
 have HR:=As (hr.up hb)
 have HH:=As hh
 have HW:=As hw
 have HLX:=As hX
 have HV:=As hok
 have HF:=As (Fv.1 hok)
 have HLG:=As (Bo HF.out.log)
 clear hr hb hh hw hX hok
 obtain ⟨w1,hw1⟩ : ∃ w1,w.alloc (e.obox (.slice Ad e.disk.length cd) (.slice Am e.mem.length cm) (.slice Al e.log.length cl)) = w1:=⟨_,rfl⟩
 obtain ⟨w2,hw2⟩ : ∃ w2,w1.alloc (zE.obox (.slice none 0 0) (.slice none 0 0) (.slice none 0 0)) = w2:=⟨_,rfl⟩
 have hz1 : w1.heap.size = w.heap.size + 1:=by rw [← hw1];exact BJ _ _
 have hz2 : w2.heap.size = w.heap.size + 2:=by rw [← hw2,BJ,hz1]
 have hb12 : Below w1.heap.size w1 w2:=by rw [← hw2];exact Ab (Below.refl _ _) _
 have HB2 : Aa (Below w.heap.size w w2):=⟨by rw [← hw2, ← hw1];exact Ab (Ab (Below.refl _ _) _) _⟩
 have HQ2 : Aa (Ac w2 w.heap.size e (.slice Ad e.disk.length cd) (.slice Am e.mem.length cm) (.slice Al e.log.length cl)):=⟨Ac.up (by rw [← hw1];exact Ac.mk1 _ _ _ _ _) hb12⟩
 have HP2 : Aa (Ac w2 (w.heap.size + 1) zE (.slice none 0 0) (.slice none 0 0) (.slice none 0 0)):=⟨by rw [← hw2, ← hz1];exact Ac.mk1 _ _ _ _ _⟩
 have HW2 : Aa ((w.alloc (e.obox (.slice Ad e.disk.length cd) (.slice Am e.mem.length cm) (.slice Al e.log.length cl))).alloc (zE.obox (.slice none 0 0) (.slice none 0 0) (.slice none 0 0)) = w2):=⟨by rw [hw1,hw2]⟩
 have HZ2:=As hz2
 clear hw1 hw2 hz1 hz2 hb12
 have x0:=HQ2.out.c0
 have x1:=HQ2.out.c1
 have x2:=HQ2.out.c2
 have x3:=HQ2.out.c3
 have x4:=HQ2.out.c4
 cases hm : DR e tx page
 ·have HM:=As hm
  rw [show Bp e (false && b) X = (e,false) by rw [Bp,if_neg (by simp)]]
  clear hm
  go_enter Tryz.func52,Tryz.ntmps52
  go_wp2_with (first
   | (go_at_call 43;rw [show (w.alloc (Obj.cells #[Value.slice Ad e.disk.length cd,Value.slice Am e.mem.length cm,Value.slice Al e.log.length cl,Value.int IntKind.i64 e.safe,Value.bool e.down] 28)).alloc (Obj.cells #[Value.slice none 0 0,Value.slice none 0 0,Value.slice none 0 0,Value.int IntKind.i64 0,Value.bool false] 28) = w2 from HW2.out];refine (Aw (cd:=cd) (cm:=cm) HV.out hcl HB2.out HR.out).mono ?_;rintro x w3 ⟨rfl,hb3⟩;have HX3:=As hb3;replace x0:=bc hb3 x0;replace x1:=bc hb3 x1;replace x2:=bc hb3 x2;replace x3:=bc hb3 x3;replace x4:=bc hb3 x4;clear hb3)
   | (go_at_call 45;refine (AP (cd:=cd) (cm:=cm) (cl:=cl) (Ak HF.out.disk) (Ak HF.out.mem) HLG.out (bj HB2.out HX3.out) HR.out).mono ?_;rintro x w4 ⟨vd,vm,vl,rfl,ho,hb4⟩;obtain ⟨Bd,dd,Bm,dm,Bl,dl,rfl,rfl,rfl, -, -⟩:=ho.reads;have HO4:=As ho;have HX4:=As hb4;replace x0:=bc hb4 x0;replace x1:=bc hb4 x1;replace x2:=bc hb4 x2;replace x3:=bc hb4 x3;replace x4:=bc hb4 x4;clear ho hb4)
   | (refine Ag (vd:=.slice Bd e.disk.length dd) (vm:=.slice Bm e.mem.length dm) (vl:=.slice Bl e.log.length dl) e ?_;intro w5 hb5 _ hq5;have HG5 : Aa (BR w3 w5 w4.heap.size e):=⟨⟨⟨_,_,_,hq5,HO4.out.below hb5⟩,bj HX4.out hb5,HX4.out.size⟩⟩;replace x0:=bc hb5 x0;replace x1:=bc hb5 x1;replace x2:=bc hb5 x2;replace x3:=bc hb5 x3;replace x4:=bc hb5 x4;clear hb5 hq5)
   | (go_at_call 103;refine (DV tx page HF.out.log HG5.out).mono ?_;rw [HM.out];rintro x w6 ⟨rfl,hb6⟩;have HG6:=As (HG5.out.up hb6);replace x0:=bc hb6 x0;replace x1:=bc hb6 x1;replace x2:=bc hb6 x2;replace x3:=bc hb6 x3;replace x4:=bc hb6 x4;clear hb6;clear x0 x1 x2 x3 x4;obtain ⟨ud,um,ul,hq,ho⟩:=HG6.out.ex;obtain ⟨Ed,n1,Em,n2,El,n3,rfl,rfl,rfl, -, -⟩:=ho.reads;have HO7:=As ho;have q0:=hq.c0;have q1:=hq.c1;have q2:=hq.c2;have q3:=hq.c3;have q4:=hq.c4;have hx2:=bj HX3.out HG6.out.bel;have HX7:=As HG6.out.bel;have hp:=HP2.out.up hx2;have HP7:=As hp;have y0:=hp.c0;have y1:=hp.c1;have y2:=hp.c2;have y3:=hp.c3;have y4:=hp.c4;have f0:=hp.frz 0;have f1:=hp.frz 1;have f2:=hp.frz 2;have f3:=hp.frz 3;have f4:=hp.frz 4;clear hp;clear hq ho hx2))
  have hz:=HZ2.out
  have hn3:=HX3.out.size
  have hy:=HP7.out.Ao e (.slice Ed e.disk.length n1) (.slice Em e.mem.length n2) (.slice El e.log.length n3)
  have h1:=HO7.out.Ao (f:=e) (xd:=.slice Ed e.disk.length n1) (xm:=.slice Em e.mem.length n2) (xl:=.slice El e.log.length n3) HP7.out
  have h2:=Ah (g:=w.heap.size + 1) (bj HB2.out (bj HX3.out HX7.out)) (by omega) e (.slice Ed e.disk.length n1) (.slice Em e.mem.length n2) (.slice El e.log.length n3)
  have z0:=hy.c0
  have z1:=hy.c1
  have z2:=hy.c2
  have z3:=hy.c3
  have z4:=hy.c4
  exact bodyPost_ret (v:=.tuple #[e.ag (.slice Ed e.disk.length n1) (.slice Em e.mem.length n2) (.slice El e.log.length n3), .bool false]) (by simp [results,Tryz.results52,go_sem,z0,z1,z2,z3,z4]) rfl ⟨_,_,_,rfl,h1.lower (by omega),h2⟩
 ·have HM:=As hm
  clear hm
  cases b
  ·rw [show Bp e (true && false) X = (e,false) by rw [Bp,if_neg (by simp)]]
   go_enter Tryz.func52,Tryz.ntmps52
   go_wp2_with (first
    | (go_at_call 43;rw [show (w.alloc (Obj.cells #[Value.slice Ad e.disk.length cd,Value.slice Am e.mem.length cm,Value.slice Al e.log.length cl,Value.int IntKind.i64 e.safe,Value.bool e.down] 28)).alloc (Obj.cells #[Value.slice none 0 0,Value.slice none 0 0,Value.slice none 0 0,Value.int IntKind.i64 0,Value.bool false] 28) = w2 from HW2.out];refine (Aw (cd:=cd) (cm:=cm) HV.out hcl HB2.out HR.out).mono ?_;rintro x w3 ⟨rfl,hb3⟩;have HX3:=As hb3;replace x0:=bc hb3 x0;replace x1:=bc hb3 x1;replace x2:=bc hb3 x2;replace x3:=bc hb3 x3;replace x4:=bc hb3 x4;clear hb3)
    | (go_at_call 45;refine (AP (cd:=cd) (cm:=cm) (cl:=cl) (Ak HF.out.disk) (Ak HF.out.mem) HLG.out (bj HB2.out HX3.out) HR.out).mono ?_;rintro x w4 ⟨vd,vm,vl,rfl,ho,hb4⟩;obtain ⟨Bd,dd,Bm,dm,Bl,dl,rfl,rfl,rfl, -, -⟩:=ho.reads;have HO4:=As ho;have HX4:=As hb4;replace x0:=bc hb4 x0;replace x1:=bc hb4 x1;replace x2:=bc hb4 x2;replace x3:=bc hb4 x3;replace x4:=bc hb4 x4;clear ho hb4)
    | (refine Ag (vd:=.slice Bd e.disk.length dd) (vm:=.slice Bm e.mem.length dm) (vl:=.slice Bl e.log.length dl) e ?_;intro w5 hb5 _ hq5;have HG5 : Aa (BR w3 w5 w4.heap.size e):=⟨⟨⟨_,_,_,hq5,HO4.out.below hb5⟩,bj HX4.out hb5,HX4.out.size⟩⟩;replace x0:=bc hb5 x0;replace x1:=bc hb5 x1;replace x2:=bc hb5 x2;replace x3:=bc hb5 x3;replace x4:=bc hb5 x4;clear hb5 hq5)
    | (go_at_call 103;refine (DV tx page HF.out.log HG5.out).mono ?_;rw [HM.out];rintro x w6 ⟨rfl,hb6⟩;have HG6:=As (HG5.out.up hb6);replace x0:=bc hb6 x0;replace x1:=bc hb6 x1;replace x2:=bc hb6 x2;replace x3:=bc hb6 x3;replace x4:=bc hb6 x4;clear hb6)
    | (go_at_call 49;refine (HH.out HM.out w3 w6 w4.heap.size (bj HB2.out HX3.out) HG6.out).mono ?_;rintro x w7 ⟨rfl,hb7⟩;have HG7:=As (HG6.out.up hb7);replace x0:=bc hb7 x0;replace x1:=bc hb7 x1;replace x2:=bc hb7 x2;replace x3:=bc hb7 x3;replace x4:=bc hb7 x4;clear hb7;clear x0 x1 x2 x3 x4;obtain ⟨ud,um,ul,hq,ho⟩:=HG7.out.ex;obtain ⟨Ed,n1,Em,n2,El,n3,rfl,rfl,rfl, -, -⟩:=ho.reads;have HO7:=As ho;have q0:=hq.c0;have q1:=hq.c1;have q2:=hq.c2;have q3:=hq.c3;have q4:=hq.c4;have hx2:=bj HX3.out HG7.out.bel;have HX7:=As HG7.out.bel;have hp:=HP2.out.up hx2;have HP7:=As hp;have y0:=hp.c0;have y1:=hp.c1;have y2:=hp.c2;have y3:=hp.c3;have y4:=hp.c4;have f0:=hp.frz 0;have f1:=hp.frz 1;have f2:=hp.frz 2;have f3:=hp.frz 3;have f4:=hp.frz 4;clear hp;clear hq ho hx2))
   have hz:=HZ2.out
   have hn3:=HX3.out.size
   have hy:=HP7.out.Ao e (.slice Ed e.disk.length n1) (.slice Em e.mem.length n2) (.slice El e.log.length n3)
   have h1:=HO7.out.Ao (f:=e) (xd:=.slice Ed e.disk.length n1) (xm:=.slice Em e.mem.length n2) (xl:=.slice El e.log.length n3) HP7.out
   have h2:=Ah (g:=w.heap.size + 1) (bj HB2.out (bj HX3.out HX7.out)) (by omega) e (.slice Ed e.disk.length n1) (.slice Em e.mem.length n2) (.slice El e.log.length n3)
   have z0:=hy.c0
   have z1:=hy.c1
   have z2:=hy.c2
   have z3:=hy.c3
   have z4:=hy.c4
   exact bodyPost_ret (v:=.tuple #[e.ag (.slice Ed e.disk.length n1) (.slice Em e.mem.length n2) (.slice El e.log.length n3), .bool false]) (by simp [results,Tryz.results52,go_sem,z0,z1,z2,z3,z4]) rfl ⟨_,_,_,rfl,h1.lower (by omega),h2⟩
  ·cases hfx : Jj X.log
   all_goals have HFX:=As hfx;have HWW:=As (HW.out HM.out rfl);have HLL:=As (HLX.out HM.out rfl);clear HW HLX
   ·rw [show Bp e (true && true) X = (e,false) by rw [Bp,if_neg (by rw [hfx];simp)]]
    clear hfx
    go_enter Tryz.func52,Tryz.ntmps52
    go_wp2_with (first
     | (go_at_call 43;rw [show (w.alloc (Obj.cells #[Value.slice Ad e.disk.length cd,Value.slice Am e.mem.length cm,Value.slice Al e.log.length cl,Value.int IntKind.i64 e.safe,Value.bool e.down] 28)).alloc (Obj.cells #[Value.slice none 0 0,Value.slice none 0 0,Value.slice none 0 0,Value.int IntKind.i64 0,Value.bool false] 28) = w2 from HW2.out];refine (Aw (cd:=cd) (cm:=cm) HV.out hcl HB2.out HR.out).mono ?_;rintro x w3 ⟨rfl,hb3⟩;have HX3:=As hb3;replace x0:=bc hb3 x0;replace x1:=bc hb3 x1;replace x2:=bc hb3 x2;replace x3:=bc hb3 x3;replace x4:=bc hb3 x4;clear hb3)
     | (go_at_call 45;refine (AP (cd:=cd) (cm:=cm) (cl:=cl) (Ak HF.out.disk) (Ak HF.out.mem) HLG.out (bj HB2.out HX3.out) HR.out).mono ?_;rintro x w4 ⟨vd,vm,vl,rfl,ho,hb4⟩;obtain ⟨Bd,dd,Bm,dm,Bl,dl,rfl,rfl,rfl, -, -⟩:=ho.reads;have HO4:=As ho;have HX4:=As hb4;replace x0:=bc hb4 x0;replace x1:=bc hb4 x1;replace x2:=bc hb4 x2;replace x3:=bc hb4 x3;replace x4:=bc hb4 x4;clear ho hb4)
     | (refine Ag (vd:=.slice Bd e.disk.length dd) (vm:=.slice Bm e.mem.length dm) (vl:=.slice Bl e.log.length dl) e ?_;intro w5 hb5 _ hq5;have HG5 : Aa (BR w3 w5 w4.heap.size e):=⟨⟨⟨_,_,_,hq5,HO4.out.below hb5⟩,bj HX4.out hb5,HX4.out.size⟩⟩;replace x0:=bc hb5 x0;replace x1:=bc hb5 x1;replace x2:=bc hb5 x2;replace x3:=bc hb5 x3;replace x4:=bc hb5 x4;clear hb5 hq5)
     | (go_at_call 103;refine (DV tx page HF.out.log HG5.out).mono ?_;rw [HM.out];rintro x w6 ⟨rfl,hb6⟩;have HG6:=As (HG5.out.up hb6);replace x0:=bc hb6 x0;replace x1:=bc hb6 x1;replace x2:=bc hb6 x2;replace x3:=bc hb6 x3;replace x4:=bc hb6 x4;clear hb6)
     | (go_at_call 49;refine (HH.out HM.out w3 w6 w4.heap.size (bj HB2.out HX3.out) HG6.out).mono ?_;rintro x w7 ⟨rfl,hb7⟩;have HG7:=As (HG6.out.up hb7);replace x0:=bc hb7 x0;replace x1:=bc hb7 x1;replace x2:=bc hb7 x2;replace x3:=bc hb7 x3;replace x4:=bc hb7 x4;clear hb7)
     | (go_at_call 53;refine (HWW.out w3 w7 w4.heap.size (bj HB2.out HX3.out) HG7.out).mono ?_;rintro x w8 ⟨⟨v,rfl⟩,hg8⟩;obtain ⟨ud,um,ul,hq,ho⟩:=hg8.ex;obtain ⟨Ed,n1,Em,n2,El,n3,rfl,rfl,rfl, -,hc⟩:=ho.reads;have HO8:=As ho;have HC8:=As hc;have HX8:=As hg8.bel;have q0:=hq.c0;have q1:=hq.c1;have q2:=hq.c2;have q3:=hq.c3;have q4:=hq.c4;clear x0 x1 x2 x3 x4;have hq2:=HQ2.out.up (bj HX3.out hg8.bel);have x0:=hq2.c0;have x1:=hq2.c1;have x2:=hq2.c2;have x3:=hq2.c3;have x4:=hq2.c4;clear hq ho hc hq2 hg8)
     | (go_at_call 84;refine (Ep (w0:=w8) (c:=n3) (Below.refl _ _) HC8.out.l HLL.out).mono ?_;rw [HFX.out];rintro x w9 ⟨rfl,hb9⟩;replace x0:=bc hb9 x0;replace x1:=bc hb9 x1;replace x2:=bc hb9 x2;replace x3:=bc hb9 x3;replace x4:=bc hb9 x4;have HX9:=As (bj HX8.out hb9);clear q0 q1 q2 q3 q4 hb9)
     | (go_at_call 45;refine (AP (cd:=cd) (cm:=cm) (cl:=cl) (Ak HF.out.disk) (Ak HF.out.mem) HLG.out (bj HB2.out (bj HX3.out HX9.out)) HR.out).mono ?_;rintro x w10 ⟨vd,vm,vl,rfl,ho,hb10⟩;obtain ⟨Ed,n1,Em,n2,El,n3,rfl,rfl,rfl, -, -⟩:=ho.reads;have HO7:=As (ho.lower (b':=w3.heap.size) HX9.out.size);have HX7:=As (bj HX9.out hb10);clear x0 x1 x2 x3 x4 ho hb10;have hp:=HP2.out.up (bj HX3.out HX7.out);have HP7:=As hp;have y0:=hp.c0;have y1:=hp.c1;have y2:=hp.c2;have y3:=hp.c3;have y4:=hp.c4;have f0:=hp.frz 0;have f1:=hp.frz 1;have f2:=hp.frz 2;have f3:=hp.frz 3;have f4:=hp.frz 4;clear hp))
    have hz:=HZ2.out
    have hn3:=HX3.out.size
    have hy:=HP7.out.Ao e (.slice Ed e.disk.length n1) (.slice Em e.mem.length n2) (.slice El e.log.length n3)
    have h1:=HO7.out.Ao (f:=e) (xd:=.slice Ed e.disk.length n1) (xm:=.slice Em e.mem.length n2) (xl:=.slice El e.log.length n3) HP7.out
    have h2:=Ah (g:=w.heap.size + 1) (bj HB2.out (bj HX3.out HX7.out)) (by omega) e (.slice Ed e.disk.length n1) (.slice Em e.mem.length n2) (.slice El e.log.length n3)
    have z0:=hy.c0
    have z1:=hy.c1
    have z2:=hy.c2
    have z3:=hy.c3
    have z4:=hy.c4
    exact bodyPost_ret (v:=.tuple #[e.ag (.slice Ed e.disk.length n1) (.slice Em e.mem.length n2) (.slice El e.log.length n3), .bool false]) (by simp [results,Tryz.results52,go_sem,z0,z1,z2,z3,z4]) rfl ⟨_,_,_,rfl,h1.lower (by omega),h2⟩
   ·rw [show Bp e (true && true) X = (X,true) by rw [Bp,if_pos ⟨rfl,hfx⟩]]
    clear hfx
    go_enter Tryz.func52,Tryz.ntmps52
    go_wp2_with (first
     | (go_at_call 43;rw [show (w.alloc (Obj.cells #[Value.slice Ad e.disk.length cd,Value.slice Am e.mem.length cm,Value.slice Al e.log.length cl,Value.int IntKind.i64 e.safe,Value.bool e.down] 28)).alloc (Obj.cells #[Value.slice none 0 0,Value.slice none 0 0,Value.slice none 0 0,Value.int IntKind.i64 0,Value.bool false] 28) = w2 from HW2.out];refine (Aw (cd:=cd) (cm:=cm) HV.out hcl HB2.out HR.out).mono ?_;rintro x w3 ⟨rfl,hb3⟩;have HX3:=As hb3;replace x0:=bc hb3 x0;replace x1:=bc hb3 x1;replace x2:=bc hb3 x2;replace x3:=bc hb3 x3;replace x4:=bc hb3 x4;clear hb3)
     | (go_at_call 45;refine (AP (cd:=cd) (cm:=cm) (cl:=cl) (Ak HF.out.disk) (Ak HF.out.mem) HLG.out (bj HB2.out HX3.out) HR.out).mono ?_;rintro x w4 ⟨vd,vm,vl,rfl,ho,hb4⟩;obtain ⟨Bd,dd,Bm,dm,Bl,dl,rfl,rfl,rfl, -, -⟩:=ho.reads;have HO4:=As ho;have HX4:=As hb4;replace x0:=bc hb4 x0;replace x1:=bc hb4 x1;replace x2:=bc hb4 x2;replace x3:=bc hb4 x3;replace x4:=bc hb4 x4;clear ho hb4)
     | (refine Ag (vd:=.slice Bd e.disk.length dd) (vm:=.slice Bm e.mem.length dm) (vl:=.slice Bl e.log.length dl) e ?_;intro w5 hb5 _ hq5;have HG5 : Aa (BR w3 w5 w4.heap.size e):=⟨⟨⟨_,_,_,hq5,HO4.out.below hb5⟩,bj HX4.out hb5,HX4.out.size⟩⟩;replace x0:=bc hb5 x0;replace x1:=bc hb5 x1;replace x2:=bc hb5 x2;replace x3:=bc hb5 x3;replace x4:=bc hb5 x4;clear hb5 hq5)
     | (go_at_call 103;refine (DV tx page HF.out.log HG5.out).mono ?_;rw [HM.out];rintro x w6 ⟨rfl,hb6⟩;have HG6:=As (HG5.out.up hb6);replace x0:=bc hb6 x0;replace x1:=bc hb6 x1;replace x2:=bc hb6 x2;replace x3:=bc hb6 x3;replace x4:=bc hb6 x4;clear hb6)
     | (go_at_call 49;refine (HH.out HM.out w3 w6 w4.heap.size (bj HB2.out HX3.out) HG6.out).mono ?_;rintro x w7 ⟨rfl,hb7⟩;have HG7:=As (HG6.out.up hb7);replace x0:=bc hb7 x0;replace x1:=bc hb7 x1;replace x2:=bc hb7 x2;replace x3:=bc hb7 x3;replace x4:=bc hb7 x4;clear hb7)
     | (go_at_call 53;refine (HWW.out w3 w7 w4.heap.size (bj HB2.out HX3.out) HG7.out).mono ?_;rintro x w8 ⟨⟨v,rfl⟩,hg8⟩;obtain ⟨ud,um,ul,hq,ho⟩:=hg8.ex;obtain ⟨Ed,n1,Em,n2,El,n3,rfl,rfl,rfl, -,hc⟩:=ho.reads;have HO8:=As ho;have HC8:=As hc;have HX8:=As hg8.bel;have q0:=hq.c0;have q1:=hq.c1;have q2:=hq.c2;have q3:=hq.c3;have q4:=hq.c4;clear x0 x1 x2 x3 x4;have hq2:=HQ2.out.up (bj HX3.out hg8.bel);have x0:=hq2.c0;have x1:=hq2.c1;have x2:=hq2.c2;have x3:=hq2.c3;have x4:=hq2.c4;clear hq ho hc hq2 hg8)
     | (go_at_call 84;refine (Ep (w0:=w8) (c:=n3) (Below.refl _ _) HC8.out.l HLL.out).mono ?_;rw [HFX.out];rintro x w9 ⟨rfl,hb9⟩;replace q0:=bc hb9 q0;replace q1:=bc hb9 q1;replace q2:=bc hb9 q2;replace q3:=bc hb9 q3;replace q4:=bc hb9 q4;clear x0 x1 x2 x3 x4;have HX7:=As (bj HX8.out hb9);have HO7:=As (HO8.out.below hb9);have hp:=HP2.out.up (bj HX3.out HX7.out);have HP7:=As hp;have y0:=hp.c0;have y1:=hp.c1;have y2:=hp.c2;have y3:=hp.c3;have y4:=hp.c4;have f0:=hp.frz 0;have f1:=hp.frz 1;have f2:=hp.frz 2;have f3:=hp.frz 3;have f4:=hp.frz 4;clear hp;clear hb9))
    have hz:=HZ2.out
    have hn3:=HX3.out.size
    have hy:=HP7.out.Ao X (.slice Ed X.disk.length n1) (.slice Em X.mem.length n2) (.slice El X.log.length n3)
    have h1:=HO7.out.Ao (f:=X) (xd:=.slice Ed X.disk.length n1) (xm:=.slice Em X.mem.length n2) (xl:=.slice El X.log.length n3) HP7.out
    have h2:=Ah (g:=w.heap.size + 1) (bj HB2.out (bj HX3.out HX7.out)) (by omega) X (.slice Ed X.disk.length n1) (.slice Em X.mem.length n2) (.slice El X.log.length n3)
    have z0:=hy.c0
    have z1:=hy.c1
    have z2:=hy.c2
    have z3:=hy.c3
    have z4:=hy.c4
    exact bodyPost_ret (v:=.tuple #[X.ag (.slice Ed X.disk.length n1) (.slice Em X.mem.length n2) (.slice El X.log.length n3), .bool true]) (by simp [results,Tryz.results52,go_sem,z0,z1,z2,z3,z4]) rfl ⟨_,_,_,rfl,h1.lower (by omega),h2⟩
set_option maxRecDepth 100000 in
set_option maxHeartbeats 8000000 in
theorem GJ {w0 w : World} {A : Option Addr} {c : Nat} {p : Page} {b : Bool} (hok : Bt p = true) (hv : F5 p.vals = b) (hb : Below w0.heap.size w0 w) (hr : Kd.C (Kd.int .i64) w0 A p.vals.length p.vals) : Calls Tryz.prog 51 #[p.val A c] w fun x w' => x = .returned (.bool b) ∧ Below w.heap.size w w':=by
 have HR:=As (BA hr hb)
 have HV:=As hok
 have HZ:=As hv
 obtain ⟨w1,hw1⟩ : ∃ w1,w.alloc (Obj.cells #[Value.int IntKind.i64 p.lsn,Value.int IntKind.i64 p.owner,Value.slice A p.vals.length c] 41) = w1:=⟨_,rfl⟩
 have HB1 : Aa (Below w.heap.size w w1):=⟨by rw [← hw1];exact Ab (Below.refl _ _) _⟩
 have HP : Aa (AU w1 w.heap.size p (.slice A p.vals.length c)):=⟨by rw [← hw1];exact AU.mk1 _ _ _⟩
 have HW1:=As hw1
 have x0:=HP.out.c0
 have x1:=HP.out.c1
 have x2:=HP.out.c2
 clear hr hb hok hv hw1
 go_enter Tryz.func51,Tryz.ntmps51
 go_wp2_with (first
  | (go_at_call 101;rw [HW1.out];refine (DZ HV.out HB1.out HR.out).mono ?_;rintro x w2 ⟨rfl,hb2⟩;replace x2:=bc hb2 x2;have HB2:=As (bj HB1.out hb2);clear hb2 x0 x1)
  | (go_at_call 102;refine (LB HZ.out HB2.out HR.out).mono ?_;rintro x w3 ⟨rfl,rfl⟩))
 go_ret
 exact ⟨rfl,HB2.out⟩
set_option maxRecDepth 100000 in
set_option maxHeartbeats 8000000 in
theorem TA {w0 w : World} {g gp gt : Nat} {e : Eng} {p : Nat} {table : Int} (hp : p < 5) (hps : Iw e.mem = true) (h : BR w0 w g e) (bp : Co w gp (.int .i64 (p : Int)) 3) (bt : Co w gt (.int .i64 table) 3) : Calls Tryz.prog 49 #[ptr g,ptr gp,ptr gt] w fun x w' => x = .returned (.bool (inB table 0 3 && (((pg e.mem p).owner == 0) != (table == 0) && F5 (pg e.mem p).vals))) ∧ Below w.heap.size w w':=by
 obtain ⟨⟨vd,vm,vl,hq,ho⟩, -, -⟩:=h
 obtain ⟨okd,okm, -, -,hpm⟩:=ho.ex
 have hg5:=(Ak hps).1
 obtain ⟨gm,capm,rfl, -, -⟩:=Ci hpm (by omega)
 have hpl : p < e.mem.length:=by omega
 obtain ⟨A2,c2,p0,p1,p2,pC, -⟩:=E5 hpm p hpl
 have hp5i : (p : Int) < 5:=by omega
 have x1:=hq.c1
 have y1:=bp.c0
 have y2:=bt.c0
 obtain ⟨z,hz⟩ : ∃ z,F5 (pg e.mem p).vals = z:=⟨_,rfl⟩
 have HZ:=As hz
 have HOK:=As ((Cv.1 hps).2 p hp)
 have HC:=As pC
 obtain ⟨P,hP⟩ : ∃ P,pg e.mem p = P:=⟨_,rfl⟩
 rw [hP] at HZ HOK HC p0 p1 p2 ⊢
 rw [HZ.out]
 clear ho hpm hq bp bt hps hz pC hP
 cases h1 : inB table 0 3
 all_goals rcases BQ P.owner 0 with ⟨e1,b1,c1⟩ | ⟨e1,b1,c1⟩
 all_goals rcases BQ table 0 with ⟨e2,b2,c2_⟩ | ⟨e2,b2,c2_⟩
 all_goals
  have H1:=As h1
  clear h1
  go_enter Tryz.func49,Tryz.ntmps49
  go_wp2
  refine AQ (fun lx a wx => Below w.heap.size w wx ∧ Sl 7 5 (fun v wx => ∃ B,v = ptr B ∧ w.heap.size ≤ B ∧ AU wx B zp (.slice none 0 0)) lx a wx) 8 rfl (by kernel_rfl) (⟨Af (Below.refl _ _),Bb⟩) (fun HT => ?_)
  refine AX [0,1,2,3,4,5,6] ?_
  iterate 7 (refine AR (v:=?_) HT rfl (by kernel_rfl) rfl (kA Ae (Aj rfl rfl)) (by rfl) (fun _ _ _ h => h) (fun lx ax wx hS => ?_) ?_;rotate_left;(have hbx:=hS.1;clear hS;replace x1:=bc hbx x1;replace y1:=bc hbx y1;replace p0:=bc hbx p0;replace p1:=bc hbx p1;replace p2:=bc hbx p2;go_simp;with_reducible rfl);rotate_left;simp only [sc0,sc1])
  refine AV ?_
  refine AJ [7] (by kernel_rfl) (fun i hi wx hS => ?_)
  obtain rfl:=List.mem_singleton.1 hi
  clear hi
  refine BH (w1:=wx.alloc CO) (ptr wx.heap.size) rfl rfl (by rfl) (by go_simp) ?_
  refine ⟨⟨bj hS.1 (Ab (Below.refl _ _) _),fun _ => ⟨wx.heap.size,rfl,hS.1.size,AU.mk1 wx zp _⟩⟩,?_⟩
  obtain ⟨B,hB⟩ : ∃ B,wx.heap.size = B:=⟨_,rfl⟩
  rw [hB]
  clear hB hS
  simp only [sc0,sc1]
  refine BZ (i:=8) (by kernel_rfl) rfl (fun wx hS => ?_)
  obtain ⟨h1,h2⟩:=hS
  obtain ⟨B',hB',hN,hQ⟩:=h2 (by kernel_rfl)
  have hB' : ptr B = ptr B':=hB'
  obtain rfl : B = B':=by simpa using hB'
  have z0:=hQ.c0
  have z1:=hQ.c1
  have z2:=hQ.c2
  have f0:=hQ.frz 0
  have f1:=hQ.frz 1
  have f2:=hQ.frz 2
  refine Bv (w1:=Go.Proofs.YtofgeajaajfiaaaGreat.CK wx B P (.slice A2 P.vals.length c2)) rfl (by rfl) (by go_simp) ?_
  refine BM (by kernel_rfl) ?_
  obtain ⟨w5,hw5⟩ : ∃ w5,Go.Proofs.YtofgeajaajfiaaaGreat.CK wx B P (.slice A2 P.vals.length c2) = w5:=⟨_,rfl⟩
  have hb5 : Below w.heap.size w w5:=by rw [← hw5];exact Cx h1 hN P (.slice A2 P.vals.length c2)
  have hq5 : AU w5 B P (.slice A2 P.vals.length c2):=by rw [← hw5];exact hQ.CK P (.slice A2 P.vals.length c2)
  rw [hw5]
  have HB5:=As hb5
  have q0:=hq5.c0
  have q1:=hq5.c1
  have q2:=hq5.c2
  have y2':=bc hb5 y2
  clear h1 h2 hB' hN hQ f0 f1 f2 z0 z1 z2 hw5 hq5 x1 y1 y2 p0 p1 p2 hb5
  go_wp2_with (first
   | (go_at_call 50;refine (Cn table 0 3 _).mono ?_;rw [H1.out];rintro e w' ⟨rfl,rfl⟩)
   | (go_at_call 51;refine (GJ HOK.out HZ.out HB5.out HC.out).mono ?_;rintro x w6 ⟨rfl,hb6⟩;have HB6:=As (bj HB5.out hb6);clear hb6))
  go_ret
  exact ⟨Au (by simp [b1,b2]),by first | exact HB6.out | exact HB5.out⟩
set_option maxRecDepth 100000 in
set_option maxHeartbeats 8000000 in
theorem Tz {w0 w : World} {g gx gp gt : Nat} {e : Eng} {p : Nat} {tx table : Int} (hp : p < 5) (hgm : geo e.mem) (hl : e.log.length + 1 ≤ 150) (hdo : FR (pg e.mem p) (DN (Le e tx (p : Int) table) (Ai e.log tx e.log.length)) (e.log.length + 1 : Nat) = true) (h : BR w0 w g e) (bx : Co w gx (.int .i64 tx) 3) (bp : Co w gp (.int .i64 (p : Int)) 3) (bt : Co w gt (.int .i64 table) 3) : Calls Tryz.prog 53 #[ptr g,ptr gx,ptr gp,ptr gt] w (IK w0 g (e.app (Le e tx (p : Int) table))):=by
 have HG:=As h
 obtain ⟨⟨vd,vm,vl,hq,ho⟩, -, -⟩:=h
 obtain ⟨okd,okm, -, -,hpm⟩:=ho.ex
 have hg5:=hgm.1
 obtain ⟨gm,capm,rfl, -, -⟩:=Ci hpm (by omega)
 have hpl : p < e.mem.length:=by omega
 obtain ⟨A2,c2,p0,p1,p2,pC, -⟩:=E5 hpm p hpl
 have hp5i : (p : Int) < 5:=by omega
 have x1:=hq.c1
 have y0:=bx.c0
 have y1:=bp.c0
 have y2:=bt.c0
 have HGM:=As hgm
 have HL:=As hl
 have HDO:=As hdo
 obtain ⟨r,hr⟩ : ∃ r,Le e tx (p : Int) table = r:=⟨_,rfl⟩
 have HR:=As hr
 have HRV : Aa (r.val = .agg #[.int .i64 2, .int .i64 tx, .int .i64 (p : Int), .int .i64 (-1), .int .i64 (pg e.mem p).owner, .int .i64 table, .int .i64 0, .int .i64 0]):=⟨by rw [← hr];rfl⟩
 have HRT : Aa (r.tx = tx):=⟨by rw [← hr];rfl⟩
 have HRP : Aa (r.page = (p : Int)):=⟨by rw [← hr];rfl⟩
 have HCALL : Aa (∀ wx,Below w.heap.size w wx → Calls Tryz.prog 54 #[ptr g, .agg #[.int .i64 2, .int .i64 tx, .int .i64 (p : Int), .int .i64 (-1), .int .i64 (pg e.mem p).owner, .int .i64 table, .int .i64 0, .int .i64 0]] wx (IK w0 g (e.app r))):=⟨fun wx hb => by
  have h:=KL r HL.out HGM.out (by rw [HRP.out];omega) (by have:=HDO.out;rw [HR.out] at this;rw [HRP.out,HRT.out];simpa using this) (HG.out.up hb)
  rw [HRV.out] at h
  exact h⟩
 rw [hr]
 clear ho hpm hq bx bt bp hgm hl hdo hr p0 p2 pC HR HRV HRT HRP HDO HL HGM HG
 go_enter Tryz.func53,Tryz.ntmps53
 go_wp2
 refine AQ (fun lx a wx => Un 13 (fun wx => Below w.heap.size w wx) lx a wx ∧ Sl 13 18 (fun _ wx => BR w0 wx g (e.app r)) lx a wx) 14 rfl (by kernel_rfl) (⟨fun _ => Af (Below.refl _ _),Bb⟩) (fun HT => ?_)
 refine AX [0,1,2,3,4,5,6,7,8,9,10,11,12] ?_
 iterate 13 (refine FL (v:=?_) 13 HT rfl (by kernel_rfl) (by kernel_rfl) rfl (kA (AA rfl) (Aj rfl rfl)) (by rfl) (fun _ _ _ h => h) (fun lx ax wx hK hS => ?_) ?_;rotate_left;(have hbx:=hS.1 hK;clear hS;replace x1:=bc hbx x1;replace y0:=bc hbx y0;replace y1:=bc hbx y1;replace y2:=bc hbx y2;replace p1:=bc hbx p1;go_simp;with_reducible rfl);rotate_left;simp only [sc0,sc1])
 refine AV ?_
 refine C8 (i:=13) (f:=54) (args:=#[ptr g, .agg #[.int .i64 2, .int .i64 tx, .int .i64 (p : Int), .int .i64 (-1), .int .i64 (pg e.mem p).owner, .int .i64 table, .int .i64 0, .int .i64 0]]) (fun _ => True) rfl (by kernel_rfl) rfl Tryz.func54 (by kernel_rfl) rfl rfl (by rfl) (by simp only [List.map_toArray,List.map_cons,List.map_nil];rfl) (fun wx hS => (HCALL.out wx (hS.1 (by kernel_rfl))).mono (by rintro x w6 ⟨⟨v,rfl⟩,hg6⟩;exact ⟨v,rfl,trivial,fun h => (Ap (by kernel_rfl) h).elim,fun _ => hg6⟩)) (fun vx hg => ?_);simp only [sc0,sc1]
 refine Ej (by kernel_rfl) (fun w6 hS => ?_)
 have HG6:=As (hS.2 (by kernel_rfl))
 clear hS hg x1 y0 y1 y2 p1
 go_wp2
 exact bodyPost_ret (v:=.tuple #[]) (by simp [results,Tryz.results53,go_sem]) rfl ⟨⟨_,rfl⟩,HG6.out⟩
theorem Rl {w0 w : World} {e : Eng} {C : Nat → Page} {B : Nat} {Ad Am Al : Option Addr} {cd cm cl gx gp gt : Nat} (tx page table : Int) (hi : Inv e C B) (hB : B + 3 ≤ 150) (hcl : e.log.length ≤ cl) (hb : Below w0.heap.size w0 w) (hr : DC w0 e Ad Am Al) (bx : Co w gx (.int .i64 tx) 3) (bp : Co w gp (.int .i64 page) 3) (bt : Co w gt (.int .i64 table) 3) : Calls Tryz.prog 52 #[e.val Ad Am Al cd cm cl, .int .i64 tx, .int .i64 page, .func (.func 49) #[] #[ptr gp,ptr gt], .func (.func 53) #[] #[ptr gx,ptr gp,ptr gt]] w (D9 w (Ku e tx page table).1 (Ku e tx page table).2):=by
 refine Ka (b:=inB table 0 3 && (((pg e.mem page.toNat).owner == 0) != (table == 0) && F5 (pg e.mem page.toNat).vals)) (X:=e.app (Le e tx page table)) tx page hi.ok hcl hb hr (fun hm wb wx g hbw hg => ?_) (fun hm hbt wb wx g hbw hg => ?_) (fun hm hbt => ?_)
 ·obtain ⟨-, -,h3, -⟩:=DI.1 hm
  obtain ⟨p,rfl⟩ : ∃ p : Nat,page = (p : Int):=⟨page.toNat,by omega⟩
  have hx:=bj hbw hg.bel
  rw [Int.toNat_natCast]
  exact TA (show p < 5 by omega) hi.FT hg (bp.up hx) (bt.up hx)
 ·have hp : ownB e tx page table = true:=by rw [ownB,hm,hbt];rfl
  have hI:=hi.Vr hB hp
  obtain ⟨hd, -,h3, -⟩:=DI.1 hm
  obtain ⟨p,rfl⟩ : ∃ p : Nat,page = (p : Int):=⟨page.toNat,by omega⟩
  have hx:=bj hbw hg.bel
  have hdo:=hi.XH (r:=Le e tx (p : Int) table) hd hI rfl ⟨by show (0 : Int) ≤ (p : Int);omega,by show (p : Int) < 5;omega⟩
  rw [show (Le e tx (p : Int) table).page.toNat = p from Int.toNat_natCast p] at hdo
  exact Tz (by omega) (Ak hi.FT) (hI.Oe (H8 _ _)) hdo hg (bx.up hx) (bp.up hx) (bt.up hx)
 ·exact (hi.Vr hB (by rw [ownB,hm,hbt];rfl)).core.log
set_option maxRecDepth 100000 in
set_option maxHeartbeats 16000000 in
theorem JY {w0 w : World} {e : Eng} {C : Nat → Page} {B : Nat} {Ad Am Al : Option Addr} {cd cm cl : Nat} (tx page table : Int) (hi : Inv e C B) (hB : B + 3 ≤ 150) (hcl : e.log.length ≤ cl) (hb : Below w0.heap.size w0 w) (hr : DC w0 e Ad Am Al) : Calls Tryz.prog 25 #[e.val Ad Am Al cd cm cl, .int .i64 tx, .int .i64 page, .int .i64 table] w (D9 w (Ku e tx page table).1 (Ku e tx page table).2):=by
 obtain ⟨E,bb,hE⟩ : ∃ E bb,Ku e tx page table = (E,bb):=⟨_,_,rfl⟩
 have HIN : Aa (∀ wx g_tx g_page g_table,Below w.heap.size w wx → Co wx g_tx (.int .i64 tx) 3 → Co wx g_page (.int .i64 page) 3 → Co wx g_table (.int .i64 table) 3 → Calls Tryz.prog 52 #[e.val Ad Am Al cd cm cl, .int .i64 tx, .int .i64 page, .func (.func 49) #[] #[ptr g_page,ptr g_table], .func (.func 53) #[] #[ptr g_tx,ptr g_page,ptr g_table]] wx (D9 wx E bb)):=⟨fun wx g_tx g_page g_table hbx b_tx b_page b_table => by
  have h:=Rl (cd:=cd) (cm:=cm) tx page table hi hB hcl (bj hb hbx) hr b_tx b_page b_table
  rw [hE] at h
  exact h⟩
 rw [hE]
 clear hi hb hr hE hcl hB
 go_enter Tryz.func25,Tryz.ntmps25
 go_wp2_with (first
  | (with_reducible refine Ag (vd:=.slice Ad e.disk.length cd) (vm:=.slice Am e.mem.length cm) (vl:=.slice Al e.log.length cl) e ?_;intro w1 hb1 hz1 hq1;clear hz1;have HB:=As hb1;have HQ:=As hq1;clear hb1 hq1)
  | (with_reducible refine DU (t:=3) (.int .i64 tx) ?_;intro w2 hb1 hz1 hq1;clear hz1;replace HB:=As (bj HB.out hb1);replace HQ:=As (HQ.out.up hb1);have HC_tx:=As hq1;clear hb1 hq1)
  | (with_reducible refine DU (t:=3) (.int .i64 page) ?_;intro w3 hb1 hz1 hq1;clear hz1;replace HB:=As (bj HB.out hb1);replace HQ:=As (HQ.out.up hb1);replace HC_tx:=As (HC_tx.out.up hb1);have HC_page:=As hq1;clear hb1 hq1)
  | (with_reducible refine DU (t:=3) (.int .i64 table) ?_;intro w4 hb1 hz1 hq1;clear hz1;replace HB:=As (bj HB.out hb1);replace HQ:=As (HQ.out.up hb1);replace HC_tx:=As (HC_tx.out.up hb1);replace HC_page:=As (HC_page.out.up hb1);have HC_table:=As hq1;clear hb1 hq1)
  | (refine Ag (vd:=.slice none 0 0) (vm:=.slice none 0 0) (vl:=.slice none 0 0) zE ?_;intro w5 hb1 hz1 hq1;have HBG:=As HB.out.size;replace HB:=As (bj HB.out hb1);replace HQ:=As (HQ.out.up hb1);replace HC_tx:=As (HC_tx.out.up hb1);replace HC_page:=As (HC_page.out.up hb1);replace HC_table:=As (HC_table.out.up hb1);have HP:=As hq1;have HZ:=As hz1;have x0:=HQ.out.c0;have x1:=HQ.out.c1;have x2:=HQ.out.c2;have x3:=HQ.out.c3;have x4:=HQ.out.c4;have c_tx:=HC_tx.out.c0;have c_page:=HC_page.out.c0;have c_table:=HC_table.out.c0;clear hb1 hz1 hq1)
  | (go_at_call 52;refine (HIN.out w5 _ _ _ HB.out HC_tx.out HC_page.out HC_table.out).mono ?_;rintro x w6 ⟨vd,vm,vl,rfl,ho,hb2⟩;obtain ⟨Ed,n1,Em,n2,El,n3,rfl,rfl,rfl, -, -⟩:=ho.reads;have HO:=As ho;have HX:=As hb2;have hp:=HP.out.up hb2;have HP2:=As hp;have y0:=hp.c0;have y1:=hp.c1;have y2:=hp.c2;have y3:=hp.c3;have y4:=hp.c4;have f0:=hp.frz 0;have f1:=hp.frz 1;have f2:=hp.frz 2;have f3:=hp.frz 3;have f4:=hp.frz 4;clear hp hb2 ho x0 x1 x2 x3 x4 c_tx c_page c_table))
 have hy:=HP2.out.Ao E (.slice Ed E.disk.length n1) (.slice Em E.mem.length n2) (.slice El E.log.length n3)
 have h1:=HO.out.Ao (f:=E) (xd:=.slice Ed E.disk.length n1) (xm:=.slice Em E.mem.length n2) (xl:=.slice El E.log.length n3) HP2.out
 have hge:=HBG.out
 have hzz:=HZ.out
 have h2:=Ah (g:=w4.heap.size) (bj HB.out HX.out) hge E (.slice Ed E.disk.length n1) (.slice Em E.mem.length n2) (.slice El E.log.length n3)
 have z0:=hy.c0
 have z1:=hy.c1
 have z2:=hy.c2
 have z3:=hy.c3
 have z4:=hy.c4
 exact bodyPost_ret (v:=.tuple #[E.ag (.slice Ed E.disk.length n1) (.slice Em E.mem.length n2) (.slice El E.log.length n3), .bool bb]) (by simp [results,Tryz.results25,go_sem,z0,z1,z2,z3,z4]) rfl ⟨_,_,_,rfl,h1.lower (by omega),h2⟩
set_option maxRecDepth 100000 in
set_option maxHeartbeats 16000000 in
theorem JL {w0 w : World} {e : Eng} {Ad Am Al : Option Addr} {cd cm cl : Nat} (tx page : Int) {p5 p6 p7 : Value} {b : Bool} {X : Eng} (hok : eOk e = true) (hcl : e.log.length ≤ cl) (hb : Below w0.heap.size w0 w) (hr : DC w0 e Ad Am Al)
  (hh : DR e tx page = true → ∀ wb wx g,Below w.heap.size w wb → BR wb wx g e → Calls Tryz.prog 130 #[ptr g,p6,p7,p5] wx fun x w' => x = .returned (.bool b) ∧ Below wx.heap.size wx w')
  (hw : DR e tx page = true → b = true → ∀ wb wx g,Below w.heap.size w wb → BR wb wx g e → Calls Tryz.prog 134 #[ptr g,p5,p6,p7] wx (IK wb g X))
  (hX : DR e tx page = true → b = true → AB X.log = true) : Calls Tryz.prog 52 #[e.val Ad Am Al cd cm cl, .int .i64 tx, .int .i64 page, .func (.func 130) #[] #[p6,p7,p5], .func (.func 134) #[] #[p5,p6,p7]] w (D9 w (Bp e (DR e tx page && b) X).1 (Bp e (DR e tx page && b) X).2):=by
 have HR:=As (hr.up hb)
 have HH:=As hh
 have HW:=As hw
 have HLX:=As hX
 have HV:=As hok
 have HF:=As (Fv.1 hok)
 have HLG:=As (Bo HF.out.log)
 clear hr hb hh hw hX hok
 obtain ⟨w1,hw1⟩ : ∃ w1,w.alloc (e.obox (.slice Ad e.disk.length cd) (.slice Am e.mem.length cm) (.slice Al e.log.length cl)) = w1:=⟨_,rfl⟩
 obtain ⟨w2,hw2⟩ : ∃ w2,w1.alloc (zE.obox (.slice none 0 0) (.slice none 0 0) (.slice none 0 0)) = w2:=⟨_,rfl⟩
 have hz1 : w1.heap.size = w.heap.size + 1:=by rw [← hw1];exact BJ _ _
 have hz2 : w2.heap.size = w.heap.size + 2:=by rw [← hw2,BJ,hz1]
 have hb12 : Below w1.heap.size w1 w2:=by rw [← hw2];exact Ab (Below.refl _ _) _
 have HB2 : Aa (Below w.heap.size w w2):=⟨by rw [← hw2, ← hw1];exact Ab (Ab (Below.refl _ _) _) _⟩
 have HQ2 : Aa (Ac w2 w.heap.size e (.slice Ad e.disk.length cd) (.slice Am e.mem.length cm) (.slice Al e.log.length cl)):=⟨Ac.up (by rw [← hw1];exact Ac.mk1 _ _ _ _ _) hb12⟩
 have HP2 : Aa (Ac w2 (w.heap.size + 1) zE (.slice none 0 0) (.slice none 0 0) (.slice none 0 0)):=⟨by rw [← hw2, ← hz1];exact Ac.mk1 _ _ _ _ _⟩
 have HW2 : Aa ((w.alloc (e.obox (.slice Ad e.disk.length cd) (.slice Am e.mem.length cm) (.slice Al e.log.length cl))).alloc (zE.obox (.slice none 0 0) (.slice none 0 0) (.slice none 0 0)) = w2):=⟨by rw [hw1,hw2]⟩
 have HZ2:=As hz2
 clear hw1 hw2 hz1 hz2 hb12
 have x0:=HQ2.out.c0
 have x1:=HQ2.out.c1
 have x2:=HQ2.out.c2
 have x3:=HQ2.out.c3
 have x4:=HQ2.out.c4
 cases hm : DR e tx page
 ·have HM:=As hm
  rw [show Bp e (false && b) X = (e,false) by rw [Bp,if_neg (by simp)]]
  clear hm
  go_enter Tryz.func52,Tryz.ntmps52
  go_wp2_with (first
   | (go_at_call 43;rw [show (w.alloc (Obj.cells #[Value.slice Ad e.disk.length cd,Value.slice Am e.mem.length cm,Value.slice Al e.log.length cl,Value.int IntKind.i64 e.safe,Value.bool e.down] 28)).alloc (Obj.cells #[Value.slice none 0 0,Value.slice none 0 0,Value.slice none 0 0,Value.int IntKind.i64 0,Value.bool false] 28) = w2 from HW2.out];refine (Aw (cd:=cd) (cm:=cm) HV.out hcl HB2.out HR.out).mono ?_;rintro x w3 ⟨rfl,hb3⟩;have HX3:=As hb3;replace x0:=bc hb3 x0;replace x1:=bc hb3 x1;replace x2:=bc hb3 x2;replace x3:=bc hb3 x3;replace x4:=bc hb3 x4;clear hb3)
   | (go_at_call 45;refine (AP (cd:=cd) (cm:=cm) (cl:=cl) (Ak HF.out.disk) (Ak HF.out.mem) HLG.out (bj HB2.out HX3.out) HR.out).mono ?_;rintro x w4 ⟨vd,vm,vl,rfl,ho,hb4⟩;obtain ⟨Bd,dd,Bm,dm,Bl,dl,rfl,rfl,rfl, -, -⟩:=ho.reads;have HO4:=As ho;have HX4:=As hb4;replace x0:=bc hb4 x0;replace x1:=bc hb4 x1;replace x2:=bc hb4 x2;replace x3:=bc hb4 x3;replace x4:=bc hb4 x4;clear ho hb4)
   | (refine Ag (vd:=.slice Bd e.disk.length dd) (vm:=.slice Bm e.mem.length dm) (vl:=.slice Bl e.log.length dl) e ?_;intro w5 hb5 _ hq5;have HG5 : Aa (BR w3 w5 w4.heap.size e):=⟨⟨⟨_,_,_,hq5,HO4.out.below hb5⟩,bj HX4.out hb5,HX4.out.size⟩⟩;replace x0:=bc hb5 x0;replace x1:=bc hb5 x1;replace x2:=bc hb5 x2;replace x3:=bc hb5 x3;replace x4:=bc hb5 x4;clear hb5 hq5)
   | (go_at_call 103;refine (DV tx page HF.out.log HG5.out).mono ?_;rw [HM.out];rintro x w6 ⟨rfl,hb6⟩;have HG6:=As (HG5.out.up hb6);replace x0:=bc hb6 x0;replace x1:=bc hb6 x1;replace x2:=bc hb6 x2;replace x3:=bc hb6 x3;replace x4:=bc hb6 x4;clear hb6;clear x0 x1 x2 x3 x4;obtain ⟨ud,um,ul,hq,ho⟩:=HG6.out.ex;obtain ⟨Ed,n1,Em,n2,El,n3,rfl,rfl,rfl, -, -⟩:=ho.reads;have HO7:=As ho;have q0:=hq.c0;have q1:=hq.c1;have q2:=hq.c2;have q3:=hq.c3;have q4:=hq.c4;have hx2:=bj HX3.out HG6.out.bel;have HX7:=As HG6.out.bel;have hp:=HP2.out.up hx2;have HP7:=As hp;have y0:=hp.c0;have y1:=hp.c1;have y2:=hp.c2;have y3:=hp.c3;have y4:=hp.c4;have f0:=hp.frz 0;have f1:=hp.frz 1;have f2:=hp.frz 2;have f3:=hp.frz 3;have f4:=hp.frz 4;clear hp;clear hq ho hx2))
  have hz:=HZ2.out
  have hn3:=HX3.out.size
  have hy:=HP7.out.Ao e (.slice Ed e.disk.length n1) (.slice Em e.mem.length n2) (.slice El e.log.length n3)
  have h1:=HO7.out.Ao (f:=e) (xd:=.slice Ed e.disk.length n1) (xm:=.slice Em e.mem.length n2) (xl:=.slice El e.log.length n3) HP7.out
  have h2:=Ah (g:=w.heap.size + 1) (bj HB2.out (bj HX3.out HX7.out)) (by omega) e (.slice Ed e.disk.length n1) (.slice Em e.mem.length n2) (.slice El e.log.length n3)
  have z0:=hy.c0
  have z1:=hy.c1
  have z2:=hy.c2
  have z3:=hy.c3
  have z4:=hy.c4
  exact bodyPost_ret (v:=.tuple #[e.ag (.slice Ed e.disk.length n1) (.slice Em e.mem.length n2) (.slice El e.log.length n3), .bool false]) (by simp [results,Tryz.results52,go_sem,z0,z1,z2,z3,z4]) rfl ⟨_,_,_,rfl,h1.lower (by omega),h2⟩
 ·have HM:=As hm
  clear hm
  cases b
  ·rw [show Bp e (true && false) X = (e,false) by rw [Bp,if_neg (by simp)]]
   go_enter Tryz.func52,Tryz.ntmps52
   go_wp2_with (first
    | (go_at_call 43;rw [show (w.alloc (Obj.cells #[Value.slice Ad e.disk.length cd,Value.slice Am e.mem.length cm,Value.slice Al e.log.length cl,Value.int IntKind.i64 e.safe,Value.bool e.down] 28)).alloc (Obj.cells #[Value.slice none 0 0,Value.slice none 0 0,Value.slice none 0 0,Value.int IntKind.i64 0,Value.bool false] 28) = w2 from HW2.out];refine (Aw (cd:=cd) (cm:=cm) HV.out hcl HB2.out HR.out).mono ?_;rintro x w3 ⟨rfl,hb3⟩;have HX3:=As hb3;replace x0:=bc hb3 x0;replace x1:=bc hb3 x1;replace x2:=bc hb3 x2;replace x3:=bc hb3 x3;replace x4:=bc hb3 x4;clear hb3)
    | (go_at_call 45;refine (AP (cd:=cd) (cm:=cm) (cl:=cl) (Ak HF.out.disk) (Ak HF.out.mem) HLG.out (bj HB2.out HX3.out) HR.out).mono ?_;rintro x w4 ⟨vd,vm,vl,rfl,ho,hb4⟩;obtain ⟨Bd,dd,Bm,dm,Bl,dl,rfl,rfl,rfl, -, -⟩:=ho.reads;have HO4:=As ho;have HX4:=As hb4;replace x0:=bc hb4 x0;replace x1:=bc hb4 x1;replace x2:=bc hb4 x2;replace x3:=bc hb4 x3;replace x4:=bc hb4 x4;clear ho hb4)
    | (refine Ag (vd:=.slice Bd e.disk.length dd) (vm:=.slice Bm e.mem.length dm) (vl:=.slice Bl e.log.length dl) e ?_;intro w5 hb5 _ hq5;have HG5 : Aa (BR w3 w5 w4.heap.size e):=⟨⟨⟨_,_,_,hq5,HO4.out.below hb5⟩,bj HX4.out hb5,HX4.out.size⟩⟩;replace x0:=bc hb5 x0;replace x1:=bc hb5 x1;replace x2:=bc hb5 x2;replace x3:=bc hb5 x3;replace x4:=bc hb5 x4;clear hb5 hq5)
    | (go_at_call 103;refine (DV tx page HF.out.log HG5.out).mono ?_;rw [HM.out];rintro x w6 ⟨rfl,hb6⟩;have HG6:=As (HG5.out.up hb6);replace x0:=bc hb6 x0;replace x1:=bc hb6 x1;replace x2:=bc hb6 x2;replace x3:=bc hb6 x3;replace x4:=bc hb6 x4;clear hb6)
    | (go_at_call 130;refine (HH.out HM.out w3 w6 w4.heap.size (bj HB2.out HX3.out) HG6.out).mono ?_;rintro x w7 ⟨rfl,hb7⟩;have HG7:=As (HG6.out.up hb7);replace x0:=bc hb7 x0;replace x1:=bc hb7 x1;replace x2:=bc hb7 x2;replace x3:=bc hb7 x3;replace x4:=bc hb7 x4;clear hb7;clear x0 x1 x2 x3 x4;obtain ⟨ud,um,ul,hq,ho⟩:=HG7.out.ex;obtain ⟨Ed,n1,Em,n2,El,n3,rfl,rfl,rfl, -, -⟩:=ho.reads;have HO7:=As ho;have q0:=hq.c0;have q1:=hq.c1;have q2:=hq.c2;have q3:=hq.c3;have q4:=hq.c4;have hx2:=bj HX3.out HG7.out.bel;have HX7:=As HG7.out.bel;have hp:=HP2.out.up hx2;have HP7:=As hp;have y0:=hp.c0;have y1:=hp.c1;have y2:=hp.c2;have y3:=hp.c3;have y4:=hp.c4;have f0:=hp.frz 0;have f1:=hp.frz 1;have f2:=hp.frz 2;have f3:=hp.frz 3;have f4:=hp.frz 4;clear hp;clear hq ho hx2))
   have hz:=HZ2.out
   have hn3:=HX3.out.size
   have hy:=HP7.out.Ao e (.slice Ed e.disk.length n1) (.slice Em e.mem.length n2) (.slice El e.log.length n3)
   have h1:=HO7.out.Ao (f:=e) (xd:=.slice Ed e.disk.length n1) (xm:=.slice Em e.mem.length n2) (xl:=.slice El e.log.length n3) HP7.out
   have h2:=Ah (g:=w.heap.size + 1) (bj HB2.out (bj HX3.out HX7.out)) (by omega) e (.slice Ed e.disk.length n1) (.slice Em e.mem.length n2) (.slice El e.log.length n3)
   have z0:=hy.c0
   have z1:=hy.c1
   have z2:=hy.c2
   have z3:=hy.c3
   have z4:=hy.c4
   exact bodyPost_ret (v:=.tuple #[e.ag (.slice Ed e.disk.length n1) (.slice Em e.mem.length n2) (.slice El e.log.length n3), .bool false]) (by simp [results,Tryz.results52,go_sem,z0,z1,z2,z3,z4]) rfl ⟨_,_,_,rfl,h1.lower (by omega),h2⟩
  ·cases hfx : Jj X.log
   all_goals have HFX:=As hfx;have HWW:=As (HW.out HM.out rfl);have HLL:=As (HLX.out HM.out rfl);clear HW HLX
   ·rw [show Bp e (true && true) X = (e,false) by rw [Bp,if_neg (by rw [hfx];simp)]]
    clear hfx
    go_enter Tryz.func52,Tryz.ntmps52
    go_wp2_with (first
     | (go_at_call 43;rw [show (w.alloc (Obj.cells #[Value.slice Ad e.disk.length cd,Value.slice Am e.mem.length cm,Value.slice Al e.log.length cl,Value.int IntKind.i64 e.safe,Value.bool e.down] 28)).alloc (Obj.cells #[Value.slice none 0 0,Value.slice none 0 0,Value.slice none 0 0,Value.int IntKind.i64 0,Value.bool false] 28) = w2 from HW2.out];refine (Aw (cd:=cd) (cm:=cm) HV.out hcl HB2.out HR.out).mono ?_;rintro x w3 ⟨rfl,hb3⟩;have HX3:=As hb3;replace x0:=bc hb3 x0;replace x1:=bc hb3 x1;replace x2:=bc hb3 x2;replace x3:=bc hb3 x3;replace x4:=bc hb3 x4;clear hb3)
     | (go_at_call 45;refine (AP (cd:=cd) (cm:=cm) (cl:=cl) (Ak HF.out.disk) (Ak HF.out.mem) HLG.out (bj HB2.out HX3.out) HR.out).mono ?_;rintro x w4 ⟨vd,vm,vl,rfl,ho,hb4⟩;obtain ⟨Bd,dd,Bm,dm,Bl,dl,rfl,rfl,rfl, -, -⟩:=ho.reads;have HO4:=As ho;have HX4:=As hb4;replace x0:=bc hb4 x0;replace x1:=bc hb4 x1;replace x2:=bc hb4 x2;replace x3:=bc hb4 x3;replace x4:=bc hb4 x4;clear ho hb4)
     | (refine Ag (vd:=.slice Bd e.disk.length dd) (vm:=.slice Bm e.mem.length dm) (vl:=.slice Bl e.log.length dl) e ?_;intro w5 hb5 _ hq5;have HG5 : Aa (BR w3 w5 w4.heap.size e):=⟨⟨⟨_,_,_,hq5,HO4.out.below hb5⟩,bj HX4.out hb5,HX4.out.size⟩⟩;replace x0:=bc hb5 x0;replace x1:=bc hb5 x1;replace x2:=bc hb5 x2;replace x3:=bc hb5 x3;replace x4:=bc hb5 x4;clear hb5 hq5)
     | (go_at_call 103;refine (DV tx page HF.out.log HG5.out).mono ?_;rw [HM.out];rintro x w6 ⟨rfl,hb6⟩;have HG6:=As (HG5.out.up hb6);replace x0:=bc hb6 x0;replace x1:=bc hb6 x1;replace x2:=bc hb6 x2;replace x3:=bc hb6 x3;replace x4:=bc hb6 x4;clear hb6)
     | (go_at_call 130;refine (HH.out HM.out w3 w6 w4.heap.size (bj HB2.out HX3.out) HG6.out).mono ?_;rintro x w7 ⟨rfl,hb7⟩;have HG7:=As (HG6.out.up hb7);replace x0:=bc hb7 x0;replace x1:=bc hb7 x1;replace x2:=bc hb7 x2;replace x3:=bc hb7 x3;replace x4:=bc hb7 x4;clear hb7)
     | (go_at_call 134;refine (HWW.out w3 w7 w4.heap.size (bj HB2.out HX3.out) HG7.out).mono ?_;rintro x w8 ⟨⟨v,rfl⟩,hg8⟩;obtain ⟨ud,um,ul,hq,ho⟩:=hg8.ex;obtain ⟨Ed,n1,Em,n2,El,n3,rfl,rfl,rfl, -,hc⟩:=ho.reads;have HO8:=As ho;have HC8:=As hc;have HX8:=As hg8.bel;have q0:=hq.c0;have q1:=hq.c1;have q2:=hq.c2;have q3:=hq.c3;have q4:=hq.c4;clear x0 x1 x2 x3 x4;have hq2:=HQ2.out.up (bj HX3.out hg8.bel);have x0:=hq2.c0;have x1:=hq2.c1;have x2:=hq2.c2;have x3:=hq2.c3;have x4:=hq2.c4;clear hq ho hc hq2 hg8)
     | (go_at_call 84;refine (Ep (w0:=w8) (c:=n3) (Below.refl _ _) HC8.out.l HLL.out).mono ?_;rw [HFX.out];rintro x w9 ⟨rfl,hb9⟩;replace x0:=bc hb9 x0;replace x1:=bc hb9 x1;replace x2:=bc hb9 x2;replace x3:=bc hb9 x3;replace x4:=bc hb9 x4;have HX9:=As (bj HX8.out hb9);clear q0 q1 q2 q3 q4 hb9)
     | (go_at_call 45;refine (AP (cd:=cd) (cm:=cm) (cl:=cl) (Ak HF.out.disk) (Ak HF.out.mem) HLG.out (bj HB2.out (bj HX3.out HX9.out)) HR.out).mono ?_;rintro x w10 ⟨vd,vm,vl,rfl,ho,hb10⟩;obtain ⟨Ed,n1,Em,n2,El,n3,rfl,rfl,rfl, -, -⟩:=ho.reads;have HO7:=As (ho.lower (b':=w3.heap.size) HX9.out.size);have HX7:=As (bj HX9.out hb10);clear x0 x1 x2 x3 x4 ho hb10;have hp:=HP2.out.up (bj HX3.out HX7.out);have HP7:=As hp;have y0:=hp.c0;have y1:=hp.c1;have y2:=hp.c2;have y3:=hp.c3;have y4:=hp.c4;have f0:=hp.frz 0;have f1:=hp.frz 1;have f2:=hp.frz 2;have f3:=hp.frz 3;have f4:=hp.frz 4;clear hp))
    have hz:=HZ2.out
    have hn3:=HX3.out.size
    have hy:=HP7.out.Ao e (.slice Ed e.disk.length n1) (.slice Em e.mem.length n2) (.slice El e.log.length n3)
    have h1:=HO7.out.Ao (f:=e) (xd:=.slice Ed e.disk.length n1) (xm:=.slice Em e.mem.length n2) (xl:=.slice El e.log.length n3) HP7.out
    have h2:=Ah (g:=w.heap.size + 1) (bj HB2.out (bj HX3.out HX7.out)) (by omega) e (.slice Ed e.disk.length n1) (.slice Em e.mem.length n2) (.slice El e.log.length n3)
    have z0:=hy.c0
    have z1:=hy.c1
    have z2:=hy.c2
    have z3:=hy.c3
    have z4:=hy.c4
    exact bodyPost_ret (v:=.tuple #[e.ag (.slice Ed e.disk.length n1) (.slice Em e.mem.length n2) (.slice El e.log.length n3), .bool false]) (by simp [results,Tryz.results52,go_sem,z0,z1,z2,z3,z4]) rfl ⟨_,_,_,rfl,h1.lower (by omega),h2⟩
   ·rw [show Bp e (true && true) X = (X,true) by rw [Bp,if_pos ⟨rfl,hfx⟩]]
    clear hfx
    go_enter Tryz.func52,Tryz.ntmps52
    go_wp2_with (first
     | (go_at_call 43;rw [show (w.alloc (Obj.cells #[Value.slice Ad e.disk.length cd,Value.slice Am e.mem.length cm,Value.slice Al e.log.length cl,Value.int IntKind.i64 e.safe,Value.bool e.down] 28)).alloc (Obj.cells #[Value.slice none 0 0,Value.slice none 0 0,Value.slice none 0 0,Value.int IntKind.i64 0,Value.bool false] 28) = w2 from HW2.out];refine (Aw (cd:=cd) (cm:=cm) HV.out hcl HB2.out HR.out).mono ?_;rintro x w3 ⟨rfl,hb3⟩;have HX3:=As hb3;replace x0:=bc hb3 x0;replace x1:=bc hb3 x1;replace x2:=bc hb3 x2;replace x3:=bc hb3 x3;replace x4:=bc hb3 x4;clear hb3)
     | (go_at_call 45;refine (AP (cd:=cd) (cm:=cm) (cl:=cl) (Ak HF.out.disk) (Ak HF.out.mem) HLG.out (bj HB2.out HX3.out) HR.out).mono ?_;rintro x w4 ⟨vd,vm,vl,rfl,ho,hb4⟩;obtain ⟨Bd,dd,Bm,dm,Bl,dl,rfl,rfl,rfl, -, -⟩:=ho.reads;have HO4:=As ho;have HX4:=As hb4;replace x0:=bc hb4 x0;replace x1:=bc hb4 x1;replace x2:=bc hb4 x2;replace x3:=bc hb4 x3;replace x4:=bc hb4 x4;clear ho hb4)
     | (refine Ag (vd:=.slice Bd e.disk.length dd) (vm:=.slice Bm e.mem.length dm) (vl:=.slice Bl e.log.length dl) e ?_;intro w5 hb5 _ hq5;have HG5 : Aa (BR w3 w5 w4.heap.size e):=⟨⟨⟨_,_,_,hq5,HO4.out.below hb5⟩,bj HX4.out hb5,HX4.out.size⟩⟩;replace x0:=bc hb5 x0;replace x1:=bc hb5 x1;replace x2:=bc hb5 x2;replace x3:=bc hb5 x3;replace x4:=bc hb5 x4;clear hb5 hq5)
     | (go_at_call 103;refine (DV tx page HF.out.log HG5.out).mono ?_;rw [HM.out];rintro x w6 ⟨rfl,hb6⟩;have HG6:=As (HG5.out.up hb6);replace x0:=bc hb6 x0;replace x1:=bc hb6 x1;replace x2:=bc hb6 x2;replace x3:=bc hb6 x3;replace x4:=bc hb6 x4;clear hb6)
     | (go_at_call 130;refine (HH.out HM.out w3 w6 w4.heap.size (bj HB2.out HX3.out) HG6.out).mono ?_;rintro x w7 ⟨rfl,hb7⟩;have HG7:=As (HG6.out.up hb7);replace x0:=bc hb7 x0;replace x1:=bc hb7 x1;replace x2:=bc hb7 x2;replace x3:=bc hb7 x3;replace x4:=bc hb7 x4;clear hb7)
     | (go_at_call 134;refine (HWW.out w3 w7 w4.heap.size (bj HB2.out HX3.out) HG7.out).mono ?_;rintro x w8 ⟨⟨v,rfl⟩,hg8⟩;obtain ⟨ud,um,ul,hq,ho⟩:=hg8.ex;obtain ⟨Ed,n1,Em,n2,El,n3,rfl,rfl,rfl, -,hc⟩:=ho.reads;have HO8:=As ho;have HC8:=As hc;have HX8:=As hg8.bel;have q0:=hq.c0;have q1:=hq.c1;have q2:=hq.c2;have q3:=hq.c3;have q4:=hq.c4;clear x0 x1 x2 x3 x4;have hq2:=HQ2.out.up (bj HX3.out hg8.bel);have x0:=hq2.c0;have x1:=hq2.c1;have x2:=hq2.c2;have x3:=hq2.c3;have x4:=hq2.c4;clear hq ho hc hq2 hg8)
     | (go_at_call 84;refine (Ep (w0:=w8) (c:=n3) (Below.refl _ _) HC8.out.l HLL.out).mono ?_;rw [HFX.out];rintro x w9 ⟨rfl,hb9⟩;replace q0:=bc hb9 q0;replace q1:=bc hb9 q1;replace q2:=bc hb9 q2;replace q3:=bc hb9 q3;replace q4:=bc hb9 q4;clear x0 x1 x2 x3 x4;have HX7:=As (bj HX8.out hb9);have HO7:=As (HO8.out.below hb9);have hp:=HP2.out.up (bj HX3.out HX7.out);have HP7:=As hp;have y0:=hp.c0;have y1:=hp.c1;have y2:=hp.c2;have y3:=hp.c3;have y4:=hp.c4;have f0:=hp.frz 0;have f1:=hp.frz 1;have f2:=hp.frz 2;have f3:=hp.frz 3;have f4:=hp.frz 4;clear hp;clear hb9))
    have hz:=HZ2.out
    have hn3:=HX3.out.size
    have hy:=HP7.out.Ao X (.slice Ed X.disk.length n1) (.slice Em X.mem.length n2) (.slice El X.log.length n3)
    have h1:=HO7.out.Ao (f:=X) (xd:=.slice Ed X.disk.length n1) (xm:=.slice Em X.mem.length n2) (xl:=.slice El X.log.length n3) HP7.out
    have h2:=Ah (g:=w.heap.size + 1) (bj HB2.out (bj HX3.out HX7.out)) (by omega) X (.slice Ed X.disk.length n1) (.slice Em X.mem.length n2) (.slice El X.log.length n3)
    have z0:=hy.c0
    have z1:=hy.c1
    have z2:=hy.c2
    have z3:=hy.c3
    have z4:=hy.c4
    exact bodyPost_ret (v:=.tuple #[X.ag (.slice Ed X.disk.length n1) (.slice Em X.mem.length n2) (.slice El X.log.length n3), .bool true]) (by simp [results,Tryz.results52,go_sem,z0,z1,z2,z3,z4]) rfl ⟨_,_,_,rfl,h1.lower (by omega),h2⟩
def Uf (r : Rec) (page : Int) : Bool:=r.kind == 2 && (r.page == page && r.new != 0)
def NP (l : List Rec) (page : Int) (ks : List Nat) : Bool:=ks.any fun m => Uf (rc l (m - 1)) page
set_option maxRecDepth 100000 in
set_option maxHeartbeats 8000000 in
theorem Tg {w0 w : World} {g go gp : Nat} {e : Eng} {k : Nat} {page : Int} {b : Bool} (hv : Uf (rc e.log k) page = b) (hk : k < e.log.length) (hl : e.log.length ≤ 150) (h : BR w0 w g e) (bo : Co w go (ptr g) 66) (bp : Co w gp (.int .i64 page) 3) : Calls Tryz.prog 131 #[.int .i64 ((k : Int) + 1),ptr go,ptr gp] w fun x w' => x = .returned (.bool b) ∧ Below w.heap.size w w':=by
 obtain ⟨⟨vd,vm,vl,hq,ho⟩, -, -⟩:=h
 obtain ⟨Ad,cd,Am,cm,Al,cl,rfl,rfl,rfl, -,hrd⟩:=ho.reads
 obtain ⟨ad,rfl,QR⟩:=CS hrd.l k hk
 obtain ⟨z0,z1,z2,z3,z4,z5,z6,z7⟩:=QR
 have x2:=hq.c2
 have y0:=bo.c0
 have y1:=bp.c0
 have HY1:=As y1
 have HV:=As hv
 have hwr0 : IntKind.i64.wrap (k : Int) = (k : Int):=by simp (disch:=omega) only [IntWalk.i64_in]
 have hwr1 : IntKind.i64.wrap ((k : Int) + 1 - 1) = (k : Int):=by rw [show ((k : Int) + 1 - 1) = (k : Int) by omega];exact hwr0
 obtain ⟨r,hr⟩ : ∃ r,rc e.log k = r:=⟨_,rfl⟩
 rw [hr] at z0 z1 z2 z3 z4 z5 z6 z7 HV
 clear ho hq hrd bo bp hv hr
 rcases BQ r.kind 2 with ⟨e1,b1,c1⟩ | ⟨e1,b1,c1⟩
 all_goals rcases BQ r.page page with ⟨e2,b2,c2⟩ | ⟨e2,b2,c2⟩
 all_goals rcases BQ r.new 0 with ⟨e3,b3,c3⟩ | ⟨e3,b3,c3⟩
 all_goals
  go_enter Tryz.func131,Tryz.ntmps131
  go_wp2_with (with_reducible refine CJ r ?_;intro w2 hb2 hz2 hq2;have HW2:=As hb2;obtain ⟨q0,q1,q2,q3,q4,q5,q6,q7⟩:=hq2;simp only [Nat.zero_add] at q1 q2 q3 q4 q5 q6 q7;have y1:=bc hb2 HY1.out;clear hb2)
  go_ret
  exact ⟨Au (by rw [← HV.out,Uf];simp [b1,b2,b3,c3]),HW2.out⟩
set_option maxRecDepth 100000 in
set_option maxHeartbeats 8000000 in
theorem TN {w0 w : World} {g go gp : Nat} {e : Eng} {page : Int} {ks : List Nat} {B : Option Addr} {d : Nat} (hm : ∀ m ∈ ks,0 < m ∧ m ≤ e.log.length) (hl : e.log.length ≤ 150) (h : BR w0 w g e) (bo : Co w go (ptr g) 66) (bp : Co w gp (.int .i64 page) 3) (hx : Kd.C (Kd.int .i64) w B (ints ks).length (ints ks)) : Calls Tryz.prog 152 #[.slice B (ints ks).length d, .func (.func 131) #[] #[ptr go,ptr gp]] w (WY (NP e.log page ks) w):=by
 have HG:=As h
 have HX:=As hx
 have HO:=As bo
 have HP:=As bp
 have HM:=As hm
 have HL:=As hl
 have hmx:=(Cg hx).2
 have hln : (ints ks).length = ks.length:=by simp [ints]
 rw [hln] at hmx ⊢
 clear h hx bo bp hm hl hln
 go_enter Tryz.func152,Tryz.ntmps152
 go_wp2
 go_loopw [8] (fun i wr => ∃ k : Nat,k ≤ ks.length ∧ i = .int .i64 (k : Int) ∧ Aa (NP e.log page ks = NP e.log page (ks.drop k)) ∧ Aa (Below w.heap.size w wr)) (fun i _ => (ks.length - intOf i).toNat)
 case atStart => exact ⟨0,Nat.zero_le _,rfl,⟨rfl⟩,⟨Below.refl _ _⟩⟩
 case round =>
  obtain ⟨k,hk,rfl,HK,HW⟩:=hrel
  by_cases hlt : k < ks.length
  ·obtain ⟨ad,rfl,g0⟩:=Dj HX.out k (by simpa [ints] using hlt)
   replace g0:=bc HW.out g0
   rw [MG hlt] at g0
   obtain ⟨n,hn⟩ : ∃ n,ks[k] = n:=⟨_,rfl⟩
   obtain ⟨hn0,hnl⟩:=HM.out n (hn ▸ List.getElem_mem hlt)
   have HD:=As (show ks.drop k = n :: ks.drop (k + 1) by rw [List.drop_eq_getElem_cons hlt,hn])
   rw [hn] at g0
   obtain ⟨m,rfl⟩ : ∃ m,n = m + 1:=⟨n - 1,by omega⟩
   rw [show ((m + 1 : Nat) : Int) = (m : Int) + 1 from rfl] at g0
   have hml : m < e.log.length:=by omega
   cases hp : Uf (rc e.log m) page
   all_goals
    have HPP:=As hp
    have HN:=As hml
    clear hp hn hn0 hnl hml
    go_wp2_with (go_at_call 131;refine (Tg HPP.out HN.out HL.out (HG.out.up HW.out) (HO.out.up HW.out) (HP.out.up HW.out)).mono ?_;rintro x w1 ⟨rfl,hb1⟩;have HW1:=As (bj HW.out hb1);clear hb1)
   ·go_roundw
    case rel => exact ⟨k + 1,by omega,by go_num,⟨by rw [HK.out,HD.out,NP,List.any_cons,Nat.add_sub_cancel,HPP.out];rfl⟩,HW1⟩
    case measure => simp [intOf];omega
   ·go_ret
    exact ⟨k,rfl,by rw [HK.out,HD.out,NP,List.any_cons,Nat.add_sub_cancel,HPP.out];simp,HW1.out⟩
  ·have hke : k = ks.length:=by omega
   go_wp2
   go_ret
   exact ⟨-1,rfl,by rw [HK.out,hke,List.drop_length];rfl,HW.out⟩
theorem PU {w0 w : World} {g go gp : Nat} {e : Eng} {page : Int} {ks : List Nat} {B : Option Addr} {d : Nat} (hm : ∀ m ∈ ks,0 < m ∧ m ≤ e.log.length) (hl : e.log.length ≤ 150) (h : BR w0 w g e) (bo : Co w go (ptr g) 66) (bp : Co w gp (.int .i64 page) 3) (hx : Kd.C (Kd.int .i64) w B (ints ks).length (ints ks)) : Calls Tryz.prog 133 #[.slice B (ints ks).length d, .func (.func 131) #[] #[ptr go,ptr gp]] w fun x w' => x = .returned (.bool (NP e.log page ks)) ∧ Below w.heap.size w w':=by
 have HF:=As (TN (d:=d) hm hl h bo bp hx)
 clear hm hl h bo bp hx
 go_enter Tryz.func133,Tryz.ntmps133
 go_wp2_with (go_at_call 152;refine HF.out.mono ?_;rintro e w' ⟨i,rfl,hi,hb⟩)
 go_ret
 exact ⟨by first | exact Au hi | rfl,hb⟩
theorem Xe (l : List Rec) (tx page : Int) : NQ l tx page = NP l page (BD l (Ai l tx l.length)):=rfl
set_option maxRecDepth 100000 in
set_option maxHeartbeats 16000000 in
theorem Sg {w0 w : World} {g gp gv gx : Nat} {e : Eng} {p cv : Nat} {tx : Int} {vals : List Int} {Av : Option Addr} (hp : p < 5) (hps : Iw e.mem = true) (hlog : AB e.log = true) (h : BR w0 w g e) (bp : Co w gp (.int .i64 (p : Int)) 3) (bv : Co w gv (.slice Av vals.length cv) 32) (bx : Co w gx (.int .i64 tx) 3) (hv : Kd.C (Kd.int .i64) w Av vals.length vals) : Calls Tryz.prog 130 #[ptr g,ptr gp,ptr gv,ptr gx] w fun x w' => x = .returned (.bool ((pg e.mem p).owner != 0 && (F5 (pg e.mem p).vals && (G8 vals && NQ e.log tx (p : Int))))) ∧ Below w.heap.size w w':=by
 obtain ⟨w1,hw1⟩ : ∃ w1,w.alloc (Obj.cells #[ptr g] 66) = w1:=⟨_,rfl⟩
 have hb1 : Below w.heap.size w w1:=by rw [← hw1];exact Ab (Below.refl _ _) _
 have HO1 : Aa (Co w1 w.heap.size (ptr g) 66):=⟨by rw [← hw1];exact Co.mk1 _ _ _⟩
 have HW1:=As hw1
 have HB1:=As hb1
 have HG1:=As (h.up hb1)
 have HP1:=As (bp.up hb1)
 obtain ⟨⟨vd,vm,vl,hq,ho⟩, -, -⟩:=HG1.out
 obtain ⟨okd,okm, -, -,hpm⟩:=ho.ex
 have hg5:=(Ak hps).1
 obtain ⟨gm,capm,rfl, -, -⟩:=Ci hpm (by omega)
 have hpl : p < e.mem.length:=by omega
 obtain ⟨A2,c2,p0,p1,p2,pC, -⟩:=E5 hpm p hpl
 obtain ⟨Ad,cd,Am,cm,Al,cl,rfl, -,rfl, -,hrd⟩:=ho.reads
 have hp5i : (p : Int) < 5:=by omega
 have x1:=hq.c1
 have x2:=hq.c2
 have y0:=HO1.out.c0
 have y1:=HP1.out.c0
 have y2:=(bv.up hb1).c0
 have y3:=(bx.up hb1).c0
 obtain ⟨z,hz⟩ : ∃ z,F5 (pg e.mem p).vals = z:=⟨_,rfl⟩
 obtain ⟨vo,hvo⟩ : ∃ vo,G8 vals = vo:=⟨_,rfl⟩
 obtain ⟨ks,hks⟩ : ∃ ks,BD e.log (Ai e.log tx e.log.length) = ks:=⟨_,rfl⟩
 have HMK : Aa (∀ m ∈ ks,0 < m ∧ m ≤ e.log.length):=⟨by rw [← hks];exact Lb hlog _ (Bc _ _ _)⟩
 have HKS:=As hks
 have HLL:=As (Bo hlog)
 have HLG:=As hlog
 have HV:=As (BA hv hb1)
 have HZ:=As hz
 have HVO:=As hvo
 have HOK:=As ((Cv.1 hps).2 p hp)
 have HC:=As pC
 have HRD:=As hrd.l
 rw [Xe,HKS.out,HVO.out]
 obtain ⟨P,hP⟩ : ∃ P,pg e.mem p = P:=⟨_,rfl⟩
 rw [hP] at HZ HOK HC p0 p1 p2 ⊢
 rw [HZ.out]
 clear ho hpm hq bp bv bx hv hps hlog hz hvo hks pC hP hrd hw1 hb1 h
 rcases BQ P.owner 0 with ⟨e1,b1,c1⟩ | ⟨e1,b1,c1⟩
 all_goals cases z
 all_goals cases vo
 all_goals
  go_enter Tryz.func130,Tryz.ntmps130
  go_wp2
  rw [HW1.out]
  refine AQ (fun lx a wx => Below w1.heap.size w1 wx ∧ Sl 7 6 (fun v wx => ∃ B,v = ptr B ∧ w1.heap.size ≤ B ∧ AU wx B zp (.slice none 0 0)) lx a wx) 8 rfl (by kernel_rfl) (⟨Af (Below.refl _ _),Bb⟩) (fun HT => ?_)
  refine AX [0,1,2,3,4,5,6] ?_
  iterate 7 (refine AR (v:=?_) HT rfl (by kernel_rfl) rfl (kA Ae (Aj rfl rfl)) (by rfl) (fun _ _ _ h => h) (fun lx ax wx hS => ?_) ?_;rotate_left;(have hbx:=hS.1;clear hS;replace x1:=bc hbx x1;replace y0:=bc hbx y0;replace y1:=bc hbx y1;replace p0:=bc hbx p0;replace p1:=bc hbx p1;replace p2:=bc hbx p2;go_simp;with_reducible rfl);rotate_left;simp only [sc0,sc1])
  refine AV ?_
  refine AJ [7] (by kernel_rfl) (fun i hi wx hS => ?_)
  obtain rfl:=List.mem_singleton.1 hi
  clear hi
  refine BH (w1:=wx.alloc CO) (ptr wx.heap.size) rfl rfl (by rfl) (by go_simp) ?_
  refine ⟨⟨bj hS.1 (Ab (Below.refl _ _) _),fun _ => ⟨wx.heap.size,rfl,hS.1.size,AU.mk1 wx zp _⟩⟩,?_⟩
  obtain ⟨B,hB⟩ : ∃ B,wx.heap.size = B:=⟨_,rfl⟩
  rw [hB]
  clear hB hS
  simp only [sc0,sc1]
  refine BZ (i:=8) (by kernel_rfl) rfl (fun wx hS => ?_)
  obtain ⟨h1,h2⟩:=hS
  obtain ⟨B',hB',hN,hQ⟩:=h2 (by kernel_rfl)
  have hB' : ptr B = ptr B':=hB'
  obtain rfl : B = B':=by simpa using hB'
  have z0:=hQ.c0
  have z1:=hQ.c1
  have z2:=hQ.c2
  have f0:=hQ.frz 0
  have f1:=hQ.frz 1
  have f2:=hQ.frz 2
  refine Bv (w1:=Go.Proofs.YtofgeajaajfiaaaGreat.CK wx B P (.slice A2 P.vals.length c2)) rfl (by rfl) (by go_simp) ?_
  refine BM (by kernel_rfl) ?_
  obtain ⟨w5,hw5⟩ : ∃ w5,Go.Proofs.YtofgeajaajfiaaaGreat.CK wx B P (.slice A2 P.vals.length c2) = w5:=⟨_,rfl⟩
  have hb5 : Below w1.heap.size w1 w5:=by rw [← hw5];exact Cx h1 hN P (.slice A2 P.vals.length c2)
  have hq5 : AU w5 B P (.slice A2 P.vals.length c2):=by rw [← hw5];exact hQ.CK P (.slice A2 P.vals.length c2)
  rw [hw5]
  have HB5:=As hb5
  have q0:=hq5.c0
  have q1:=hq5.c1
  have q2:=hq5.c2
  replace x2:=bc hb5 x2
  replace y0:=bc hb5 y0
  replace y2:=bc hb5 y2
  replace y3:=bc hb5 y3
  clear h1 h2 hB' hN hQ f0 f1 f2 z0 z1 z2 hw5 hq5 x1 y1 p0 p1 p2 hb5
  go_wp2
 rotate_right 1
 ·have HX1:=As (bj HB1.out HB5.out)
  have HCALL : Aa (∀ wx,Below w5.heap.size w5 wx → Calls Tryz.prog 97 #[.slice Al e.log.length cl, .int .i64 tx] wx (VK wx (ints ks))):=⟨fun wx hb => by
   have h:=II (c:=cl) tx (bj HB5.out hb) HRD.out HLG.out
   rw [HKS.out] at h
   exact h⟩
  refine AQ (fun lx a wx => Below w5.heap.size w5 wx ∧ Sl 17 33 (fun v wx => ∃ D d,v = .slice D (ints ks).length d ∧ Kd.C (Kd.int .i64) wx D (ints ks).length (ints ks)) lx a wx) 22 rfl (by kernel_rfl) (⟨Af (Below.refl _ _),Bb⟩) (fun HT => ?_)
  refine AX [0,1,2,3,4] ?_
  iterate 5 (refine AR (v:=?_) HT rfl (by kernel_rfl) rfl (kA Ae (Aj rfl rfl)) (by rfl) (fun _ _ _ h => h) (fun lx ax wx hS => ?_) ?_;rotate_left;(have hbx:=hS.1;clear hS;replace q0:=bc hbx q0;replace q1:=bc hbx q1;replace q2:=bc hbx q2;go_simp;with_reducible rfl);rotate_left;simp only [sc0,sc1])
  refine AV ?_
  refine Kn (i:=5) (f:=51) (v:=.bool true) (args:=#[P.val A2 c2]) HT rfl (by kernel_rfl) rfl Tryz.func51 (by kernel_rfl) rfl rfl (kA Ae (Aj rfl rfl)) (by rfl) (fun _ _ _ h => h) (by simp only [List.map_toArray,List.map_cons,List.map_nil];rfl) (fun lx ax wx hS => (GJ HOK.out HZ.out (bj HB5.out hS.1) HC.out).mono fun x w' h => ⟨h.1,bj hS.1 h.2,fun hl => (hS.2 hl).elim fun D hD => hD.elim fun d hd => ⟨D,d,hd.1,BA hd.2 h.2⟩⟩) ?_;simp only [sc0,sc1]
  refine AX [6,7,8] ?_
  iterate 3 (refine AR (v:=?_) HT rfl (by kernel_rfl) rfl (kA Ae (Aj rfl rfl)) (by rfl) (fun _ _ _ h => h) (fun lx ax wx hS => ?_) ?_;rotate_left;(have hbx:=hS.1;clear hS;replace y2:=bc hbx y2;go_simp;with_reducible rfl);rotate_left;simp only [sc0,sc1])
  refine AV ?_
  refine Kn (i:=9) (f:=132) (v:=.bool true) (args:=#[.slice Av vals.length cv]) HT rfl (by kernel_rfl) rfl Tryz.func132 (by kernel_rfl) rfl rfl (kA Ae (Aj rfl rfl)) (by rfl) (fun _ _ _ h => h) (by simp only [List.map_toArray,List.map_cons,List.map_nil];rfl) (fun lx ax wx hS => (Jr HVO.out (bj HB5.out hS.1) HV.out).mono fun x w' h => ⟨h.1,h.2 ▸ hS⟩) ?_;simp only [sc0,sc1]
  refine AX [10,11,12,13,14,15,16,18] ?_
  iterate 8 (refine AR (v:=?_) HT rfl (by kernel_rfl) rfl (kA Ae (Aj rfl rfl)) (by rfl) (fun _ _ _ h => h) (fun lx ax wx hS => ?_) ?_;rotate_left;(have hbx:=hS.1;clear hS;replace x2:=bc hbx x2;replace y0:=bc hbx y0;replace y3:=bc hbx y3;go_simp;with_reducible rfl);rotate_left;simp only [sc0,sc1])
  refine AV ?_
  refine C8 (i:=17) (f:=97) (args:=#[.slice Al e.log.length cl, .int .i64 tx]) (fun v => ∃ D d,v = .slice D (ints ks).length d) rfl (by kernel_rfl) rfl Tryz.func97 (by kernel_rfl) rfl rfl (by rfl) (by simp only [List.map_toArray,List.map_cons,List.map_nil];rfl) (fun wx hS => (HCALL.out wx hS.1).mono (by rintro x w6 ⟨v,rfl,ho,hb⟩;obtain ⟨D,d,rfl, -,hC⟩:=ho.reads;exact ⟨_,rfl,⟨D,d,rfl⟩,bj hS.1 hb,fun _ => ⟨D,d,rfl,hC⟩⟩)) (fun vx hg => ?_);simp only [sc0,sc1]
  obtain ⟨D,d,rfl⟩:=hg
  refine C8 (i:=19) (f:=133) (args:=#[.slice D (ints ks).length d, .func (.func 131) #[] #[ptr w.heap.size,ptr gp]]) (fun v => v = .bool (NP e.log (p : Int) ks)) rfl (by kernel_rfl) rfl Tryz.func133 (by kernel_rfl) rfl rfl (by rfl) (by simp only [List.map_toArray,List.map_cons,List.map_nil];rfl) (fun wx hS => (by obtain ⟨D',d',e3,hC⟩:=hS.2 (by kernel_rfl);have e3 : Value.slice D (ints ks).length d = .slice D' (ints ks).length d':=e3;injection e3 with e4;subst e4;have hx:=bj HB5.out hS.1;exact (PU (d:=d) HMK.out HLL.out (HG1.out.up hx) (HO1.out.up hx) (HP1.out.up hx) hC).mono (by rintro x w6 ⟨rfl,hb⟩;exact ⟨_,rfl,rfl,bj hS.1 hb,fun _ => ⟨D,d,rfl,BA hC hb⟩⟩))) (fun vx hg => ?_);simp only [sc0,sc1]
  subst hg
  refine AX [20,21] ?_
  iterate 2 (refine AR (v:=?_) HT rfl (by kernel_rfl) rfl (kA Ae (Aj rfl rfl)) (by rfl) (fun _ _ _ h => h) (fun lx ax wx hS => ?_) ?_;rotate_left;(go_simp;with_reducible rfl);rotate_left;simp only [sc0,sc1])
  refine AV ?_
  refine Ej (by kernel_rfl) (fun w6 hS => ?_)
  have HX6:=As (bj HX1.out hS.1)
  clear hS x2 y0 y2 y3 q0 q1 q2
  go_wp2
  go_ret
  exact ⟨Au (by simp [b1,c1]),HX6.out⟩
 all_goals
  have HX1:=As (bj HB1.out HB5.out)
  refine Ba (fun w' => Below w5.heap.size w5 w') rfl rfl (by kernel_rfl) (Af (Below.refl _ _)) (fun HT => ?_)
  repeat (first
   | (refine BO (fun wx hS => ?_))
   | ((with_reducible refine Bh (f:=51) rfl ?_);refine Bj (v:=.bool _) (args:=#[P.val A2 c2]) HT rfl Tryz.func51 (by kernel_rfl) rfl rfl (by rfl) (fun _ _ _ h => h) (by simp only [List.map_toArray,List.map_cons,List.map_nil];rfl) (fun wx hS => (GJ HOK.out HZ.out (bj HB5.out hS) HC.out).mono fun x w' h => ⟨h.1,bj hS h.2⟩) ?_;simp only [sc0,sc1])
   | ((with_reducible refine Bh (f:=132) rfl ?_);refine Bj (v:=.bool _) (args:=#[.slice Av vals.length cv]) HT rfl Tryz.func132 (by kernel_rfl) rfl rfl (by rfl) (fun _ _ _ h => h) (by simp only [List.map_toArray,List.map_cons,List.map_nil];rfl) (fun wx hS => (Jr HVO.out (bj HB5.out hS) HV.out).mono fun x w' h => ⟨h.1,h.2 ▸ hS⟩) ?_;simp only [sc0,sc1])
   | (refine Bq HT rfl (by rfl) (fun _ _ _ h => h) ?_;simp only [sc0,sc1])
   | (refine BN (v:=?_) HT rfl (by rfl) (fun _ _ _ h => h) (fun wx hS => ?_) ?_;rotate_left;(have q0:=bc hS q0;have q1:=bc hS q1;have q2:=bc hS q2;have y2:=bc hS y2;go_simp;with_reducible rfl);rotate_left;simp only [sc0,sc1]))
  have HX6:=As (bj HX1.out hS)
  clear hS x2 y0 y2 y3 q0 q1 q2
  go_wp2
  go_ret
  exact ⟨Au (by simp [b1,c1]),HX6.out⟩
set_option maxRecDepth 100000 in
set_option maxHeartbeats 16000000 in
theorem Sd {w0 w : World} {g gx gp gv : Nat} {e : Eng} {p cv : Nat} {tx : Int} {vals : List Int} {Av : Option Addr} (hp : p < 5) (hgm : geo e.mem) (hl : e.log.length + 1 ≤ 150) (hv3 : vals.length = 3) (h : BR w0 w g e) (bx : Co w0 gx (.int .i64 tx) 3) (bp : Co w0 gp (.int .i64 (p : Int)) 3) (bv : Co w0 gv (.slice Av vals.length cv) 32) (hv : Kd.C (Kd.int .i64) w0 Av vals.length vals) : Calls Tryz.prog 134 #[ptr g,ptr gx,ptr gp,ptr gv] w (IK w0 g (KE e tx (p : Int) vals)):=by
 obtain ⟨⟨vd,vm,vl,hq,ho⟩,hb,hg⟩:=h
 obtain ⟨q,hqq⟩ : ∃ q : Page,(⟨(e.log.length : Int) + 1,(pg e.mem p).owner,vals⟩ : Page) = q:=⟨_,rfl⟩
 obtain ⟨l1,hl1⟩ : ∃ l1,e.log ++ [DN ⟨3,tx,(p : Int),0,0,0,0,0⟩ (Ai e.log tx e.log.length)] = l1:=⟨_,rfl⟩
 have HE : Aa (KE e tx (p : Int) vals = { e with mem:=e.mem.set p q,log:=l1 }):=⟨by
  unfold KE
  rw [← hqq, ← hl1,Int.toNat_natCast]
  rfl⟩
 have HQV : Aa (q.lsn = (e.log.length : Int) + 1 ∧ q.owner = (pg e.mem p).owner ∧ q.vals = vals):=⟨by rw [← hqq];exact ⟨rfl,rfl,rfl⟩⟩
 have HL1:=As hl1
 have HB:=As hb
 have HG:=As hg
 have HQ:=As hq
 have HO:=As ho
 have HGM:=As hgm
 have HV3:=As hv3
 have HV:=As hv
 have HP:=As bp
 have HVB:=As bv
 have HL:=As hl
 have y0:=bc hb bx.c0
 have y1:=bc hb bp.c0
 clear hq ho hb hg hgm hv3 hv hqq hl1 bx bp bv
 go_enter Tryz.func134,Tryz.ntmps134
 go_wp2_with (go_at_call 61;go_loud (refine (Lc ⟨3,tx,(p : Int),0,0,0,0,0⟩ (by have:=HL.out;omega) HB.out HG.out HQ.out HO.out).mono ?_);go_loud (rw [show e.log ++ [DN ⟨3,tx,(p : Int),0,0,0,0,0⟩ (Ai e.log (Rec.tx ⟨3,tx,(p : Int),0,0,0,0,0⟩) e.log.length)] = l1 from HL1.out]);rintro x w2 ⟨vl2,rfl,hq2,ho2,hb2, -⟩;have HQ2:=As hq2;have HO2:=As ho2;have HB2:=As hb2;clear hq2 ho2 hb2 y0 y1)
 have hgm5:=HGM.out.1
 obtain ⟨okd,okm,hap,hpd,hpm⟩:=HO2.out.ex
 obtain ⟨gm,capm,hfm, -,hgml⟩:=Ci hpm (by show 0 < e.mem.length;omega)
 subst hfm
 have hpl : p < e.mem.length:=by omega
 have hp5i : (p : Int) < 5:=by omega
 obtain ⟨A2,c2,p0,p1,p2,pC, -⟩:=E5 hpm p hpl
 have x1:=HQ2.out.c1
 have y1:=bc HB2.out HP.out.c0
 have y2:=bc HB2.out HVB.out.c0
 have HPD:=As hpd
 have HPM:=As hpm
 have HAP:=As hap
 have HVL : Aa (vals.length ≤ 17592186044416):=⟨by rw [HV3.out];omega⟩
 have hp1 : w2.cell? ⟨gm,p * 3 + 1,none⟩ = some (.int .i64 q.owner):=by rw [HQV.out.2.1];exact p1
 clear hap hpd hpm pC p0 p1 p2
 refine AQ (fun lx a wx => Below w2.heap.size w2 wx ∧ Sl 15 26 (fun v wx => AL wx w2.heap.size v vals) lx a wx) 18 rfl (by kernel_rfl) (⟨Af (Below.refl _ _),Bb⟩) (fun HT => ?_)
 refine AX [0,1,2,3,4,5,6,7,8,9,10,11,12,13,14] ?_
 iterate 15 (refine AR (v:=?_) HT rfl (by kernel_rfl) rfl (kA Ae (Aj rfl rfl)) (by rfl) (fun _ _ _ h => h) (fun lx ax wx hS => ?_) ?_;rotate_left;(have hbx:=hS.1;clear hS;replace x1:=bc hbx x1;replace y1:=bc hbx y1;replace y2:=bc hbx y2;replace hp1:=bc hbx hp1;go_simp;with_reducible rfl);rotate_left;simp only [sc0,sc1])
 refine AV ?_
 refine C8 (i:=15) (f:=107) (args:=#[.slice Av vals.length cv]) (fun v => ∃ A1 c1,v = .slice A1 vals.length c1) rfl (by kernel_rfl) rfl Tryz.func107 (by kernel_rfl) rfl rfl (by rfl) (by simp only [List.map_toArray,List.map_cons,List.map_nil];rfl) (fun wx hS => (O9 HVL.out (bj HB2.out hS.1) HV.out).mono (by rintro x w6 ⟨v,rfl,ho,hb⟩;obtain ⟨A1,c1,rfl, -, -⟩:=ho.reads;exact ⟨_,rfl,⟨A1,c1,rfl⟩,bj hS.1 hb,fun _ => ho.lower hS.1.size⟩)) (fun vx hg => ?_);simp only [sc0,sc1]
 obtain ⟨A1,c1,rfl⟩:=hg
 refine AX [16,17] ?_
 iterate 2 (refine AR (v:=?_) HT rfl (by kernel_rfl) rfl (kA Ae (Aj rfl rfl)) (by rfl) (fun _ _ _ h => h) (fun lx ax wx hS => ?_) ?_;rotate_left;(go_simp;with_reducible rfl);rotate_left;simp only [sc0,sc1])
 refine AV ?_
 refine BZ (i:=18) (by kernel_rfl) rfl (fun wx hS => ?_)
 obtain ⟨h5x,h2⟩:=hS
 have hown : AL wx w2.heap.size (.slice A1 vals.length c1) q.vals:=by rw [HQV.out.2.2];exact h2 (by kernel_rfl)
 refine EK (ok:=okm) (w0:=w0) (N:=w2.heap.size) (q:=q) (v:=.slice A1 vals.length c1) p rfl (.tmp 28) (.tmp 27) rfl (by rfl) rfl rfl (by rw [Page.own,HQV.out.1];rfl) hown HB2.out.size (Kd.Ee HPM.out h5x) hpl (bj HB2.out h5x) (fun w8 hO8 hB8 hg8 => ?_)
 refine BM (by kernel_rfl) ?_
 have hd8:=Kd.Ee HPD.out h5x
 have hty:=Kd.Fw (Kd.BG HPM.out h5x) gm (by simp [Value.ownBlock])
 have he8:=AO.Qz (e:={ e with log:=l1 }) HAP.out hd8 (Kd.Ct HO2.out.l h5x) hown hO8 (Mr HPM.out gm (by simp [Value.ownBlock])) hg8 hty
 have hq8 : Ac w8 g { e with mem:=e.mem.set p q,log:=l1 } vd (.slice (some ⟨gm,0,none⟩) e.mem.length capm) vl2:=(hg8.block g (by have:=HQ2.out.lt;have:=h5x.size;omega) (fun e2 => by injection e2 with e2;exact G6 HQ2.out HPM.out e2)).trans (HQ2.out.up h5x)
 have HX8:=As (And.intro hB8 (And.intro he8 hq8))
 clear h5x h2 hown hO8 hB8 hg8 hd8 hty he8 hq8 x1 y1 y2 hp1
 go_wp2
 exact bodyPost_ret (v:=.tuple #[]) (by simp [results,Tryz.results134,go_sem]) rfl ⟨⟨_,rfl⟩,by rw [HE.out];exact ⟨⟨_,_,_,HX8.out.2.2,HX8.out.2.1⟩,HX8.out.1,HG.out⟩⟩
theorem Vw (e : Eng) (tx page : Int) (vals : List Int) : (KE e tx page vals).log.length = e.log.length + 1:=by simp [KE]
theorem Q0 {w0 w : World} {e : Eng} {C : Nat → Page} {B : Nat} {Ad Am Al Av : Option Addr} {cd cm cl cv gx gp gv : Nat} (tx page : Int) (vals : List Int) (hi : Inv e C B) (hB : B + 3 ≤ 150) (hcl : e.log.length ≤ cl) (hb : Below w0.heap.size w0 w) (hr : DC w0 e Ad Am Al) (bx : Co w gx (.int .i64 tx) 3) (bp : Co w gp (.int .i64 page) 3) (bv : Co w gv (.slice Av vals.length cv) 32) (hvals : Kd.C (Kd.int .i64) w0 Av vals.length vals) : Calls Tryz.prog 52 #[e.val Ad Am Al cd cm cl, .int .i64 tx, .int .i64 page, .func (.func 130) #[] #[ptr gp,ptr gv,ptr gx], .func (.func 134) #[] #[ptr gx,ptr gp,ptr gv]] w (D9 w (Ig e tx page vals).1 (Ig e tx page vals).2):=by
 have hv:=BA hvals hb
 refine JL (b:=(pg e.mem page.toNat).owner != 0 && (F5 (pg e.mem page.toNat).vals && (G8 vals && NQ e.log tx page))) (X:=KE e tx page vals) tx page hi.ok hcl hb hr (fun hm wb wx g hbw hg => ?_) (fun hm hbt wb wx g hbw hg => ?_) (fun hm hbt => ?_)
 ·obtain ⟨-, -,h3, -⟩:=DI.1 hm
  obtain ⟨p,rfl⟩ : ∃ p : Nat,page = (p : Int):=⟨page.toNat,by omega⟩
  have hx:=bj hbw hg.bel
  rw [Int.toNat_natCast]
  exact Sg (show p < 5 by omega) hi.FT hi.core.log hg (bp.up hx) (bv.up hx) (bx.up hx) (BA hv hx)
 ·have hp : Lr e tx page vals = true:=by rw [Lr,hm,hbt];rfl
  have hI:=hi.Sc hB hp
  obtain ⟨-, -,h3, -⟩:=DI.1 hm
  obtain ⟨p,rfl⟩ : ∃ p : Nat,page = (p : Int):=⟨page.toNat,by omega⟩
  have hv3 : vals.length = 3:=by
   simp only [Bool.and_eq_true,G8,beq_iff_eq] at hbt
   exact hbt.2.2.1.1
  exact Sd (by omega) (Ak hi.FT) (hI.Oe (Vw _ _ _ _)) hv3 hg (bx.up hbw) (bp.up hbw) (bv.up hbw) (BA hv hbw)
 ·exact (hi.Sc hB (by rw [Lr,hm,hbt];rfl)).core.log
set_option maxRecDepth 100000 in
set_option maxHeartbeats 16000000 in
theorem NG {w0 w : World} {e : Eng} {C : Nat → Page} {B : Nat} {Ad Am Al : Option Addr} {cd cm cl : Nat} (tx page : Int) {Avals : Option Addr} {cvals : Nat} (vals : List Int) (hi : Inv e C B) (hB : B + 3 ≤ 150) (hcl : e.log.length ≤ cl) (hb : Below w0.heap.size w0 w) (hr : DC w0 e Ad Am Al) (hvals : Kd.C (Kd.int .i64) w0 Avals vals.length vals) : Calls Tryz.prog 89 #[e.val Ad Am Al cd cm cl, .int .i64 tx, .int .i64 page, .slice Avals vals.length cvals] w (D9 w (Ig e tx page vals).1 (Ig e tx page vals).2):=by
 obtain ⟨E,bb,hE⟩ : ∃ E bb,Ig e tx page vals = (E,bb):=⟨_,_,rfl⟩
 have HIN : Aa (∀ wx g_tx g_page g_vals,Below w.heap.size w wx → Co wx g_tx (.int .i64 tx) 3 → Co wx g_page (.int .i64 page) 3 → Co wx g_vals (.slice Avals vals.length cvals) 32 → Calls Tryz.prog 52 #[e.val Ad Am Al cd cm cl, .int .i64 tx, .int .i64 page, .func (.func 130) #[] #[ptr g_page,ptr g_vals,ptr g_tx], .func (.func 134) #[] #[ptr g_tx,ptr g_page,ptr g_vals]] wx (D9 wx E bb)):=⟨fun wx g_tx g_page g_vals hbx b_tx b_page b_vals => by
  have h:=Q0 (cd:=cd) (cm:=cm) tx page vals hi hB hcl (bj hb hbx) hr b_tx b_page b_vals hvals
  rw [hE] at h
  exact h⟩
 rw [hE]
 clear hi hb hr hE hcl hB hvals
 go_enter Tryz.func89,Tryz.ntmps89
 go_wp2_with (first
  | (with_reducible refine Ag (vd:=.slice Ad e.disk.length cd) (vm:=.slice Am e.mem.length cm) (vl:=.slice Al e.log.length cl) e ?_;intro w1 hb1 hz1 hq1;clear hz1;have HB:=As hb1;have HQ:=As hq1;clear hb1 hq1)
  | (with_reducible refine DU (t:=3) (.int .i64 tx) ?_;intro w2 hb1 hz1 hq1;clear hz1;replace HB:=As (bj HB.out hb1);replace HQ:=As (HQ.out.up hb1);have HC_tx:=As hq1;clear hb1 hq1)
  | (with_reducible refine DU (t:=3) (.int .i64 page) ?_;intro w3 hb1 hz1 hq1;clear hz1;replace HB:=As (bj HB.out hb1);replace HQ:=As (HQ.out.up hb1);replace HC_tx:=As (HC_tx.out.up hb1);have HC_page:=As hq1;clear hb1 hq1)
  | (with_reducible refine DU (t:=32) (.slice Avals vals.length cvals) ?_;intro w4 hb1 hz1 hq1;clear hz1;replace HB:=As (bj HB.out hb1);replace HQ:=As (HQ.out.up hb1);replace HC_tx:=As (HC_tx.out.up hb1);replace HC_page:=As (HC_page.out.up hb1);have HC_vals:=As hq1;clear hb1 hq1)
  | (refine Ag (vd:=.slice none 0 0) (vm:=.slice none 0 0) (vl:=.slice none 0 0) zE ?_;intro w5 hb1 hz1 hq1;have HBG:=As HB.out.size;replace HB:=As (bj HB.out hb1);replace HQ:=As (HQ.out.up hb1);replace HC_tx:=As (HC_tx.out.up hb1);replace HC_page:=As (HC_page.out.up hb1);replace HC_vals:=As (HC_vals.out.up hb1);have HP:=As hq1;have HZ:=As hz1;have x0:=HQ.out.c0;have x1:=HQ.out.c1;have x2:=HQ.out.c2;have x3:=HQ.out.c3;have x4:=HQ.out.c4;have c_tx:=HC_tx.out.c0;have c_page:=HC_page.out.c0;have c_vals:=HC_vals.out.c0;clear hb1 hz1 hq1)
  | (go_at_call 52;refine (HIN.out w5 _ _ _ HB.out HC_tx.out HC_page.out HC_vals.out).mono ?_;rintro x w6 ⟨vd,vm,vl,rfl,ho,hb2⟩;obtain ⟨Ed,n1,Em,n2,El,n3,rfl,rfl,rfl, -, -⟩:=ho.reads;have HO:=As ho;have HX:=As hb2;have hp:=HP.out.up hb2;have HP2:=As hp;have y0:=hp.c0;have y1:=hp.c1;have y2:=hp.c2;have y3:=hp.c3;have y4:=hp.c4;have f0:=hp.frz 0;have f1:=hp.frz 1;have f2:=hp.frz 2;have f3:=hp.frz 3;have f4:=hp.frz 4;clear hp hb2 ho x0 x1 x2 x3 x4 c_tx c_page c_vals))
 have hy:=HP2.out.Ao E (.slice Ed E.disk.length n1) (.slice Em E.mem.length n2) (.slice El E.log.length n3)
 have h1:=HO.out.Ao (f:=E) (xd:=.slice Ed E.disk.length n1) (xm:=.slice Em E.mem.length n2) (xl:=.slice El E.log.length n3) HP2.out
 have hge:=HBG.out
 have hzz:=HZ.out
 have h2:=Ah (g:=w4.heap.size) (bj HB.out HX.out) hge E (.slice Ed E.disk.length n1) (.slice Em E.mem.length n2) (.slice El E.log.length n3)
 have z0:=hy.c0
 have z1:=hy.c1
 have z2:=hy.c2
 have z3:=hy.c3
 have z4:=hy.c4
 exact bodyPost_ret (v:=.tuple #[E.ag (.slice Ed E.disk.length n1) (.slice Em E.mem.length n2) (.slice El E.log.length n3), .bool bb]) (by simp [results,Tryz.results89,go_sem,z0,z1,z2,z3,z4]) rfl ⟨_,_,_,rfl,h1.lower (by omega),h2⟩
set_option maxRecDepth 100000 in
set_option maxHeartbeats 16000000 in
theorem Lg {w0 w : World} {e : Eng} {Ad Am Al : Option Addr} {cd cm cl : Nat} (tx : Int) {p3 : Value} {X : Eng} (hok : eOk e = true) (hcl : e.log.length ≤ cl) (hb : Below w0.heap.size w0 w) (hr : DC w0 e Ad Am Al)
  (hw : e.down = false → Ai e.log tx e.log.length ≠ 0 → ∀ wb wx g,Below w.heap.size w wb → BR wb wx g e → Calls Tryz.prog 58 #[ptr g,p3] wx (IK wb g X)) : Calls Tryz.prog 57 #[e.val Ad Am Al cd cm cl, .int .i64 tx, .func (.func 58) #[] #[p3]] w (D9 w (Cz e tx X).1 (Cz e tx X).2):=by
 have HR:=As (hr.up hb)
 have HW:=As hw
 have HV:=As hok
 have HF:=As (Fv.1 hok)
 have HLG:=As (Bo HF.out.log)
 clear hr hb hw hok
 obtain ⟨w1,hw1⟩ : ∃ w1,w.alloc (e.obox (.slice Ad e.disk.length cd) (.slice Am e.mem.length cm) (.slice Al e.log.length cl)) = w1:=⟨_,rfl⟩
 obtain ⟨w2,hw2⟩ : ∃ w2,w1.alloc (zE.obox (.slice none 0 0) (.slice none 0 0) (.slice none 0 0)) = w2:=⟨_,rfl⟩
 have hz1 : w1.heap.size = w.heap.size + 1:=by rw [← hw1];exact BJ _ _
 have hz2 : w2.heap.size = w.heap.size + 2:=by rw [← hw2,BJ,hz1]
 have hb12 : Below w1.heap.size w1 w2:=by rw [← hw2];exact Ab (Below.refl _ _) _
 have HB2 : Aa (Below w.heap.size w w2):=⟨by rw [← hw2, ← hw1];exact Ab (Ab (Below.refl _ _) _) _⟩
 have HQ2 : Aa (Ac w2 w.heap.size e (.slice Ad e.disk.length cd) (.slice Am e.mem.length cm) (.slice Al e.log.length cl)):=⟨Ac.up (by rw [← hw1];exact Ac.mk1 _ _ _ _ _) hb12⟩
 have HP2 : Aa (Ac w2 (w.heap.size + 1) zE (.slice none 0 0) (.slice none 0 0) (.slice none 0 0)):=⟨by rw [← hw2, ← hz1];exact Ac.mk1 _ _ _ _ _⟩
 have HW2 : Aa ((w.alloc (e.obox (.slice Ad e.disk.length cd) (.slice Am e.mem.length cm) (.slice Al e.log.length cl))).alloc (zE.obox (.slice none 0 0) (.slice none 0 0) (.slice none 0 0)) = w2):=⟨by rw [hw1,hw2]⟩
 have HZ2:=As hz2
 clear hw1 hw2 hz1 hz2 hb12
 have x0:=HQ2.out.c0
 have x1:=HQ2.out.c1
 have x2:=HQ2.out.c2
 have x3:=HQ2.out.c3
 have x4:=HQ2.out.c4
 obtain ⟨n,hn⟩ : ∃ n : Nat,Ai e.log tx e.log.length = n:=⟨_,rfl⟩
 cases hdn : e.down
 rotate_left
 ·rw [show Cz e tx X = (e,false) by rw [Cz,if_neg (by rw [hdn];simp)]]
  have HDN:=As hdn
  clear hdn hn
  go_enter Tryz.func57,Tryz.ntmps57
  go_wp2_with (first
   | (go_at_call 43;rw [show (w.alloc (Obj.cells #[Value.slice Ad e.disk.length cd,Value.slice Am e.mem.length cm,Value.slice Al e.log.length cl,Value.int IntKind.i64 e.safe,Value.bool e.down] 28)).alloc (Obj.cells #[Value.slice none 0 0,Value.slice none 0 0,Value.slice none 0 0,Value.int IntKind.i64 0,Value.bool false] 28) = w2 from HW2.out];refine (Aw (cd:=cd) (cm:=cm) HV.out hcl HB2.out HR.out).mono ?_;rintro x w3 ⟨rfl,hb3⟩;have HX3:=As hb3;replace x0:=bc hb3 x0;replace x1:=bc hb3 x1;replace x2:=bc hb3 x2;replace x3:=bc hb3 x3;replace x4:=bc hb3 x4;clear hb3)
   | (go_at_call 45;refine (AP (cd:=cd) (cm:=cm) (cl:=cl) (Ak HF.out.disk) (Ak HF.out.mem) HLG.out (bj HB2.out HX3.out) HR.out).mono ?_;rintro x w4 ⟨vd,vm,vl,rfl,ho,hb4⟩;obtain ⟨Bd,dd,Bm,dm,Bl,dl,rfl,rfl,rfl, -,hc⟩:=ho.reads;have HO4:=As ho;have HC4:=As hc;have HX4:=As hb4;clear ho hb4 hc x0 x1 x2 x3 x4)
   | (refine Ag (vd:=.slice Bd e.disk.length dd) (vm:=.slice Bm e.mem.length dm) (vl:=.slice Bl e.log.length dl) e ?_;intro w5 hb5 _ hq5;have q0:=hq5.c0;have q1:=hq5.c1;have q2:=hq5.c2;have q3:=hq5.c3;have q4:=hq5.c4;rw [HDN.out] at q4;have HO7:=As (HO4.out.below hb5);have HX7:=As (bj HX4.out hb5);have hp:=HP2.out.up (bj HX3.out HX7.out);have HP7:=As hp;have y0:=hp.c0;have y1:=hp.c1;have y2:=hp.c2;have y3:=hp.c3;have y4:=hp.c4;have f0:=hp.frz 0;have f1:=hp.frz 1;have f2:=hp.frz 2;have f3:=hp.frz 3;have f4:=hp.frz 4;clear hp;clear hb5 hq5))
  have hz:=HZ2.out
  have hn3:=HX3.out.size
  have hy:=HP7.out.Ao ⟨e.disk,e.mem,e.log,e.safe,true⟩ (.slice Bd e.disk.length dd) (.slice Bm e.mem.length dm) (.slice Bl e.log.length dl)
  have h1:=HO7.out.Ao (f:=⟨e.disk,e.mem,e.log,e.safe,true⟩) (xd:=.slice Bd e.disk.length dd) (xm:=.slice Bm e.mem.length dm) (xl:=.slice Bl e.log.length dl) HP7.out
  have h2:=Ah (g:=w.heap.size + 1) (bj HB2.out (bj HX3.out HX7.out)) (by omega) ⟨e.disk,e.mem,e.log,e.safe,true⟩ (.slice Bd e.disk.length dd) (.slice Bm e.mem.length dm) (.slice Bl e.log.length dl)
  have z0:=hy.c0
  have z1:=hy.c1
  have z2:=hy.c2
  have z3:=hy.c3
  have z4:=hy.c4
  simp only at z0 z1 z2 z3 z4
  exact bodyPost_ret (v:=.tuple #[.agg #[.slice Bd e.disk.length dd, .slice Bm e.mem.length dm, .slice Bl e.log.length dl, .int .i64 e.safe, .bool true], .bool false]) (by simp [results,Tryz.results57,go_sem,z0,z1,z2,z3,z4]) rfl ⟨.slice Bd e.disk.length dd, .slice Bm e.mem.length dm, .slice Bl e.log.length dl,by unfold Eng.ag;rw [HDN.out],h1.lower (by omega),h2⟩
 have HDN:=As hdn
 have HLN:=As hn
 clear hdn hn
 rcases n with _ | n
 ·rw [show Cz e tx X = (e,false) by rw [Cz,if_neg (by rw [HLN.out];simp)]]
  go_enter Tryz.func57,Tryz.ntmps57
  go_wp2_with (first
   | (go_at_call 43;rw [show (w.alloc (Obj.cells #[Value.slice Ad e.disk.length cd,Value.slice Am e.mem.length cm,Value.slice Al e.log.length cl,Value.int IntKind.i64 e.safe,Value.bool e.down] 28)).alloc (Obj.cells #[Value.slice none 0 0,Value.slice none 0 0,Value.slice none 0 0,Value.int IntKind.i64 0,Value.bool false] 28) = w2 from HW2.out];refine (Aw (cd:=cd) (cm:=cm) HV.out hcl HB2.out HR.out).mono ?_;rintro x w3 ⟨rfl,hb3⟩;have HX3:=As hb3;replace x0:=bc hb3 x0;replace x1:=bc hb3 x1;replace x2:=bc hb3 x2;replace x3:=bc hb3 x3;replace x4:=bc hb3 x4;clear hb3)
   | (go_at_call 45;refine (AP (cd:=cd) (cm:=cm) (cl:=cl) (Ak HF.out.disk) (Ak HF.out.mem) HLG.out (bj HB2.out HX3.out) HR.out).mono ?_;rintro x w4 ⟨vd,vm,vl,rfl,ho,hb4⟩;obtain ⟨Bd,dd,Bm,dm,Bl,dl,rfl,rfl,rfl, -,hc⟩:=ho.reads;have HO4:=As ho;have HC4:=As hc;have HX4:=As hb4;clear ho hb4 hc x0 x1 x2 x3 x4)
   | (refine Ag (vd:=.slice Bd e.disk.length dd) (vm:=.slice Bm e.mem.length dm) (vl:=.slice Bl e.log.length dl) e ?_;intro w5 hb5 _ hq5;have q0:=hq5.c0;have q1:=hq5.c1;have q2:=hq5.c2;have q3:=hq5.c3;have q4:=hq5.c4;rw [HDN.out] at q4;have HC5:=As (HC4.out.up hb5);have HO5:=As (HO4.out.below hb5);have HX5:=As (bj HX4.out hb5);have HG5 : Aa (BR w3 w5 w4.heap.size e):=⟨⟨⟨_,_,_,hq5,HO4.out.below hb5⟩,bj HX4.out hb5,HX4.out.size⟩⟩;clear hb5 hq5)
   | (go_at_call 82;refine (GZ (w0:=w5) (c:=dl) HLN.out (Below.refl _ _) HC5.out.l).mono ?_;rintro x w6 ⟨rfl,hb6⟩;replace q0:=bc hb6 q0;replace q1:=bc hb6 q1;replace q2:=bc hb6 q2;replace q3:=bc hb6 q3;replace q4:=bc hb6 q4;have HX7:=As (bj HX5.out hb6);have HO7:=As (HO5.out.below hb6);have hp:=HP2.out.up (bj HX3.out HX7.out);have HP7:=As hp;have y0:=hp.c0;have y1:=hp.c1;have y2:=hp.c2;have y3:=hp.c3;have y4:=hp.c4;have f0:=hp.frz 0;have f1:=hp.frz 1;have f2:=hp.frz 2;have f3:=hp.frz 3;have f4:=hp.frz 4;clear hp;clear hb6))
  have hz:=HZ2.out
  have hn3:=HX3.out.size
  have hy:=HP7.out.Ao ⟨e.disk,e.mem,e.log,e.safe,false⟩ (.slice Bd e.disk.length dd) (.slice Bm e.mem.length dm) (.slice Bl e.log.length dl)
  have h1:=HO7.out.Ao (f:=⟨e.disk,e.mem,e.log,e.safe,false⟩) (xd:=.slice Bd e.disk.length dd) (xm:=.slice Bm e.mem.length dm) (xl:=.slice Bl e.log.length dl) HP7.out
  have h2:=Ah (g:=w.heap.size + 1) (bj HB2.out (bj HX3.out HX7.out)) (by omega) ⟨e.disk,e.mem,e.log,e.safe,false⟩ (.slice Bd e.disk.length dd) (.slice Bm e.mem.length dm) (.slice Bl e.log.length dl)
  have z0:=hy.c0
  have z1:=hy.c1
  have z2:=hy.c2
  have z3:=hy.c3
  have z4:=hy.c4
  simp only at z0 z1 z2 z3 z4
  exact bodyPost_ret (v:=.tuple #[.agg #[.slice Bd e.disk.length dd, .slice Bm e.mem.length dm, .slice Bl e.log.length dl, .int .i64 e.safe, .bool false], .bool false]) (by simp [results,Tryz.results57,go_sem,z0,z1,z2,z3,z4]) rfl ⟨.slice Bd e.disk.length dd, .slice Bm e.mem.length dm, .slice Bl e.log.length dl,by unfold Eng.ag;rw [HDN.out],h1.lower (by omega),h2⟩
 ·have HNZ : Aa (Ai e.log tx e.log.length ≠ 0):=⟨by rw [HLN.out];omega⟩
  rw [show Cz e tx X = (X,true) by rw [Cz,if_pos ⟨HDN.out,HNZ.out⟩]]
  have hn0 : ¬ ((n + 1 : Nat) : Int) = 0:=by omega
  go_enter Tryz.func57,Tryz.ntmps57
  go_wp2_with (first
   | (go_at_call 43;rw [show (w.alloc (Obj.cells #[Value.slice Ad e.disk.length cd,Value.slice Am e.mem.length cm,Value.slice Al e.log.length cl,Value.int IntKind.i64 e.safe,Value.bool e.down] 28)).alloc (Obj.cells #[Value.slice none 0 0,Value.slice none 0 0,Value.slice none 0 0,Value.int IntKind.i64 0,Value.bool false] 28) = w2 from HW2.out];refine (Aw (cd:=cd) (cm:=cm) HV.out hcl HB2.out HR.out).mono ?_;rintro x w3 ⟨rfl,hb3⟩;have HX3:=As hb3;replace x0:=bc hb3 x0;replace x1:=bc hb3 x1;replace x2:=bc hb3 x2;replace x3:=bc hb3 x3;replace x4:=bc hb3 x4;clear hb3)
   | (go_at_call 45;refine (AP (cd:=cd) (cm:=cm) (cl:=cl) (Ak HF.out.disk) (Ak HF.out.mem) HLG.out (bj HB2.out HX3.out) HR.out).mono ?_;rintro x w4 ⟨vd,vm,vl,rfl,ho,hb4⟩;obtain ⟨Bd,dd,Bm,dm,Bl,dl,rfl,rfl,rfl, -,hc⟩:=ho.reads;have HO4:=As ho;have HC4:=As hc;have HX4:=As hb4;clear ho hb4 hc x0 x1 x2 x3 x4)
   | (refine Ag (vd:=.slice Bd e.disk.length dd) (vm:=.slice Bm e.mem.length dm) (vl:=.slice Bl e.log.length dl) e ?_;intro w5 hb5 _ hq5;have q0:=hq5.c0;have q1:=hq5.c1;have q2:=hq5.c2;have q3:=hq5.c3;have q4:=hq5.c4;rw [HDN.out] at q4;have HC5:=As (HC4.out.up hb5);have HO5:=As (HO4.out.below hb5);have HX5:=As (bj HX4.out hb5);have HG5 : Aa (BR w3 w5 w4.heap.size e):=⟨⟨⟨_,_,_,hq5,HO4.out.below hb5⟩,bj HX4.out hb5,HX4.out.size⟩⟩;clear hb5 hq5)
   | (go_at_call 82;refine (GZ (w0:=w5) (c:=dl) HLN.out (Below.refl _ _) HC5.out.l).mono ?_;rintro x w6 ⟨rfl,hb6⟩;have HG6:=As (HG5.out.up hb6);clear hb6 q0 q1 q2 q3 q4)
   | (go_at_call 58;refine (HW.out HDN.out HNZ.out w3 w6 w4.heap.size (bj HB2.out HX3.out) HG6.out).mono ?_;rintro x w8 ⟨⟨v,rfl⟩,hg8⟩;obtain ⟨ud,um,ul,hq,ho⟩:=hg8.ex;obtain ⟨Ed,n1,Em,n2,El,n3,rfl,rfl,rfl, -, -⟩:=ho.reads;have HO7:=As ho;have HX7:=As hg8.bel;have q0:=hq.c0;have q1:=hq.c1;have q2:=hq.c2;have q3:=hq.c3;have q4:=hq.c4;have hp:=HP2.out.up (bj HX3.out HX7.out);have HP7:=As hp;have y0:=hp.c0;have y1:=hp.c1;have y2:=hp.c2;have y3:=hp.c3;have y4:=hp.c4;have f0:=hp.frz 0;have f1:=hp.frz 1;have f2:=hp.frz 2;have f3:=hp.frz 3;have f4:=hp.frz 4;clear hp;clear hq ho hg8))
  have hz:=HZ2.out
  have hn3:=HX3.out.size
  have hy:=HP7.out.Ao X (.slice Ed X.disk.length n1) (.slice Em X.mem.length n2) (.slice El X.log.length n3)
  have h1:=HO7.out.Ao (f:=X) (xd:=.slice Ed X.disk.length n1) (xm:=.slice Em X.mem.length n2) (xl:=.slice El X.log.length n3) HP7.out
  have h2:=Ah (g:=w.heap.size + 1) (bj HB2.out (bj HX3.out HX7.out)) (by omega) X (.slice Ed X.disk.length n1) (.slice Em X.mem.length n2) (.slice El X.log.length n3)
  have z0:=hy.c0
  have z1:=hy.c1
  have z2:=hy.c2
  have z3:=hy.c3
  have z4:=hy.c4
  exact bodyPost_ret (v:=.tuple #[X.ag (.slice Ed X.disk.length n1) (.slice Em X.mem.length n2) (.slice El X.log.length n3), .bool true]) (by simp [results,Tryz.results57,go_sem,z0,z1,z2,z3,z4]) rfl ⟨.slice Ed X.disk.length n1, .slice Em X.mem.length n2, .slice El X.log.length n3,rfl,h1.lower (by omega),h2⟩
def XK (w : World) (xs : List Int) (e : Ending) (w' : World) : Prop := ∃ A c,e = .returned (.slice A xs.length c) ∧ Kd.C (Kd.int .i64) w' A xs.length xs ∧ (∀ S : Nat → Prop,(∀ k,S k → k < w.heap.size) → ∀ W',Kept w' W' S → Kd.C (Kd.int .i64) W' A xs.length xs) ∧ Below w.heap.size w w'
set_option maxHeartbeats 4000000 in
theorem OW {w0 w : World} {A : Option Addr} {c : Nat} {l : List Rec} (tx : Int) (hb : Below w0.heap.size w0 w) (hr : Kd.C Ca w0 A l.length l) (hl : AB l = true) : Calls Tryz.prog 46 #[.slice A l.length c, .int .i64 tx, .func (.func 59) #[] #[]] w (XK w (Go.Lib.compact (Fa (Bf l (isLoad) (BD l (Ai l tx l.length)))))):=by
 have HR:=As hr
 have HB:=As hb
 have HL:=As hl
 have hm:=Bo hl
 obtain ⟨ks,hks⟩ : ∃ ks,BD l (Ai l tx l.length) = ks:=⟨_,rfl⟩
 have hkl:=Ip (l:=l) (Ai l tx l.length)
 have hll:=Bc l tx l.length
 rw [hks] at hkl
 have HKS:=As hks
 have HMM:=As (Lb hl _ hll)
 rw [hks] at HMM
 clear hr hb hl hks
 go_enter Tryz.func46,Tryz.ntmps46
 go_wp2_with (go_at_call 97;refine (II tx HB.out HR.out HL.out).mono ?_;rintro e w1 ⟨v,rfl,ho,hb1⟩;rw [HKS.out] at ho;obtain ⟨A1,c1,rfl, -,hC⟩:=ho.reads;have HC:=As hC;have HX:=As hb1;clear ho hb1 hC;simp only [ints,List.length_map])
 go_loopw [7,15] (fun v i wr => ∃ j : Nat,j ≤ ks.length ∧ i = .int .i64 (j : Int) ∧ Aa (AL wr w1.heap.size v (Bf l (isLoad) (ks.take j))) ∧ Aa (Below w1.heap.size w1 wr)) (fun _ i _ => (ks.length - intOf i).toNat)
 case atStart => exact ⟨0,by omega,rfl,⟨AL.nil _ _⟩,⟨Below.refl _ _⟩⟩
 case round =>
  obtain ⟨j,hj,rfl,HO,HW⟩:=hrel
  have HWW:=As (bj HX.out HW.out)
  have HW0:=As (bj HB.out HWW.out)
  by_cases hlt : j < ks.length
  ·obtain ⟨ad,rfl,g0⟩:=Dj HC.out j (by simpa [ints] using hlt)
   replace g0:=bc HW.out g0
   rw [MG hlt] at g0
   obtain ⟨n,hn⟩ : ∃ n,ks[j] = n:=⟨_,rfl⟩
   obtain ⟨hn0,hnl⟩:=HMM.out n (hn ▸ List.getElem_mem hlt)
   have HT:=As (show ks.take (j + 1) = ks.take j ++ [n] by rw [List.take_succ_eq_append_getElem hlt,hn])
   rw [hn] at g0
   obtain ⟨m,rfl⟩ : ∃ m,n = m + 1:=⟨n - 1,by omega⟩
   rw [show ((m + 1 : Nat) : Int) = (m : Int) + 1 from rfl] at g0
   have hml : m < l.length:=by omega
   obtain ⟨ad2,rfl,QR⟩:=CS HR.out m hml
   obtain ⟨z0,z1,z2,z3,z4,z5,z6,z7⟩:=QR.up HW0.out
   have hpl : (Bf l (isLoad) (ks.take j)).length ≤ 150:=by
    rw [Bf,List.length_map]
    refine Nat.le_trans (List.length_filter_le _ _) ?_
    rw [List.length_take]
    omega
   have HPL:=As hpl
   clear hn hn0 hnl hpl QR
   cases hv : (rc l m).kind == 3
   ·have HV:=As hv
    clear hv
    go_wp2_with (first | (with_reducible refine CJ (rc l m) ?_;intro w2 hb2 hz2 hq2;have HW3:=As (bj HW.out hb2);have HO3:=As (AL.below HO.out hb2);have HQ3:=As hq2;obtain ⟨x0,x1,x2,x3,x4,x5,x6,x7⟩:=hq2;simp only [Nat.zero_add] at x1 x2 x3 x4 x5 x6 x7;clear hb2) | (go_at_call 59;refine (IE HV.out _).mono ?_;rintro e w3 ⟨rfl,hb3⟩;have HW2:=As (bj HW3.out hb3);have HO2:=As (AL.below HO3.out hb3);obtain ⟨-, -,y2, -, -, -, -, -⟩:=HQ3.out.up hb3;simp only [Nat.zero_add] at y2;clear hb3))
    go_roundw
    case rel => exact ⟨j + 1,by omega,by go_num,⟨by rw [HT.out,show Bf l isLoad (ks.take j ++ [m + 1]) = Bf l isLoad (ks.take j) by have hv:=HV.out;simp [Bf,List.filter_append,isLoad,hv]];exact HO2.out⟩,HW2⟩
    case measure => simp [intOf];omega
   ·have HV:=As hv
    clear hv
    go_wp2_with (first | (with_reducible refine CJ (rc l m) ?_;intro w2 hb2 hz2 hq2;have HW3:=As (bj HW.out hb2);have HO3:=As (AL.below HO.out hb2);have HQ3:=As hq2;obtain ⟨x0,x1,x2,x3,x4,x5,x6,x7⟩:=hq2;simp only [Nat.zero_add] at x1 x2 x3 x4 x5 x6 x7;clear hb2) | (go_at_call 59;refine (IE HV.out _).mono ?_;rintro e w3 ⟨rfl,hb3⟩;have HW2:=As (bj HW3.out hb3);have HO2:=As (AL.below HO3.out hb3);obtain ⟨-, -,y2, -, -, -, -, -⟩:=HQ3.out.up hb3;simp only [Nat.zero_add] at y2;clear hb3) | (at_builtin;(refine Dx w1.heap.size rfl (.tmp 27) (.tmp 30) 32 3 .i64 8 rfl Ei FX (by omega) _ (Bf l (isLoad) (ks.take j)) (rc l m).page rfl rfl HO2.out HW2.out HW2.out.size (by have:=HPL.out;omega) ?_;intro v1 w4 hown1 hb1 _ _;have HO4:=As hown1;have HW4:=As hb1;clear hown1 hb1)))
    go_roundw
    case rel => exact ⟨j + 1,by omega,by go_num,⟨by rw [HT.out,show Bf l isLoad (ks.take j ++ [m + 1]) = Bf l isLoad (ks.take j) ++ [(rc l m).page] by have hv:=HV.out;simp [Bf,List.filter_append,isLoad,hv]];exact HO4.out⟩,HW4⟩
    case measure => simp [intOf];omega
  ·have HE:=As (show j = ks.length by omega)
   have hps : (Bf l (isLoad) (ks.take j)).length ≤ 150:=by
    rw [Bf,List.length_map]
    refine Nat.le_trans (List.length_filter_le _ _) ?_
    rw [List.length_take]
    omega
   have HPS:=As hps
   clear hps
   go_wp2_with (first | (go_at_call 98;refine (LM (by have:=HPS.out;omega) HO.out).mono ?_;rintro e w5 ⟨rfl,ho,hg⟩;have HW5:=As (HW.out.grown hg HW.out.size (fun k hk => HO.out.base hk));have HO5:=As ho;clear ho hg) | (go_at_call 100;refine (IX (by have:=HPS.out;rw [Fa,List.length_mergeSort];omega) HO5.out).mono ?_;rintro e w6 ⟨v6,rfl,ho,hg⟩;have HW6:=As (HW5.out.grown hg HW5.out.size (fun k hk => HO5.out.base hk));obtain ⟨A6,c6,rfl,hc6,hC6⟩:=ho.reads;have HC6:=As hC6;have HO6:=As ho;have HL6:=As hc6;clear ho hg hC6 hc6) | (go_at_call 99;refine (M6 (Cg HC6.out).2 HL6.out).mono ?_;rintro e w7 ⟨rfl,rfl⟩))
   go_ret
   have hj : ks.take j = BD l (Ai l tx l.length):=by rw [HE.out,List.take_length,HKS.out]
   rw [← hj]
   exact ⟨A6,_,rfl,HC6.out,fun S hS => Kd.U9 (Kd.EQ (ok:=fun k => w1.heap.size ≤ k) HO6.out (fun k hk => HO6.out.base hk)) (fun k h1 h2 => by have:=hS k h2;have:=HX.out.size;omega),bj HX.out HW6.out⟩
theorem O0 {l : List Rec} (hl : AB l = true) {n : Nat} (hn : n ≤ l.length) {p : Int} (h : Fg l n p = true) : 0 ≤ p ∧ p < 5:=by
 rw [Fg,List.any_eq_true] at h
 obtain ⟨m,hm,h1⟩:=h
 simp only [Bool.and_eq_true,beq_iff_eq] at h1
 have h2:=E8 n m hm
 have h3:=(Aq hl (k:=m - 1) (by omega)).ok
 rw [Dc] at h3
 omega
set_option maxRecDepth 100000 in
set_option maxHeartbeats 16000000 in
theorem SC {w0 w : World} {g gx : Nat} {e : Eng} {tx : Int} (hlog : AB e.log = true) (hl : e.log.length + 1 ≤ 150) (hgd : geo e.disk) (hgm : geo e.mem) (h : BR w0 w g e) (bx : Co w0 gx (.int .i64 tx) 3) : Calls Tryz.prog 58 #[ptr g,ptr gx] w (IK w0 g (Dg e tx)):=by
 obtain ⟨⟨vd,vm,vl,hq,ho⟩,hb,hg⟩:=h
 obtain ⟨Ad,cd,Am,cm,Al,cl, -, -,rfl, -,hrd⟩:=ho.reads
 obtain ⟨okd,okm, -,hpd, -⟩:=ho.ex
 obtain ⟨gd,capd,hfd, -,hgdl⟩:=Ci hpd (by have:=hgd.1;omega)
 have HSL : Aa (∀ k,(k = g ∨ some k = vd.ownBlock) → k < w.heap.size):=⟨by
  rintro k (rfl | hk)
  ·exact hq.lt
  ·rw [hfd] at hk
   have : k = gd:=by simpa [Value.ownBlock] using hk
   omega⟩
 obtain ⟨zs,hzs⟩ : ∃ zs,Go.Lib.compact (Fa (Bf e.log isLoad (BD e.log (Ai e.log tx e.log.length)))) = zs:=⟨_,rfl⟩
 have hmm : ∀ p : Int,p ∈ zs ↔ ld e.log tx e.log.length p = true:=fun p => by rw [← List.contains_iff_mem, ← hzs,Lx];rfl
 have HM:=As hmm
 have HRG : Aa (∀ p ∈ zs,0 ≤ p ∧ p < 5):=⟨fun p hp => O0 hlog (Bc _ _ _) ((hmm p).1 hp)⟩
 have HCALL : Aa (∀ wx,Below w.heap.size w wx → Calls Tryz.prog 46 #[.slice Al e.log.length cl, .int .i64 tx, .func (.func 59) #[] #[]] wx (XK wx zs)):=⟨fun wx hb => hzs ▸ OW tx hb hrd.l hlog⟩
 have x2:=hq.c2
 have y0:=bc hb bx.c0
 have HX:=As bx
 have HQ:=As hq
 have HO:=As ho
 have HB:=As hb
 have HG:=As hg
 have HGD:=As hgd
 have HGM:=As hgm
 have HL:=As hl
 have hzm : zs.length ≤ 150:=by
  rw [← hzs]
  refine Nat.le_trans (Go.Lib.compact_length_le _) ?_
  rw [Fa,List.length_mergeSort,Bf,List.length_map]
  refine Nat.le_trans (List.length_filter_le _ _) ?_
  have h1:=Ip (l:=e.log) (Ai e.log tx e.log.length)
  have h2:=Bc e.log tx e.log.length
  omega
 clear hq ho hb hg hgd hgm hl hrd hpd hfd hgdl hzs hmm hlog bx
 go_enter Tryz.func58,Tryz.ntmps58
 go_wp2
 refine AQ (fun lx a wx => Below w.heap.size w wx ∧ Sl 5 10 (fun v wx => ∃ A c,v = .slice A zs.length c ∧ ∀ W',Kept wx W' (fun k => k = g ∨ some k = vd.ownBlock) → Kd.C (Kd.int .i64) W' A zs.length zs) lx a wx) 8 rfl (by kernel_rfl) (⟨Af (Below.refl _ _),Bb⟩) (fun HT => ?_)
 refine AX [0,1,2,3,4,7] ?_
 iterate 6 (refine AR (v:=?_) HT rfl (by kernel_rfl) rfl (kA Ae (Aj rfl rfl)) (by rfl) (fun _ _ _ h => h) (fun lx ax wx hS => ?_) ?_;rotate_left;(have hbx:=hS.1;clear hS;replace x2:=bc hbx x2;replace y0:=bc hbx y0;go_simp;with_reducible rfl);rotate_left;simp only [sc0,sc1])
 refine AV ?_
 refine C8 (i:=5) (f:=46) (args:=#[.slice Al e.log.length cl, .int .i64 tx, .func (.func 59) #[] #[]]) (fun v => ∃ A c,v = .slice A zs.length c) rfl (by kernel_rfl) rfl Tryz.func46 (by kernel_rfl) rfl rfl (by rfl) (by simp only [List.map_toArray,List.map_cons,List.map_nil];rfl) (fun wx hS => (HCALL.out wx hS.1).mono (by rintro x w6 ⟨A,c,rfl, -,hst,hb⟩;exact ⟨_,rfl,⟨A,c,rfl⟩,bj hS.1 hb,fun _ => ⟨A,c,rfl,hst _ (fun k hk => Nat.lt_of_lt_of_le (HSL.out k hk) hS.1.size)⟩⟩)) (fun vx hg => ?_);simp only [sc0,sc1]
 obtain ⟨A,c,rfl⟩:=hg
 refine CR (i:=6) (v:=?_) HT rfl (by kernel_rfl) rfl (kA Ae (Aj rfl rfl)) (by rfl) (fun _ _ _ h => h) (fun lx ax wx hS => ?_) ?_;rotate_left;(go_simp;with_reducible rfl);rotate_left;simp only [sc0,sc1]
 refine Ej (by kernel_rfl) (fun w5 hS => ?_)
 obtain ⟨hb5,h2⟩:=hS
 obtain ⟨A',c',e3,hst⟩:=h2 (by kernel_rfl)
 have e3 : Value.slice A zs.length c = .slice A' zs.length c':=e3
 injection e3 with e4
 subst e4
 have HB5:=As hb5
 have HST:=As hst
 clear hb5 h2 hst x2 y0
 go_wp2
 go_loopw [12] (fun i wr => ∃ k : Nat,k ≤ zs.length ∧ i = .int .i64 (k : Int) ∧ Aa (Ac wr g (CQ e (zs.take k)) vd vm (.slice Al e.log.length cl)) ∧ Aa (AO wr w0.heap.size vd vm (.slice Al e.log.length cl) (CQ e (zs.take k))) ∧ Aa (Below w0.heap.size w0 wr) ∧ Aa (Kept w5 wr (fun k => k = g ∨ some k = vd.ownBlock))) (fun i _ => (zs.length - intOf i).toNat)
 case atStart => exact ⟨0,Nat.zero_le _,rfl,⟨HQ.out.up HB5.out⟩,⟨HO.out.below HB5.out⟩,⟨bj HB.out HB5.out⟩,⟨Kept.refl _ _⟩⟩
 case round =>
  obtain ⟨k,hk,rfl,HQr,HOr,HBr,HKr⟩:=hrel
  by_cases hlt : k < zs.length
  ·obtain ⟨ad,rfl,g0⟩:=Dj (HST.out wr HKr.out) k hlt
   have hmem : iv zs k ∈ zs:=by rw [iv,List.getD_eq_getElem?_getD,List.getElem?_eq_getElem hlt];exact List.getElem_mem hlt
   have hrg:=HRG.out _ hmem
   obtain ⟨p,hp⟩ : ∃ p : Nat,iv zs k = (p : Int):=⟨(iv zs k).toNat,by omega⟩
   rw [hp] at g0
   have HT : Aa (CQ e (zs.take (k + 1)) = D7 (CQ e (zs.take k)) p):=⟨by rw [List.take_succ_eq_append_getElem hlt,Mc,show zs[k] = iv zs k by rw [iv,List.getD_eq_getElem?_getD,List.getElem?_eq_getElem hlt];rfl,hp,Int.toNat_natCast]⟩
   have HP5 : Aa (p < 5):=⟨by omega⟩
   have HD2 : Aa (geo (CQ e (zs.take k)).disk):=⟨NI _ _ HGD.out HGM.out (fun x hx => HRG.out x (List.mem_of_mem_take hx))⟩
   have HM2 : Aa (geo (CQ e (zs.take k)).mem):=⟨by rw [(F9 _ _).1];exact HGM.out⟩
   clear hmem hrg hp
   go_wp2_with (go_at_call 60;refine (NJ HP5.out HD2.out HM2.out HBr.out HG.out HQr.out HOr.out).mono ?_;rintro x w6 ⟨⟨v,rfl⟩,hq6,ho6,hb6,hk6⟩;have HX6:=As (And.intro hq6 (And.intro ho6 (And.intro hb6 hk6)));clear hq6 ho6 hb6 hk6)
   go_roundw
   case rel => exact ⟨k + 1,by omega,by go_num,⟨by rw [HT.out];exact HX6.out.1⟩,⟨by rw [HT.out];exact HX6.out.2.1⟩,⟨HX6.out.2.2.1⟩,⟨HKr.out.CX HX6.out.2.2.2 (fun k hk => .inl hk)⟩⟩
   case measure => simp [intOf];omega
  ·have hke : zs.take k = zs:=List.take_of_length_le (by omega)
   rw [hke] at HQr HOr
   obtain ⟨E,hE⟩ : ∃ E,CQ e zs = E:=⟨_,rfl⟩
   have hkp:=F9 zs e
   have hdw:=O6 (e:=e) (tx:=tx) (ps:=zs) HGD.out.1 (fun p _ => HM.out p) HRG.out
   rw [hE] at HQr HOr hkp hdw
   obtain ⟨l1,hl1⟩ : ∃ l1,E.log ++ [DN ⟨4,tx,0,0,0,0,0,0⟩ (Ai E.log tx E.log.length)] = l1:=⟨_,rfl⟩
   have hll : l1.length = e.log.length + 1:=by rw [← hl1,hkp.2.1];simp
   have HFIN : Aa ({ E with log:=l1,safe:=(l1.length : Int) } = Dg e tx):=⟨by
    rw [← hdw,hll]
    unfold Eng.app
    rw [if_neg (by simp [Cw]), ← hl1]
    rfl⟩
   have HL1:=As hl1
   have HEL : Aa (E.log.length ≤ 150):=⟨by rw [hkp.2.1];have:=HL.out;omega⟩
   have y0:=bc HBr.out HX.out.c0
   have hlg : (Value.slice Al e.log.length cl) = .slice Al E.log.length cl:=by rw [hkp.2.1]
   rw [hlg] at HQr HOr
   clear hE hkp hdw hl1 hll hke hlg
   go_wp2_with (go_at_call 61;go_loud (refine (Lc ⟨4,tx,0,0,0,0,0,0⟩ HEL.out HBr.out HG.out HQr.out HOr.out).mono ?_);go_loud (rw [show E.log ++ [DN ⟨4,tx,0,0,0,0,0,0⟩ (Ai E.log (Rec.tx ⟨4,tx,0,0,0,0,0,0⟩) E.log.length)] = l1 from HL1.out]);rintro x w7 ⟨vl2,rfl,hq7,ho7,hb7, -⟩;obtain ⟨A7d,c7d,A7m,c7m,A7,c7,e7d,e7m,rfl, -, -⟩:=ho7.reads;have HQ7:=As hq7;have HO7:=As ho7;have HB7:=As hb7;have z2:=hq7.c2;have z3:=hq7.c3;have f3:=hq7.frz 3;clear hq7 ho7 hb7 y0)
   have ho8:=HO7.out.FQ HQ7.out 3 (.int .i64 (l1.length : Int))
   exact bodyPost_ret (v:=.tuple #[]) (by simp [results,Tryz.results58,go_sem]) rfl ⟨⟨_,rfl⟩,by rw [← HFIN.out];exact ⟨⟨_,_,_,HQ7.out.CK (l1.length : Int),⟨ho8.ex,ho8.l⟩⟩,HB7.out.setCell (p:=⟨g,3,none⟩) HG.out _,HG.out⟩⟩
theorem U7 {w0 w : World} {e : Eng} {C : Nat → Page} {B : Nat} {Ad Am Al : Option Addr} {cd cm cl gx : Nat} (tx : Int) (hi : Inv e C B) (hB : B + 3 ≤ 150) (hcl : e.log.length ≤ cl) (hb : Below w0.heap.size w0 w) (hr : DC w0 e Ad Am Al) (bx : Co w gx (.int .i64 tx) 3) : Calls Tryz.prog 57 #[e.val Ad Am Al cd cm cl, .int .i64 tx, .func (.func 58) #[] #[ptr gx]] w (D9 w (Cz e tx (Dg e tx)).1 (Cz e tx (Dg e tx)).2):=by
 refine Lg (X:=Dg e tx) tx hi.ok hcl hb hr (fun hd hlast wb wx g hbw hg => ?_)
 have ht:=FP hi.core.log hlast
 have hx:=hi.SB hd ht hlast
 exact SC hi.core.log (hx.Oe (by simp [Dg])) (Ak (Cv.2 ⟨hi.core.dlen,hi.core.dok⟩)) (Ak hi.FT) hg (bx.up hbw)
set_option maxRecDepth 100000 in
set_option maxHeartbeats 16000000 in
theorem LF {w0 w : World} {e : Eng} {C : Nat → Page} {B : Nat} {Ad Am Al : Option Addr} {cd cm cl : Nat} (tx : Int) (hi : Inv e C B) (hB : B + 3 ≤ 150) (hcl : e.log.length ≤ cl) (hb : Below w0.heap.size w0 w) (hr : DC w0 e Ad Am Al) : Calls Tryz.prog 27 #[e.val Ad Am Al cd cm cl, .int .i64 tx] w (D9 w (Cz e tx (Dg e tx)).1 (Cz e tx (Dg e tx)).2):=by
 obtain ⟨E,bb,hE⟩ : ∃ E bb,Cz e tx (Dg e tx) = (E,bb):=⟨_,_,rfl⟩
 have HIN : Aa (∀ wx g_tx,Below w.heap.size w wx → Co wx g_tx (.int .i64 tx) 3 → Calls Tryz.prog 57 #[e.val Ad Am Al cd cm cl, .int .i64 tx, .func (.func 58) #[] #[ptr g_tx]] wx (D9 wx E bb)):=⟨fun wx g_tx hbx b_tx => by
  have h:=U7 (cd:=cd) (cm:=cm) tx hi hB hcl (bj hb hbx) hr b_tx
  rw [hE] at h
  exact h⟩
 rw [hE]
 clear hi hb hr hE hcl hB
 go_enter Tryz.func27,Tryz.ntmps27
 go_wp2_with (first
  | (with_reducible refine Ag (vd:=.slice Ad e.disk.length cd) (vm:=.slice Am e.mem.length cm) (vl:=.slice Al e.log.length cl) e ?_;intro w1 hb1 hz1 hq1;clear hz1;have HB:=As hb1;have HQ:=As hq1;clear hb1 hq1)
  | (with_reducible refine DU (t:=3) (.int .i64 tx) ?_;intro w2 hb1 hz1 hq1;clear hz1;replace HB:=As (bj HB.out hb1);replace HQ:=As (HQ.out.up hb1);have HC_tx:=As hq1;clear hb1 hq1)
  | (refine Ag (vd:=.slice none 0 0) (vm:=.slice none 0 0) (vl:=.slice none 0 0) zE ?_;intro w3 hb1 hz1 hq1;have HBG:=As HB.out.size;replace HB:=As (bj HB.out hb1);replace HQ:=As (HQ.out.up hb1);replace HC_tx:=As (HC_tx.out.up hb1);have HP:=As hq1;have HZ:=As hz1;have x0:=HQ.out.c0;have x1:=HQ.out.c1;have x2:=HQ.out.c2;have x3:=HQ.out.c3;have x4:=HQ.out.c4;have c_tx:=HC_tx.out.c0;clear hb1 hz1 hq1)
  | (go_at_call 57;refine (HIN.out w3 _ HB.out HC_tx.out).mono ?_;rintro x w4 ⟨vd,vm,vl,rfl,ho,hb2⟩;obtain ⟨Ed,n1,Em,n2,El,n3,rfl,rfl,rfl, -, -⟩:=ho.reads;have HO:=As ho;have HX:=As hb2;have hp:=HP.out.up hb2;have HP2:=As hp;have y0:=hp.c0;have y1:=hp.c1;have y2:=hp.c2;have y3:=hp.c3;have y4:=hp.c4;have f0:=hp.frz 0;have f1:=hp.frz 1;have f2:=hp.frz 2;have f3:=hp.frz 3;have f4:=hp.frz 4;clear hp hb2 ho x0 x1 x2 x3 x4 c_tx))
 have hy:=HP2.out.Ao E (.slice Ed E.disk.length n1) (.slice Em E.mem.length n2) (.slice El E.log.length n3)
 have h1:=HO.out.Ao (f:=E) (xd:=.slice Ed E.disk.length n1) (xm:=.slice Em E.mem.length n2) (xl:=.slice El E.log.length n3) HP2.out
 have hge:=HBG.out
 have hzz:=HZ.out
 have h2:=Ah (g:=w2.heap.size) (bj HB.out HX.out) hge E (.slice Ed E.disk.length n1) (.slice Em E.mem.length n2) (.slice El E.log.length n3)
 have z0:=hy.c0
 have z1:=hy.c1
 have z2:=hy.c2
 have z3:=hy.c3
 have z4:=hy.c4
 exact bodyPost_ret (v:=.tuple #[E.ag (.slice Ed E.disk.length n1) (.slice Em E.mem.length n2) (.slice El E.log.length n3), .bool bb]) (by simp [results,Tryz.results27,go_sem,z0,z1,z2,z3,z4]) rfl ⟨_,_,_,rfl,h1.lower (by omega),h2⟩
set_option maxRecDepth 100000 in
set_option maxHeartbeats 16000000 in
theorem Lf {w0 w : World} {e : Eng} {Ad Am Al : Option Addr} {cd cm cl : Nat} (tx : Int) {p3 : Value} {X : Eng} (hok : eOk e = true) (hcl : e.log.length ≤ cl) (hb : Below w0.heap.size w0 w) (hr : DC w0 e Ad Am Al)
  (hw : e.down = false → Ai e.log tx e.log.length ≠ 0 → ∀ wb wx g,Below w.heap.size w wb → BR wb wx g e → Calls Tryz.prog 135 #[ptr g,p3] wx (IK wb g X)) : Calls Tryz.prog 57 #[e.val Ad Am Al cd cm cl, .int .i64 tx, .func (.func 135) #[] #[p3]] w (D9 w (Cz e tx X).1 (Cz e tx X).2):=by
 have HR:=As (hr.up hb)
 have HW:=As hw
 have HV:=As hok
 have HF:=As (Fv.1 hok)
 have HLG:=As (Bo HF.out.log)
 clear hr hb hw hok
 obtain ⟨w1,hw1⟩ : ∃ w1,w.alloc (e.obox (.slice Ad e.disk.length cd) (.slice Am e.mem.length cm) (.slice Al e.log.length cl)) = w1:=⟨_,rfl⟩
 obtain ⟨w2,hw2⟩ : ∃ w2,w1.alloc (zE.obox (.slice none 0 0) (.slice none 0 0) (.slice none 0 0)) = w2:=⟨_,rfl⟩
 have hz1 : w1.heap.size = w.heap.size + 1:=by rw [← hw1];exact BJ _ _
 have hz2 : w2.heap.size = w.heap.size + 2:=by rw [← hw2,BJ,hz1]
 have hb12 : Below w1.heap.size w1 w2:=by rw [← hw2];exact Ab (Below.refl _ _) _
 have HB2 : Aa (Below w.heap.size w w2):=⟨by rw [← hw2, ← hw1];exact Ab (Ab (Below.refl _ _) _) _⟩
 have HQ2 : Aa (Ac w2 w.heap.size e (.slice Ad e.disk.length cd) (.slice Am e.mem.length cm) (.slice Al e.log.length cl)):=⟨Ac.up (by rw [← hw1];exact Ac.mk1 _ _ _ _ _) hb12⟩
 have HP2 : Aa (Ac w2 (w.heap.size + 1) zE (.slice none 0 0) (.slice none 0 0) (.slice none 0 0)):=⟨by rw [← hw2, ← hz1];exact Ac.mk1 _ _ _ _ _⟩
 have HW2 : Aa ((w.alloc (e.obox (.slice Ad e.disk.length cd) (.slice Am e.mem.length cm) (.slice Al e.log.length cl))).alloc (zE.obox (.slice none 0 0) (.slice none 0 0) (.slice none 0 0)) = w2):=⟨by rw [hw1,hw2]⟩
 have HZ2:=As hz2
 clear hw1 hw2 hz1 hz2 hb12
 have x0:=HQ2.out.c0
 have x1:=HQ2.out.c1
 have x2:=HQ2.out.c2
 have x3:=HQ2.out.c3
 have x4:=HQ2.out.c4
 obtain ⟨n,hn⟩ : ∃ n : Nat,Ai e.log tx e.log.length = n:=⟨_,rfl⟩
 cases hdn : e.down
 rotate_left
 ·rw [show Cz e tx X = (e,false) by rw [Cz,if_neg (by rw [hdn];simp)]]
  have HDN:=As hdn
  clear hdn hn
  go_enter Tryz.func57,Tryz.ntmps57
  go_wp2_with (first
   | (go_at_call 43;rw [show (w.alloc (Obj.cells #[Value.slice Ad e.disk.length cd,Value.slice Am e.mem.length cm,Value.slice Al e.log.length cl,Value.int IntKind.i64 e.safe,Value.bool e.down] 28)).alloc (Obj.cells #[Value.slice none 0 0,Value.slice none 0 0,Value.slice none 0 0,Value.int IntKind.i64 0,Value.bool false] 28) = w2 from HW2.out];refine (Aw (cd:=cd) (cm:=cm) HV.out hcl HB2.out HR.out).mono ?_;rintro x w3 ⟨rfl,hb3⟩;have HX3:=As hb3;replace x0:=bc hb3 x0;replace x1:=bc hb3 x1;replace x2:=bc hb3 x2;replace x3:=bc hb3 x3;replace x4:=bc hb3 x4;clear hb3)
   | (go_at_call 45;refine (AP (cd:=cd) (cm:=cm) (cl:=cl) (Ak HF.out.disk) (Ak HF.out.mem) HLG.out (bj HB2.out HX3.out) HR.out).mono ?_;rintro x w4 ⟨vd,vm,vl,rfl,ho,hb4⟩;obtain ⟨Bd,dd,Bm,dm,Bl,dl,rfl,rfl,rfl, -,hc⟩:=ho.reads;have HO4:=As ho;have HC4:=As hc;have HX4:=As hb4;clear ho hb4 hc x0 x1 x2 x3 x4)
   | (refine Ag (vd:=.slice Bd e.disk.length dd) (vm:=.slice Bm e.mem.length dm) (vl:=.slice Bl e.log.length dl) e ?_;intro w5 hb5 _ hq5;have q0:=hq5.c0;have q1:=hq5.c1;have q2:=hq5.c2;have q3:=hq5.c3;have q4:=hq5.c4;rw [HDN.out] at q4;have HO7:=As (HO4.out.below hb5);have HX7:=As (bj HX4.out hb5);have hp:=HP2.out.up (bj HX3.out HX7.out);have HP7:=As hp;have y0:=hp.c0;have y1:=hp.c1;have y2:=hp.c2;have y3:=hp.c3;have y4:=hp.c4;have f0:=hp.frz 0;have f1:=hp.frz 1;have f2:=hp.frz 2;have f3:=hp.frz 3;have f4:=hp.frz 4;clear hp;clear hb5 hq5))
  have hz:=HZ2.out
  have hn3:=HX3.out.size
  have hy:=HP7.out.Ao ⟨e.disk,e.mem,e.log,e.safe,true⟩ (.slice Bd e.disk.length dd) (.slice Bm e.mem.length dm) (.slice Bl e.log.length dl)
  have h1:=HO7.out.Ao (f:=⟨e.disk,e.mem,e.log,e.safe,true⟩) (xd:=.slice Bd e.disk.length dd) (xm:=.slice Bm e.mem.length dm) (xl:=.slice Bl e.log.length dl) HP7.out
  have h2:=Ah (g:=w.heap.size + 1) (bj HB2.out (bj HX3.out HX7.out)) (by omega) ⟨e.disk,e.mem,e.log,e.safe,true⟩ (.slice Bd e.disk.length dd) (.slice Bm e.mem.length dm) (.slice Bl e.log.length dl)
  have z0:=hy.c0
  have z1:=hy.c1
  have z2:=hy.c2
  have z3:=hy.c3
  have z4:=hy.c4
  simp only at z0 z1 z2 z3 z4
  exact bodyPost_ret (v:=.tuple #[.agg #[.slice Bd e.disk.length dd, .slice Bm e.mem.length dm, .slice Bl e.log.length dl, .int .i64 e.safe, .bool true], .bool false]) (by simp [results,Tryz.results57,go_sem,z0,z1,z2,z3,z4]) rfl ⟨.slice Bd e.disk.length dd, .slice Bm e.mem.length dm, .slice Bl e.log.length dl,by unfold Eng.ag;rw [HDN.out],h1.lower (by omega),h2⟩
 have HDN:=As hdn
 have HLN:=As hn
 clear hdn hn
 rcases n with _ | n
 ·rw [show Cz e tx X = (e,false) by rw [Cz,if_neg (by rw [HLN.out];simp)]]
  go_enter Tryz.func57,Tryz.ntmps57
  go_wp2_with (first
   | (go_at_call 43;rw [show (w.alloc (Obj.cells #[Value.slice Ad e.disk.length cd,Value.slice Am e.mem.length cm,Value.slice Al e.log.length cl,Value.int IntKind.i64 e.safe,Value.bool e.down] 28)).alloc (Obj.cells #[Value.slice none 0 0,Value.slice none 0 0,Value.slice none 0 0,Value.int IntKind.i64 0,Value.bool false] 28) = w2 from HW2.out];refine (Aw (cd:=cd) (cm:=cm) HV.out hcl HB2.out HR.out).mono ?_;rintro x w3 ⟨rfl,hb3⟩;have HX3:=As hb3;replace x0:=bc hb3 x0;replace x1:=bc hb3 x1;replace x2:=bc hb3 x2;replace x3:=bc hb3 x3;replace x4:=bc hb3 x4;clear hb3)
   | (go_at_call 45;refine (AP (cd:=cd) (cm:=cm) (cl:=cl) (Ak HF.out.disk) (Ak HF.out.mem) HLG.out (bj HB2.out HX3.out) HR.out).mono ?_;rintro x w4 ⟨vd,vm,vl,rfl,ho,hb4⟩;obtain ⟨Bd,dd,Bm,dm,Bl,dl,rfl,rfl,rfl, -,hc⟩:=ho.reads;have HO4:=As ho;have HC4:=As hc;have HX4:=As hb4;clear ho hb4 hc x0 x1 x2 x3 x4)
   | (refine Ag (vd:=.slice Bd e.disk.length dd) (vm:=.slice Bm e.mem.length dm) (vl:=.slice Bl e.log.length dl) e ?_;intro w5 hb5 _ hq5;have q0:=hq5.c0;have q1:=hq5.c1;have q2:=hq5.c2;have q3:=hq5.c3;have q4:=hq5.c4;rw [HDN.out] at q4;have HC5:=As (HC4.out.up hb5);have HO5:=As (HO4.out.below hb5);have HX5:=As (bj HX4.out hb5);have HG5 : Aa (BR w3 w5 w4.heap.size e):=⟨⟨⟨_,_,_,hq5,HO4.out.below hb5⟩,bj HX4.out hb5,HX4.out.size⟩⟩;clear hb5 hq5)
   | (go_at_call 82;refine (GZ (w0:=w5) (c:=dl) HLN.out (Below.refl _ _) HC5.out.l).mono ?_;rintro x w6 ⟨rfl,hb6⟩;replace q0:=bc hb6 q0;replace q1:=bc hb6 q1;replace q2:=bc hb6 q2;replace q3:=bc hb6 q3;replace q4:=bc hb6 q4;have HX7:=As (bj HX5.out hb6);have HO7:=As (HO5.out.below hb6);have hp:=HP2.out.up (bj HX3.out HX7.out);have HP7:=As hp;have y0:=hp.c0;have y1:=hp.c1;have y2:=hp.c2;have y3:=hp.c3;have y4:=hp.c4;have f0:=hp.frz 0;have f1:=hp.frz 1;have f2:=hp.frz 2;have f3:=hp.frz 3;have f4:=hp.frz 4;clear hp;clear hb6))
  have hz:=HZ2.out
  have hn3:=HX3.out.size
  have hy:=HP7.out.Ao ⟨e.disk,e.mem,e.log,e.safe,false⟩ (.slice Bd e.disk.length dd) (.slice Bm e.mem.length dm) (.slice Bl e.log.length dl)
  have h1:=HO7.out.Ao (f:=⟨e.disk,e.mem,e.log,e.safe,false⟩) (xd:=.slice Bd e.disk.length dd) (xm:=.slice Bm e.mem.length dm) (xl:=.slice Bl e.log.length dl) HP7.out
  have h2:=Ah (g:=w.heap.size + 1) (bj HB2.out (bj HX3.out HX7.out)) (by omega) ⟨e.disk,e.mem,e.log,e.safe,false⟩ (.slice Bd e.disk.length dd) (.slice Bm e.mem.length dm) (.slice Bl e.log.length dl)
  have z0:=hy.c0
  have z1:=hy.c1
  have z2:=hy.c2
  have z3:=hy.c3
  have z4:=hy.c4
  simp only at z0 z1 z2 z3 z4
  exact bodyPost_ret (v:=.tuple #[.agg #[.slice Bd e.disk.length dd, .slice Bm e.mem.length dm, .slice Bl e.log.length dl, .int .i64 e.safe, .bool false], .bool false]) (by simp [results,Tryz.results57,go_sem,z0,z1,z2,z3,z4]) rfl ⟨.slice Bd e.disk.length dd, .slice Bm e.mem.length dm, .slice Bl e.log.length dl,by unfold Eng.ag;rw [HDN.out],h1.lower (by omega),h2⟩
 ·have HNZ : Aa (Ai e.log tx e.log.length ≠ 0):=⟨by rw [HLN.out];omega⟩
  rw [show Cz e tx X = (X,true) by rw [Cz,if_pos ⟨HDN.out,HNZ.out⟩]]
  have hn0 : ¬ ((n + 1 : Nat) : Int) = 0:=by omega
  go_enter Tryz.func57,Tryz.ntmps57
  go_wp2_with (first
   | (go_at_call 43;rw [show (w.alloc (Obj.cells #[Value.slice Ad e.disk.length cd,Value.slice Am e.mem.length cm,Value.slice Al e.log.length cl,Value.int IntKind.i64 e.safe,Value.bool e.down] 28)).alloc (Obj.cells #[Value.slice none 0 0,Value.slice none 0 0,Value.slice none 0 0,Value.int IntKind.i64 0,Value.bool false] 28) = w2 from HW2.out];refine (Aw (cd:=cd) (cm:=cm) HV.out hcl HB2.out HR.out).mono ?_;rintro x w3 ⟨rfl,hb3⟩;have HX3:=As hb3;replace x0:=bc hb3 x0;replace x1:=bc hb3 x1;replace x2:=bc hb3 x2;replace x3:=bc hb3 x3;replace x4:=bc hb3 x4;clear hb3)
   | (go_at_call 45;refine (AP (cd:=cd) (cm:=cm) (cl:=cl) (Ak HF.out.disk) (Ak HF.out.mem) HLG.out (bj HB2.out HX3.out) HR.out).mono ?_;rintro x w4 ⟨vd,vm,vl,rfl,ho,hb4⟩;obtain ⟨Bd,dd,Bm,dm,Bl,dl,rfl,rfl,rfl, -,hc⟩:=ho.reads;have HO4:=As ho;have HC4:=As hc;have HX4:=As hb4;clear ho hb4 hc x0 x1 x2 x3 x4)
   | (refine Ag (vd:=.slice Bd e.disk.length dd) (vm:=.slice Bm e.mem.length dm) (vl:=.slice Bl e.log.length dl) e ?_;intro w5 hb5 _ hq5;have q0:=hq5.c0;have q1:=hq5.c1;have q2:=hq5.c2;have q3:=hq5.c3;have q4:=hq5.c4;rw [HDN.out] at q4;have HC5:=As (HC4.out.up hb5);have HO5:=As (HO4.out.below hb5);have HX5:=As (bj HX4.out hb5);have HG5 : Aa (BR w3 w5 w4.heap.size e):=⟨⟨⟨_,_,_,hq5,HO4.out.below hb5⟩,bj HX4.out hb5,HX4.out.size⟩⟩;clear hb5 hq5)
   | (go_at_call 82;refine (GZ (w0:=w5) (c:=dl) HLN.out (Below.refl _ _) HC5.out.l).mono ?_;rintro x w6 ⟨rfl,hb6⟩;have HG6:=As (HG5.out.up hb6);clear hb6 q0 q1 q2 q3 q4)
   | (go_at_call 135;refine (HW.out HDN.out HNZ.out w3 w6 w4.heap.size (bj HB2.out HX3.out) HG6.out).mono ?_;rintro x w8 ⟨⟨v,rfl⟩,hg8⟩;obtain ⟨ud,um,ul,hq,ho⟩:=hg8.ex;obtain ⟨Ed,n1,Em,n2,El,n3,rfl,rfl,rfl, -, -⟩:=ho.reads;have HO7:=As ho;have HX7:=As hg8.bel;have q0:=hq.c0;have q1:=hq.c1;have q2:=hq.c2;have q3:=hq.c3;have q4:=hq.c4;have hp:=HP2.out.up (bj HX3.out HX7.out);have HP7:=As hp;have y0:=hp.c0;have y1:=hp.c1;have y2:=hp.c2;have y3:=hp.c3;have y4:=hp.c4;have f0:=hp.frz 0;have f1:=hp.frz 1;have f2:=hp.frz 2;have f3:=hp.frz 3;have f4:=hp.frz 4;clear hp;clear hq ho hg8))
  have hz:=HZ2.out
  have hn3:=HX3.out.size
  have hy:=HP7.out.Ao X (.slice Ed X.disk.length n1) (.slice Em X.mem.length n2) (.slice El X.log.length n3)
  have h1:=HO7.out.Ao (f:=X) (xd:=.slice Ed X.disk.length n1) (xm:=.slice Em X.mem.length n2) (xl:=.slice El X.log.length n3) HP7.out
  have h2:=Ah (g:=w.heap.size + 1) (bj HB2.out (bj HX3.out HX7.out)) (by omega) X (.slice Ed X.disk.length n1) (.slice Em X.mem.length n2) (.slice El X.log.length n3)
  have z0:=hy.c0
  have z1:=hy.c1
  have z2:=hy.c2
  have z3:=hy.c3
  have z4:=hy.c4
  exact bodyPost_ret (v:=.tuple #[X.ag (.slice Ed X.disk.length n1) (.slice Em X.mem.length n2) (.slice El X.log.length n3), .bool true]) (by simp [results,Tryz.results57,go_sem,z0,z1,z2,z3,z4]) rfl ⟨.slice Ed X.disk.length n1, .slice Em X.mem.length n2, .slice El X.log.length n3,rfl,h1.lower (by omega),h2⟩
def GL (w : World) (g : Nat) : Nat:=match w.cell? ⟨g,2,none⟩ with
 | some (.slice _ n _) => n
 | _ => 0
theorem BR.GL {w0 w : World} {g : Nat} {e : Eng} (h : BR w0 w g e) : Go.Proofs.YtofgeajaajfiaaaGreat.GL w g = e.log.length:=by
 obtain ⟨⟨vd,vm,vl,hq,ho⟩, -, -⟩:=h
 obtain ⟨Ad,cd,Am,cm,Al,cl, -, -,rfl, -, -⟩:=ho.reads
 unfold Go.Proofs.YtofgeajaajfiaaaGreat.GL
 rw [hq.c2]
set_option maxRecDepth 100000 in
set_option maxHeartbeats 16000000 in
theorem Rp {w0 w : World} {g gx k : Nat} {e : Eng} {tx : Int} (hu : Ob tx k e) (h : BR w0 w g e) (bx : Co w0 gx (.int .i64 tx) 3) : Calls Tryz.prog 135 #[ptr g,ptr gx] w (IK w0 g (GK tx k e)):=by
 have HU:=As hu
 have HG:=As h
 have HX:=As bx
 obtain ⟨X,hX⟩ : ∃ X,GK tx k e = X:=⟨_,rfl⟩
 have HXX:=As hX
 rw [hX]
 clear hu h bx hX
 go_enter Tryz.func135,Tryz.ntmps135
 go_wp2
 go_loopw [] (fun wr => ∃ (j : Nat) (x : Eng),Aa (BR w0 wr g x) ∧ Aa (Ob tx j x ∧ GK tx j x = X)) (fun wr => 151 - GL wr g)
 case atStart => exact ⟨k,e,HG,⟨HU.out,HXX.out⟩⟩
 case round =>
  obtain ⟨j,x,HE,HJ⟩:=hrel
  obtain ⟨⟨vd,vm,vl,hq,ho⟩, -, -⟩:=HE.out
  obtain ⟨Ad,cd,Am,cm,Al,cl,rfl,rfl,rfl, -,hrd⟩:=ho.reads
  have x2:=hq.c2
  have y0:=bc HE.out.bel HX.out.c0
  have HC:=As hrd
  obtain ⟨n,hn⟩ : ∃ n : Nat,Ai x.log tx x.log.length = n:=⟨_,rfl⟩
  have HN:=As hn
  clear hq ho hrd hn
  rcases j with _ | j
  ·have hn0 : n = 0:=by rw [← HN.out];exact HJ.out.1.1
   have HXE : Aa (x = X):=⟨HJ.out.2⟩
   subst hn0
   go_wp2
   refine Ba (fun w' => Below wr.heap.size wr w') rfl rfl (by kernel_rfl) (Af (Below.refl _ _)) (fun HT => ?_)
   repeat (first
    | (refine BO (fun wx hS => ?_))
    | ((with_reducible refine Bh (f:=82) rfl ?_);refine Bj (v:=.int .i64 ((0 : Nat) : Int)) (args:=#[.slice Al x.log.length cl, .int .i64 tx]) HT rfl Tryz.func82 (by kernel_rfl) rfl rfl (by rfl) (fun _ _ _ h => h) (by simp only [List.map_toArray,List.map_cons,List.map_nil];rfl) (fun wx hS => (GZ (w0:=wr) (c:=cl) HN.out hS HC.out.l).mono fun _ _ h => ⟨h.1,bj hS h.2⟩) ?_;simp only [sc0,sc1])
    | (refine Bq HT rfl (by rfl) (fun _ _ _ h => h) ?_;simp only [sc0,sc1])
    | (refine BN (v:=?_) HT rfl (by rfl) (fun _ _ _ h => h) (fun wx hS => ?_) ?_;rotate_left;(have x2:=bc hS x2;have y0:=bc hS y0;go_simp;with_reducible rfl);rotate_left;simp only [sc0,sc1]))
   have HS:=As hS
   clear hS x2 y0
   go_wp2
   exact bodyPost_ret (v:=.tuple #[]) (by simp [results,Tryz.results135,go_sem]) rfl ⟨⟨_,rfl⟩,by rw [← HXE.out];exact HE.out.up HS.out⟩
  ·have hn0 : ¬ (n : Int) = 0:=by have h:=HJ.out.1.1;have h2:=HN.out;intro h3;exact h (h2.trans (by omega))
   have HST:=As HJ.out.1.2.1
   have HNX : Aa (Ob tx j (Be x tx) ∧ GK tx j (Be x tx) = X):=⟨HJ.out.1.2.2,HJ.out.2⟩
   go_wp2
   refine Ba (fun w' => Below wr.heap.size wr w') rfl rfl (by kernel_rfl) (Af (Below.refl _ _)) (fun HT => ?_)
   repeat (first
    | (refine BO (fun wx hS => ?_))
    | ((with_reducible refine Bh (f:=82) rfl ?_);refine Bj (v:=.int .i64 (n : Int)) (args:=#[.slice Al x.log.length cl, .int .i64 tx]) HT rfl Tryz.func82 (by kernel_rfl) rfl rfl (by rfl) (fun _ _ _ h => h) (by simp only [List.map_toArray,List.map_cons,List.map_nil];rfl) (fun wx hS => (GZ (w0:=wr) (c:=cl) HN.out hS HC.out.l).mono fun _ _ h => ⟨h.1,bj hS h.2⟩) ?_;simp only [sc0,sc1])
    | (refine Bq HT rfl (by rfl) (fun _ _ _ h => h) ?_;simp only [sc0,sc1])
    | (refine BN (v:=?_) HT rfl (by rfl) (fun _ _ _ h => h) (fun wx hS => ?_) ?_;rotate_left;(have x2:=bc hS x2;have y0:=bc hS y0;go_simp;with_reducible rfl);rotate_left;simp only [sc0,sc1]))
   have HE2:=As (HE.out.up hS)
   have y1:=bc hS y0
   clear hS x2 y0
   go_wp2_with (go_at_call 136;refine (Oy HST.out HE2.out).mono ?_;rintro x1 w9 ⟨⟨v1,rfl⟩,hg9⟩;have HG9:=As hg9;clear hg9 y1)
   go_roundw
   case rel => exact ⟨j,Be x tx,HG9,HNX⟩
   case measure =>
    have h1:=HG9.out.GL
    have h2:=HE.out.GL
    have h3:=HST.out.Xr
    have h4:=Ho x tx
    show 151 - GL w9 g < 151 - GL wr g
    omega
theorem U6 {w0 w : World} {e : Eng} {C : Nat → Page} {B : Nat} {Ad Am Al : Option Addr} {cd cm cl gx : Nat} (tx : Int) (hi : Inv e C B) (hB : B + 3 ≤ 150) (hcl : e.log.length ≤ cl) (hb : Below w0.heap.size w0 w) (hr : DC w0 e Ad Am Al) (bx : Co w gx (.int .i64 tx) 3) : Calls Tryz.prog 57 #[e.val Ad Am Al cd cm cl, .int .i64 tx, .func (.func 135) #[] #[ptr gx]] w (D9 w (Cz e tx (DF e tx)).1 (Cz e tx (DF e tx)).2):=by
 refine Lf (X:=DF e tx) tx hi.ok hcl hb hr (fun hd hlast wb wx g hbw hg => ?_)
 have ht:=FP hi.core.log hlast
 have hu:=Eb.VX ht _ e (hi.und hd tx) hlast rfl
 rw [DF,if_neg hlast]
 exact Rp hu hg (bx.up hbw)
set_option maxRecDepth 100000 in
set_option maxHeartbeats 16000000 in
theorem PZ {w0 w : World} {e : Eng} {C : Nat → Page} {B : Nat} {Ad Am Al : Option Addr} {cd cm cl : Nat} (tx : Int) (hi : Inv e C B) (hB : B + 3 ≤ 150) (hcl : e.log.length ≤ cl) (hb : Below w0.heap.size w0 w) (hr : DC w0 e Ad Am Al) : Calls Tryz.prog 90 #[e.val Ad Am Al cd cm cl, .int .i64 tx] w (D9 w (Cz e tx (DF e tx)).1 (Cz e tx (DF e tx)).2):=by
 obtain ⟨E,bb,hE⟩ : ∃ E bb,Cz e tx (DF e tx) = (E,bb):=⟨_,_,rfl⟩
 have HIN : Aa (∀ wx g_tx,Below w.heap.size w wx → Co wx g_tx (.int .i64 tx) 3 → Calls Tryz.prog 57 #[e.val Ad Am Al cd cm cl, .int .i64 tx, .func (.func 135) #[] #[ptr g_tx]] wx (D9 wx E bb)):=⟨fun wx g_tx hbx b_tx => by
  have h:=U6 (cd:=cd) (cm:=cm) tx hi hB hcl (bj hb hbx) hr b_tx
  rw [hE] at h
  exact h⟩
 rw [hE]
 clear hi hb hr hE hcl hB
 go_enter Tryz.func90,Tryz.ntmps90
 go_wp2_with (first
  | (with_reducible refine Ag (vd:=.slice Ad e.disk.length cd) (vm:=.slice Am e.mem.length cm) (vl:=.slice Al e.log.length cl) e ?_;intro w1 hb1 hz1 hq1;clear hz1;have HB:=As hb1;have HQ:=As hq1;clear hb1 hq1)
  | (with_reducible refine DU (t:=3) (.int .i64 tx) ?_;intro w2 hb1 hz1 hq1;clear hz1;replace HB:=As (bj HB.out hb1);replace HQ:=As (HQ.out.up hb1);have HC_tx:=As hq1;clear hb1 hq1)
  | (refine Ag (vd:=.slice none 0 0) (vm:=.slice none 0 0) (vl:=.slice none 0 0) zE ?_;intro w3 hb1 hz1 hq1;have HBG:=As HB.out.size;replace HB:=As (bj HB.out hb1);replace HQ:=As (HQ.out.up hb1);replace HC_tx:=As (HC_tx.out.up hb1);have HP:=As hq1;have HZ:=As hz1;have x0:=HQ.out.c0;have x1:=HQ.out.c1;have x2:=HQ.out.c2;have x3:=HQ.out.c3;have x4:=HQ.out.c4;have c_tx:=HC_tx.out.c0;clear hb1 hz1 hq1)
  | (go_at_call 57;refine (HIN.out w3 _ HB.out HC_tx.out).mono ?_;rintro x w4 ⟨vd,vm,vl,rfl,ho,hb2⟩;obtain ⟨Ed,n1,Em,n2,El,n3,rfl,rfl,rfl, -, -⟩:=ho.reads;have HO:=As ho;have HX:=As hb2;have hp:=HP.out.up hb2;have HP2:=As hp;have y0:=hp.c0;have y1:=hp.c1;have y2:=hp.c2;have y3:=hp.c3;have y4:=hp.c4;have f0:=hp.frz 0;have f1:=hp.frz 1;have f2:=hp.frz 2;have f3:=hp.frz 3;have f4:=hp.frz 4;clear hp hb2 ho x0 x1 x2 x3 x4 c_tx))
 have hy:=HP2.out.Ao E (.slice Ed E.disk.length n1) (.slice Em E.mem.length n2) (.slice El E.log.length n3)
 have h1:=HO.out.Ao (f:=E) (xd:=.slice Ed E.disk.length n1) (xm:=.slice Em E.mem.length n2) (xl:=.slice El E.log.length n3) HP2.out
 have hge:=HBG.out
 have hzz:=HZ.out
 have h2:=Ah (g:=w2.heap.size) (bj HB.out HX.out) hge E (.slice Ed E.disk.length n1) (.slice Em E.mem.length n2) (.slice El E.log.length n3)
 have z0:=hy.c0
 have z1:=hy.c1
 have z2:=hy.c2
 have z3:=hy.c3
 have z4:=hy.c4
 exact bodyPost_ret (v:=.tuple #[E.ag (.slice Ed E.disk.length n1) (.slice Em E.mem.length n2) (.slice El E.log.length n3), .bool bb]) (by simp [results,Tryz.results90,go_sem,z0,z1,z2,z3,z4]) rfl ⟨_,_,_,rfl,h1.lower (by omega),h2⟩
theorem MQ {w0 w : World} {e : Eng} {b : Bool} {Ad Am Al : Option Addr} {cd cm cl : Nat} (hdn : e.down = b) (hd : geo e.disk) (hm : geo e.mem) (hl : e.log.length ≤ 150) (hb : Below w0.heap.size w0 w) (hr : DC w0 e Ad Am Al) : Calls Tryz.prog 45 #[.agg #[.slice Ad e.disk.length cd, .slice Am e.mem.length cm, .slice Al e.log.length cl, .int .i64 e.safe, .bool b]] w (U2 w e):=by
 subst hdn
 exact AP hd hm hl hb hr
def Fs (e : Eng) (page : Int) : Eng × Bool:=if e.down = false ∧ inB page 0 4 = true then (D7 e page.toNat,true) else (zE,false)
set_option maxRecDepth 100000 in
set_option maxHeartbeats 16000000 in
theorem Na {w0 w : World} {e : Eng} {Ad Am Al : Option Addr} {cd cm cl : Nat} (page : Int) (hok : eOk e = true) (hcl : e.log.length ≤ cl) (hb : Below w0.heap.size w0 w) (hr : DC w0 e Ad Am Al) : Calls Tryz.prog 91 #[e.val Ad Am Al cd cm cl, .int .i64 page] w (D9 w (Fs e page).1 (Fs e page).2):=by
 have HR:=As (hr.up hb)
 have HV:=As hok
 have HF:=As (Fv.1 hok)
 have HLG:=As (Bo HF.out.log)
 clear hr hb hok
 obtain ⟨w1,hw1⟩ : ∃ w1,w.alloc (e.obox (.slice Ad e.disk.length cd) (.slice Am e.mem.length cm) (.slice Al e.log.length cl)) = w1:=⟨_,rfl⟩
 obtain ⟨w2,hw2⟩ : ∃ w2,w1.alloc (zE.obox (.slice none 0 0) (.slice none 0 0) (.slice none 0 0)) = w2:=⟨_,rfl⟩
 have hz1 : w1.heap.size = w.heap.size + 1:=by rw [← hw1];exact BJ _ _
 have hz2 : w2.heap.size = w.heap.size + 2:=by rw [← hw2,BJ,hz1]
 have hb12 : Below w1.heap.size w1 w2:=by rw [← hw2];exact Ab (Below.refl _ _) _
 have HB2 : Aa (Below w.heap.size w w2):=⟨by rw [← hw2, ← hw1];exact Ab (Ab (Below.refl _ _) _) _⟩
 have HQ2 : Aa (Ac w2 w.heap.size e (.slice Ad e.disk.length cd) (.slice Am e.mem.length cm) (.slice Al e.log.length cl)):=⟨Ac.up (by rw [← hw1];exact Ac.mk1 _ _ _ _ _) hb12⟩
 have HP2 : Aa (Ac w2 (w.heap.size + 1) zE (.slice none 0 0) (.slice none 0 0) (.slice none 0 0)):=⟨by rw [← hw2, ← hz1];exact Ac.mk1 _ _ _ _ _⟩
 have HW2 : Aa ((w.alloc (e.obox (.slice Ad e.disk.length cd) (.slice Am e.mem.length cm) (.slice Al e.log.length cl))).alloc (zE.obox (.slice none 0 0) (.slice none 0 0) (.slice none 0 0)) = w2):=⟨by rw [hw1,hw2]⟩
 have HZ2:=As hz2
 clear hw1 hw2 hz1 hz2 hb12
 have x0:=HQ2.out.c0
 have x1:=HQ2.out.c1
 have x2:=HQ2.out.c2
 have x3:=HQ2.out.c3
 have x4:=HQ2.out.c4
 cases hdn : e.down
 rotate_left
 ·rw [show Fs e page = (zE,false) by rw [Fs,if_neg (by rw [hdn];simp)]]
  rw [hdn] at x4
  clear hdn
  go_enter Tryz.func91,Tryz.ntmps91
  go_wp2_with (go_at_call 43;rw [show (w.alloc (Obj.cells #[Value.slice Ad e.disk.length cd,Value.slice Am e.mem.length cm,Value.slice Al e.log.length cl,Value.int IntKind.i64 e.safe,Value.bool e.down] 28)).alloc (Obj.cells #[Value.slice none 0 0,Value.slice none 0 0,Value.slice none 0 0,Value.int IntKind.i64 0,Value.bool false] 28) = w2 from HW2.out];refine (Aw (cd:=cd) (cm:=cm) HV.out hcl HB2.out HR.out).mono ?_;rintro x w3 ⟨rfl,hb3⟩;have HX3:=As hb3;have HB3:=As (bj HB2.out hb3);have hp:=HP2.out.up hb3;have HP3:=As hp;have y0:=hp.c0;have y1:=hp.c1;have y2:=hp.c2;have y3:=hp.c3;have y4:=hp.c4;have f0:=hp.frz 0;have f1:=hp.frz 1;have f2:=hp.frz 2;have f3:=hp.frz 3;have f4:=hp.frz 4;clear hp;replace x0:=bc hb3 x0;replace x1:=bc hb3 x1;replace x2:=bc hb3 x2;replace x3:=bc hb3 x3;replace x4:=bc hb3 x4;clear hb3)
  obtain ⟨z0,z1,z2,z3,z4⟩:=HP3.out.empty
  have hz:=HZ2.out
  exact bodyPost_ret (v:=.tuple #[zEv, .bool false]) (by simp [results,Tryz.results91,go_sem,z0,z1,z2,z3,z4]) rfl ⟨_,_,_,rfl,IW _ _,Ah (g:=w.heap.size + 1) HB3.out (by omega) zE _ _ _⟩
 have HDN:=As hdn
 rw [hdn] at x4
 clear hdn
 cases hpg : inB page 0 4
 ·rw [show Fs e page = (zE,false) by rw [Fs,if_neg (by rw [hpg];simp)]]
  have HPG:=As hpg
  clear hpg
  go_enter Tryz.func91,Tryz.ntmps91
  go_wp2_with (first
   | (go_at_call 43;rw [show (w.alloc (Obj.cells #[Value.slice Ad e.disk.length cd,Value.slice Am e.mem.length cm,Value.slice Al e.log.length cl,Value.int IntKind.i64 e.safe,Value.bool e.down] 28)).alloc (Obj.cells #[Value.slice none 0 0,Value.slice none 0 0,Value.slice none 0 0,Value.int IntKind.i64 0,Value.bool false] 28) = w2 from HW2.out];refine (Aw (cd:=cd) (cm:=cm) HV.out hcl HB2.out HR.out).mono ?_;rintro x w3 ⟨rfl,hb3⟩;have HX3:=As hb3;have HB3:=As (bj HB2.out hb3);have hp:=HP2.out.up hb3;have HP3:=As hp;have y0:=hp.c0;have y1:=hp.c1;have y2:=hp.c2;have y3:=hp.c3;have y4:=hp.c4;have f0:=hp.frz 0;have f1:=hp.frz 1;have f2:=hp.frz 2;have f3:=hp.frz 3;have f4:=hp.frz 4;clear hp;replace x0:=bc hb3 x0;replace x1:=bc hb3 x1;replace x2:=bc hb3 x2;replace x3:=bc hb3 x3;replace x4:=bc hb3 x4;clear hb3)
   | (go_at_call 62;refine (Bw _ _).mono ?_;rw [HPG.out];rintro x w' ⟨rfl,rfl⟩))
  obtain ⟨z0,z1,z2,z3,z4⟩:=HP3.out.empty
  have hz:=HZ2.out
  exact bodyPost_ret (v:=.tuple #[zEv, .bool false]) (by simp [results,Tryz.results91,go_sem,z0,z1,z2,z3,z4]) rfl ⟨_,_,_,rfl,IW _ _,Ah (g:=w.heap.size + 1) HB3.out (by omega) zE _ _ _⟩
 ·have HPG:=As hpg
  rw [DK] at hpg
  obtain ⟨p,rfl⟩ : ∃ p : Nat,page = (p : Int):=⟨page.toNat,by omega⟩
  have HP5 : Aa (p < 5):=⟨by omega⟩
  obtain ⟨X,hX⟩ : ∃ X,D7 e p = X:=⟨_,rfl⟩
  have HXX:=As hX
  rw [show Fs e (p : Int) = (X,true) by rw [Fs,if_pos ⟨HDN.out,HPG.out⟩,Int.toNat_natCast,hX]]
  clear hpg hX
  go_enter Tryz.func91,Tryz.ntmps91
  go_wp2_with (first
   | (go_at_call 43;rw [show (w.alloc (Obj.cells #[Value.slice Ad e.disk.length cd,Value.slice Am e.mem.length cm,Value.slice Al e.log.length cl,Value.int IntKind.i64 e.safe,Value.bool e.down] 28)).alloc (Obj.cells #[Value.slice none 0 0,Value.slice none 0 0,Value.slice none 0 0,Value.int IntKind.i64 0,Value.bool false] 28) = w2 from HW2.out];refine (Aw (cd:=cd) (cm:=cm) HV.out hcl HB2.out HR.out).mono ?_;rintro x w3 ⟨rfl,hb3⟩;have HX3:=As hb3;replace x0:=bc hb3 x0;replace x1:=bc hb3 x1;replace x2:=bc hb3 x2;replace x3:=bc hb3 x3;replace x4:=bc hb3 x4;clear hb3)
   | (go_at_call 62;refine (Bw _ _).mono ?_;rw [HPG.out];rintro x w' ⟨rfl,rfl⟩)
   | (go_at_call 45;refine (MQ (cd:=cd) (cm:=cm) (cl:=cl) HDN.out (Ak HF.out.disk) (Ak HF.out.mem) HLG.out (bj HB2.out HX3.out) HR.out).mono ?_;rintro x w4 ⟨vd,vm,vl,rfl,ho,hb4⟩;obtain ⟨Bd,dd,Bm,dm,Bl,dl,rfl,rfl,rfl, -,hc⟩:=ho.reads;have HO4:=As ho;have HC4:=As hc;have HX4:=As hb4;clear ho hb4 hc x0 x1 x2 x3 x4)
   | (refine Ag (vd:=.slice Bd e.disk.length dd) (vm:=.slice Bm e.mem.length dm) (vl:=.slice Bl e.log.length dl) e ?_;intro w5 hb5 _ hq5;have q0:=hq5.c0;have q1:=hq5.c1;have q2:=hq5.c2;have q3:=hq5.c3;have q4:=hq5.c4;have HQ5:=As hq5;have HO5:=As (HO4.out.below hb5);have HX5:=As (bj HX4.out hb5);have HGE:=As HX4.out.size;clear hb5 hq5)
   | (go_at_call 60;refine (NJ HP5.out (Ak HF.out.disk) (Ak HF.out.mem) HX5.out HGE.out HQ5.out HO5.out).mono ?_;rw [HXX.out];rintro x w7 ⟨⟨v,rfl⟩,hq7,ho7,hb7, -⟩;obtain ⟨Ed,n1,Em,n2,El,n3,ed,em,el, -, -⟩:=ho7.reads;rw [ed,em,el] at hq7 ho7;have HO7:=As ho7;have HX7:=As hb7;clear q0 q1 q2 q3 q4;have q0:=hq7.c0;have q1:=hq7.c1;have q2:=hq7.c2;have q3:=hq7.c3;have q4:=hq7.c4;have hp:=HP2.out.up (bj HX3.out HX7.out);have HP7:=As hp;have y0:=hp.c0;have y1:=hp.c1;have y2:=hp.c2;have y3:=hp.c3;have y4:=hp.c4;have f0:=hp.frz 0;have f1:=hp.frz 1;have f2:=hp.frz 2;have f3:=hp.frz 3;have f4:=hp.frz 4;clear hp;clear hq7 ho7 hb7))
  have hz:=HZ2.out
  have hn3:=HX3.out.size
  have hy:=HP7.out.Ao X (.slice Ed X.disk.length n1) (.slice Em X.mem.length n2) (.slice El X.log.length n3)
  have h1:=HO7.out.Ao (f:=X) (xd:=.slice Ed X.disk.length n1) (xm:=.slice Em X.mem.length n2) (xl:=.slice El X.log.length n3) HP7.out
  have h2:=Ah (g:=w.heap.size + 1) (bj HB2.out (bj HX3.out HX7.out)) (by omega) X (.slice Ed X.disk.length n1) (.slice Em X.mem.length n2) (.slice El X.log.length n3)
  have z0:=hy.c0
  have z1:=hy.c1
  have z2:=hy.c2
  have z3:=hy.c3
  have z4:=hy.c4
  exact bodyPost_ret (v:=.tuple #[X.ag (.slice Ed X.disk.length n1) (.slice Em X.mem.length n2) (.slice El X.log.length n3), .bool true]) (by simp [results,Tryz.results91,go_sem,z0,z1,z2,z3,z4]) rfl ⟨_,_,_,rfl,h1.lower (by omega),h2⟩
def Gs (e : Eng) : Eng × Bool:=if e.down = false then (GI e,true) else (zE,false)
set_option maxRecDepth 100000 in
set_option maxHeartbeats 16000000 in
theorem Nb {w0 w : World} {e : Eng} {Ad Am Al : Option Addr} {cd cm cl : Nat} (hok : eOk e = true) (hcl : e.log.length ≤ cl) (hb : Below w0.heap.size w0 w) (hr : DC w0 e Ad Am Al) : Calls Tryz.prog 92 #[e.val Ad Am Al cd cm cl] w (D9 w (Gs e).1 (Gs e).2):=by
 have HR:=As (hr.up hb)
 have HV:=As hok
 have HF:=As (Fv.1 hok)
 have HLG:=As (Bo HF.out.log)
 clear hr hb hok
 obtain ⟨w1,hw1⟩ : ∃ w1,w.alloc (e.obox (.slice Ad e.disk.length cd) (.slice Am e.mem.length cm) (.slice Al e.log.length cl)) = w1:=⟨_,rfl⟩
 obtain ⟨w2,hw2⟩ : ∃ w2,w1.alloc (zE.obox (.slice none 0 0) (.slice none 0 0) (.slice none 0 0)) = w2:=⟨_,rfl⟩
 have hz1 : w1.heap.size = w.heap.size + 1:=by rw [← hw1];exact BJ _ _
 have hz2 : w2.heap.size = w.heap.size + 2:=by rw [← hw2,BJ,hz1]
 have hb12 : Below w1.heap.size w1 w2:=by rw [← hw2];exact Ab (Below.refl _ _) _
 have HB2 : Aa (Below w.heap.size w w2):=⟨by rw [← hw2, ← hw1];exact Ab (Ab (Below.refl _ _) _) _⟩
 have HQ2 : Aa (Ac w2 w.heap.size e (.slice Ad e.disk.length cd) (.slice Am e.mem.length cm) (.slice Al e.log.length cl)):=⟨Ac.up (by rw [← hw1];exact Ac.mk1 _ _ _ _ _) hb12⟩
 have HP2 : Aa (Ac w2 (w.heap.size + 1) zE (.slice none 0 0) (.slice none 0 0) (.slice none 0 0)):=⟨by rw [← hw2, ← hz1];exact Ac.mk1 _ _ _ _ _⟩
 have HW2 : Aa ((w.alloc (e.obox (.slice Ad e.disk.length cd) (.slice Am e.mem.length cm) (.slice Al e.log.length cl))).alloc (zE.obox (.slice none 0 0) (.slice none 0 0) (.slice none 0 0)) = w2):=⟨by rw [hw1,hw2]⟩
 have HZ2:=As hz2
 clear hw1 hw2 hz1 hz2 hb12
 have x0:=HQ2.out.c0
 have x1:=HQ2.out.c1
 have x2:=HQ2.out.c2
 have x3:=HQ2.out.c3
 have x4:=HQ2.out.c4
 cases hdn : e.down
 rotate_left
 ·rw [show Gs e = (zE,false) by rw [Gs,if_neg (by rw [hdn];simp)]]
  rw [hdn] at x4
  clear hdn
  go_enter Tryz.func92,Tryz.ntmps92
  go_wp2_with (go_at_call 43;rw [show (w.alloc (Obj.cells #[Value.slice Ad e.disk.length cd,Value.slice Am e.mem.length cm,Value.slice Al e.log.length cl,Value.int IntKind.i64 e.safe,Value.bool e.down] 28)).alloc (Obj.cells #[Value.slice none 0 0,Value.slice none 0 0,Value.slice none 0 0,Value.int IntKind.i64 0,Value.bool false] 28) = w2 from HW2.out];refine (Aw (cd:=cd) (cm:=cm) HV.out hcl HB2.out HR.out).mono ?_;rintro x w3 ⟨rfl,hb3⟩;have HX3:=As hb3;have HB3:=As (bj HB2.out hb3);have hp:=HP2.out.up hb3;have HP3:=As hp;have y0:=hp.c0;have y1:=hp.c1;have y2:=hp.c2;have y3:=hp.c3;have y4:=hp.c4;have f0:=hp.frz 0;have f1:=hp.frz 1;have f2:=hp.frz 2;have f3:=hp.frz 3;have f4:=hp.frz 4;clear hp;replace x0:=bc hb3 x0;replace x1:=bc hb3 x1;replace x2:=bc hb3 x2;replace x3:=bc hb3 x3;replace x4:=bc hb3 x4;clear hb3)
  obtain ⟨z0,z1,z2,z3,z4⟩:=HP3.out.empty
  have hz:=HZ2.out
  exact bodyPost_ret (v:=.tuple #[zEv, .bool false]) (by simp [results,Tryz.results92,go_sem,z0,z1,z2,z3,z4]) rfl ⟨_,_,_,rfl,IW _ _,Ah (g:=w.heap.size + 1) HB3.out (by omega) zE _ _ _⟩
 have HDN:=As hdn
 rw [hdn] at x4
 rw [show Gs e = (GI e,true) by rw [Gs,if_pos hdn]]
 clear hdn
 go_enter Tryz.func92,Tryz.ntmps92
 go_wp2_with (first
  | (go_at_call 43;rw [show (w.alloc (Obj.cells #[Value.slice Ad e.disk.length cd,Value.slice Am e.mem.length cm,Value.slice Al e.log.length cl,Value.int IntKind.i64 e.safe,Value.bool e.down] 28)).alloc (Obj.cells #[Value.slice none 0 0,Value.slice none 0 0,Value.slice none 0 0,Value.int IntKind.i64 0,Value.bool false] 28) = w2 from HW2.out];refine (Aw (cd:=cd) (cm:=cm) HV.out hcl HB2.out HR.out).mono ?_;rintro x w3 ⟨rfl,hb3⟩;have HX3:=As hb3;replace x0:=bc hb3 x0;replace x1:=bc hb3 x1;replace x2:=bc hb3 x2;replace x3:=bc hb3 x3;replace x4:=bc hb3 x4;clear hb3)
  | (go_at_call 45;refine (MQ (cd:=cd) (cm:=cm) (cl:=cl) HDN.out (Ak HF.out.disk) (Ak HF.out.mem) HLG.out (bj HB2.out HX3.out) HR.out).mono ?_;rintro x w4 ⟨vd,vm,vl,rfl,ho,hb4⟩;obtain ⟨Bd,dd,Bm,dm,Bl,dl,rfl,rfl,rfl, -,hc⟩:=ho.reads;have HO4:=As ho;have HC4:=As hc;have HX4:=As hb4;clear ho hb4 hc x0 x1 x2 x3 x4)
  | (refine Ag (vd:=.slice Bd e.disk.length dd) (vm:=.slice Bm e.mem.length dm) (vl:=.slice Bl e.log.length dl) e ?_;intro w5 hb5 hz5 hq5;have q0:=hq5.c0;have q1:=hq5.c1;have q2:=hq5.c2;have q3:=hq5.c3;have q4:=hq5.c4;have g3:=hq5.frz 3;have HQ5:=As hq5;have HO5:=As (HO4.out.below hb5);have HX5:=As (bj HX4.out hb5);have HGE:=As HX4.out.size;have hne1 : ¬ w4.heap.size = w.heap.size + 1:=(by have:=HZ2.out;have:=HX3.out.size;have:=HGE.out;omega);have hne2 : ¬ w.heap.size + 1 = w4.heap.size:=fun e => hne1 e.symm;have hp:=HP2.out.up (bj HX3.out HX5.out);have HP7:=As hp;have y0:=hp.c0;have y1:=hp.c1;have y2:=hp.c2;have y3:=hp.c3;have y4:=hp.c4;have f0:=hp.frz 0;have f1:=hp.frz 1;have f2:=hp.frz 2;have f3:=hp.frz 3;have f4:=hp.frz 4;clear hp;clear hb5 hq5 hz5))
 have HO7 : Aa (AO (w5.setCell ⟨w4.heap.size,3,none⟩ (.int .i64 (e.log.length : Int))) w3.heap.size (.slice Bd e.disk.length dd) (.slice Bm e.mem.length dm) (.slice Bl e.log.length dl) e):=⟨HO5.out.FQ HQ5.out 3 _⟩
 have p1:=HP7.out.far (b:=w4.heap.size) (by omega) 3 (.int .i64 (e.log.length : Int))
 have b1:=(bj HB2.out (bj HX3.out HX5.out)).setCell (p:=⟨w4.heap.size,3,none⟩) (by show w.heap.size ≤ w4.heap.size;have:=HZ2.out;have:=HX3.out.size;have:=HGE.out;omega) (.int .i64 (e.log.length : Int))
 have hz:=HZ2.out
 have hn3:=HX3.out.size
 have hy:=p1.Ao (GI e) (.slice Bd e.disk.length dd) (.slice Bm e.mem.length dm) (.slice Bl e.log.length dl)
 have h1:=HO7.out.Ao (f:=GI e) (xd:=.slice Bd e.disk.length dd) (xm:=.slice Bm e.mem.length dm) (xl:=.slice Bl e.log.length dl) p1
 have h2:=Ah (g:=w.heap.size + 1) b1 (by omega) (GI e) (.slice Bd e.disk.length dd) (.slice Bm e.mem.length dm) (.slice Bl e.log.length dl)
 have z0:=hy.c0
 have z1:=hy.c1
 have z2:=hy.c2
 have z3:=hy.c3
 have z4:=hy.c4
 simp only [GI] at z0 z1 z2 z3 z4 h2
 exact bodyPost_ret (v:=.tuple #[(GI e).ag (.slice Bd e.disk.length dd) (.slice Bm e.mem.length dm) (.slice Bl e.log.length dl), .bool true]) (by simp [results,Tryz.results92,go_sem,z0,z1,z2,z3,z4,GI]) rfl ⟨_,_,_,rfl,AO.lower ⟨h1.ex,h1.l⟩ (by omega),h2⟩
abbrev Evt.val (v : Evt) (A : Option Addr) (c : Nat) : Value:=.agg #[.int .i64 v.kind, .int .i64 v.tx, .int .i64 v.page, .int .i64 v.slot, .int .i64 v.n, .slice A v.vals.length c]
def EvBox (w : World) (g : Nat) (v : Evt) (A : Option Addr) (c : Nat) : Prop:=w.heap[g]? = some (.cells #[.int .i64 v.kind, .int .i64 v.tx, .int .i64 v.page, .int .i64 v.slot, .int .i64 v.n, .slice A v.vals.length c] 36 (0,0))
section
variable {w w1 : World} {g c : Nat} {v : Evt} {A : Option Addr}
theorem EvBox.c0 (h : EvBox w g v A c) : w.cell? ⟨g,0,none⟩ = some (.int .i64 v.kind):=by unfold EvBox at h;simp [World.cell?,h]
theorem EvBox.c1 (h : EvBox w g v A c) : w.cell? ⟨g,1,none⟩ = some (.int .i64 v.tx):=by unfold EvBox at h;simp [World.cell?,h]
theorem EvBox.c2 (h : EvBox w g v A c) : w.cell? ⟨g,2,none⟩ = some (.int .i64 v.page):=by unfold EvBox at h;simp [World.cell?,h]
theorem EvBox.c3 (h : EvBox w g v A c) : w.cell? ⟨g,3,none⟩ = some (.int .i64 v.slot):=by unfold EvBox at h;simp [World.cell?,h]
theorem EvBox.c4 (h : EvBox w g v A c) : w.cell? ⟨g,4,none⟩ = some (.int .i64 v.n):=by unfold EvBox at h;simp [World.cell?,h]
theorem EvBox.c5 (h : EvBox w g v A c) : w.cell? ⟨g,5,none⟩ = some (.slice A v.vals.length c):=by unfold EvBox at h;simp [World.cell?,h]
theorem EvBox.lt (h : EvBox w g v A c) : g < w.heap.size:=(Array.getElem?_eq_some_iff.1 h).1
theorem EvBox.up (h : EvBox w g v A c) (hb : Below w.heap.size w w1) : EvBox w1 g v A c:=(hb.block g h.lt).trans h
end
theorem EvBox.mk1 (w : World) (v : Evt) (A : Option Addr) (c : Nat) : EvBox (w.alloc (.cells #[.int .i64 v.kind, .int .i64 v.tx, .int .i64 v.page, .int .i64 v.slot, .int .i64 v.n, .slice A v.vals.length c] 36)) w.heap.size v A c:=by
 show (w.heap.push _)[w.heap.size]? = _
 simp
theorem EJ {P : Program} {ops : Array Oper} {l : List Oper} {Q : Exit → Act → World → Prop} {a : Act} {w : World} (v : Evt) {A : Option Addr} {c : Nat} (h : ∀ w1,Below w.heap.size w w1 → w1.heap.size = w.heap.size + 1 → EvBox w1 w.heap.size v A c → wpList P ops Q l a w1) : wpList P ops Q l a (w.alloc (.cells #[.int .i64 v.kind, .int .i64 v.tx, .int .i64 v.page, .int .i64 v.slot, .int .i64 v.n, .slice A v.vals.length c] 36)):=h _ ((Below.refl _ _).alloc (Nat.le_refl _) _) (BJ _ _) (EvBox.mk1 _ _ _ _)
def Dk (e : Eng) (v : Evt) : Eng × Bool:=
 if v.kind = 1 then Ko e v.tx v.page v.slot v.n
 else if v.kind = 2 then Ku e v.tx v.page v.n
 else if v.kind = 3 then Ig e v.tx v.page v.vals
 else if v.kind = 4 then Cz e v.tx (Dg e v.tx)
 else if v.kind = 5 then Cz e v.tx (DF e v.tx)
 else if v.kind = 6 then Fs e v.page
 else if v.kind = 7 then Gs e
 else if v.kind = 8 then Il e v.n
 else if v.kind = 9 then ((upR e v.n).1,(upR e v.n).2 || (e.down && decide (0 ≤ v.n)))
 else (zE,false)
set_option maxRecDepth 100000 in
set_option maxHeartbeats 32000000 in
theorem SH {w0 w : World} {e : Eng} {C : Nat → Page} {B : Nat} {Ad Am Al A : Option Addr} {cd cm cl c : Nat} (v : Evt) (hi : Inv e C B) (hB : B + 3 ≤ 150) (hcl : e.log.length ≤ cl) (hb : Below w0.heap.size w0 w) (hr : DC w0 e Ad Am Al) (hv : Kd.C (Kd.int .i64) w0 A v.vals.length v.vals) : Calls Tryz.prog 44 #[e.val Ad Am Al cd cm cl,v.val A c] w (D9 w (Dk e v).1 (Dk e v).2):=by
 rcases BQ v.kind 1 with ⟨e1,b1,c1⟩ | ⟨e1,b1,c1⟩
 rw [show Dk e v = Ko e v.tx v.page v.slot v.n by rw [Dk,if_pos e1.out]]
 obtain ⟨E,bb,hE⟩ : ∃ E bb,Ko e v.tx v.page v.slot v.n = (E,bb):=⟨_,_,rfl⟩
 have HIN : Aa (∀ wx,Below w.heap.size w wx → Calls Tryz.prog 26 #[e.val Ad Am Al cd cm cl, .int .i64 v.tx, .int .i64 v.page, .int .i64 v.slot, .int .i64 v.n] wx (D9 wx E bb)):=⟨fun wx hbx => by
  have h:=JX (cd:=cd) (cm:=cm) v.tx v.page v.slot v.n hi hB hcl (bj hb hbx) hr
  rw [hE] at h
  exact h⟩
 rw [hE]
 clear hi hb hr hv hE hcl hB
 rotate_left
 rcases BQ v.kind 2 with ⟨e2,b2,c2⟩ | ⟨e2,b2,c2⟩
 rw [show Dk e v = Ku e v.tx v.page v.n by rw [Dk,if_neg e1.out,if_pos e2.out]]
 obtain ⟨E,bb,hE⟩ : ∃ E bb,Ku e v.tx v.page v.n = (E,bb):=⟨_,_,rfl⟩
 have HIN : Aa (∀ wx,Below w.heap.size w wx → Calls Tryz.prog 25 #[e.val Ad Am Al cd cm cl, .int .i64 v.tx, .int .i64 v.page, .int .i64 v.n] wx (D9 wx E bb)):=⟨fun wx hbx => by
  have h:=JY (cd:=cd) (cm:=cm) v.tx v.page v.n hi hB hcl (bj hb hbx) hr
  rw [hE] at h
  exact h⟩
 rw [hE]
 clear hi hb hr hv hE hcl hB
 rotate_left
 rcases BQ v.kind 3 with ⟨e3,b3,c3⟩ | ⟨e3,b3,c3⟩
 rw [show Dk e v = Ig e v.tx v.page v.vals by rw [Dk,if_neg e1.out,if_neg e2.out,if_pos e3.out]]
 obtain ⟨E,bb,hE⟩ : ∃ E bb,Ig e v.tx v.page v.vals = (E,bb):=⟨_,_,rfl⟩
 have HIN : Aa (∀ wx,Below w.heap.size w wx → Calls Tryz.prog 89 #[e.val Ad Am Al cd cm cl, .int .i64 v.tx, .int .i64 v.page, .slice A v.vals.length c] wx (D9 wx E bb)):=⟨fun wx hbx => by
  have h:=NG (cd:=cd) (cm:=cm) (cvals:=c) v.tx v.page v.vals hi hB hcl (bj hb hbx) hr hv
  rw [hE] at h
  exact h⟩
 rw [hE]
 clear hi hb hr hv hE hcl hB
 rotate_left
 rcases BQ v.kind 4 with ⟨e4,b4,c4⟩ | ⟨e4,b4,c4⟩
 rw [show Dk e v = Cz e v.tx (Dg e v.tx) by rw [Dk,if_neg e1.out,if_neg e2.out,if_neg e3.out,if_pos e4.out]]
 obtain ⟨E,bb,hE⟩ : ∃ E bb,Cz e v.tx (Dg e v.tx) = (E,bb):=⟨_,_,rfl⟩
 have HIN : Aa (∀ wx,Below w.heap.size w wx → Calls Tryz.prog 27 #[e.val Ad Am Al cd cm cl, .int .i64 v.tx] wx (D9 wx E bb)):=⟨fun wx hbx => by
  have h:=LF (cd:=cd) (cm:=cm) v.tx hi hB hcl (bj hb hbx) hr
  rw [hE] at h
  exact h⟩
 rw [hE]
 clear hi hb hr hv hE hcl hB
 rotate_left
 rcases BQ v.kind 5 with ⟨e5,b5,c5⟩ | ⟨e5,b5,c5⟩
 rw [show Dk e v = Cz e v.tx (DF e v.tx) by rw [Dk,if_neg e1.out,if_neg e2.out,if_neg e3.out,if_neg e4.out,if_pos e5.out]]
 obtain ⟨E,bb,hE⟩ : ∃ E bb,Cz e v.tx (DF e v.tx) = (E,bb):=⟨_,_,rfl⟩
 have HIN : Aa (∀ wx,Below w.heap.size w wx → Calls Tryz.prog 90 #[e.val Ad Am Al cd cm cl, .int .i64 v.tx] wx (D9 wx E bb)):=⟨fun wx hbx => by
  have h:=PZ (cd:=cd) (cm:=cm) v.tx hi hB hcl (bj hb hbx) hr
  rw [hE] at h
  exact h⟩
 rw [hE]
 clear hi hb hr hv hE hcl hB
 rotate_left
 rcases BQ v.kind 6 with ⟨e6,b6,c6⟩ | ⟨e6,b6,c6⟩
 rw [show Dk e v = Fs e v.page by rw [Dk,if_neg e1.out,if_neg e2.out,if_neg e3.out,if_neg e4.out,if_neg e5.out,if_pos e6.out]]
 obtain ⟨E,bb,hE⟩ : ∃ E bb,Fs e v.page = (E,bb):=⟨_,_,rfl⟩
 have HIN : Aa (∀ wx,Below w.heap.size w wx → Calls Tryz.prog 91 #[e.val Ad Am Al cd cm cl, .int .i64 v.page] wx (D9 wx E bb)):=⟨fun wx hbx => by
  have h:=Na (cd:=cd) (cm:=cm) v.page hi.ok hcl (bj hb hbx) hr
  rw [hE] at h
  exact h⟩
 rw [hE]
 clear hi hb hr hv hE hcl hB
 rotate_left
 rcases BQ v.kind 7 with ⟨e7,b7,c7⟩ | ⟨e7,b7,c7⟩
 rw [show Dk e v = Gs e by rw [Dk,if_neg e1.out,if_neg e2.out,if_neg e3.out,if_neg e4.out,if_neg e5.out,if_neg e6.out,if_pos e7.out]]
 obtain ⟨E,bb,hE⟩ : ∃ E bb,Gs e = (E,bb):=⟨_,_,rfl⟩
 have HIN : Aa (∀ wx,Below w.heap.size w wx → Calls Tryz.prog 92 #[e.val Ad Am Al cd cm cl] wx (D9 wx E bb)):=⟨fun wx hbx => by
  have h:=Nb (cd:=cd) (cm:=cm) hi.ok hcl (bj hb hbx) hr
  rw [hE] at h
  exact h⟩
 rw [hE]
 clear hi hb hr hv hE hcl hB
 rotate_left
 rcases BQ v.kind 8 with ⟨e8,b8,c8⟩ | ⟨e8,b8,c8⟩
 rw [show Dk e v = Il e v.n by rw [Dk,if_neg e1.out,if_neg e2.out,if_neg e3.out,if_neg e4.out,if_neg e5.out,if_neg e6.out,if_neg e7.out,if_pos e8.out]]
 obtain ⟨E,bb,hE⟩ : ∃ E bb,Il e v.n = (E,bb):=⟨_,_,rfl⟩
 have HIN : Aa (∀ wx,Below w.heap.size w wx → Calls Tryz.prog 93 #[e.val Ad Am Al cd cm cl, .int .i64 v.n] wx (D9 wx E bb)):=⟨fun wx hbx => by
  have h:=Ps (cd:=cd) (cm:=cm) v.n hcl (bj hb hbx) hr
  rw [hE] at h
  exact h⟩
 rw [hE]
 clear hi hb hr hv hE hcl hB
 rotate_left
 rcases BQ v.kind 9 with ⟨e9,b9,c9⟩ | ⟨e9,b9,c9⟩
 ·obtain ⟨E,r,hE⟩ : ∃ E r,upR e v.n = (E,r):=⟨_,_,rfl⟩
  rw [show Dk e v = (E,r || (e.down && decide (0 ≤ v.n))) by rw [Dk,if_neg e1.out,if_neg e2.out,if_neg e3.out,if_neg e4.out,if_neg e5.out,if_neg e6.out,if_neg e7.out,if_neg e8.out,if_pos e9.out,hE]]
  have HIN : Aa (∀ wx,Below w.heap.size w wx → Calls Tryz.prog 94 #[e.val Ad Am Al cd cm cl, .int .i64 v.n] wx (D9 wx E r)):=⟨fun wx hbx => by
   have h:=Rc (cd:=cd) (cm:=cm) v.n hcl (bj hb hbx) hr
   rw [hE] at h
   exact h⟩
  clear hi hb hr hv hE hcl hB
  go_enter Tryz.func44,Tryz.ntmps44
  go_wp2_with (first
   | (with_reducible refine Ag (vd:=.slice Ad e.disk.length cd) (vm:=.slice Am e.mem.length cm) (vl:=.slice Al e.log.length cl) e ?_;intro w1 hb1 hz1 hq1;clear hz1;have HB:=As hb1;have HQ:=As hq1;clear hb1 hq1)
   | (with_reducible refine EJ (A:=A) (c:=c) v ?_;intro w2 hb1 hz1 hq1;clear hz1;have HN1:=As HB.out.size;replace HB:=As (bj HB.out hb1);replace HQ:=As (HQ.out.up hb1);have HV:=As hq1;have HL1:=As hq1.lt;clear hb1 hq1)
   | (refine Ag (vd:=.slice none 0 0) (vm:=.slice none 0 0) (vl:=.slice none 0 0) zE ?_;intro w3 hb1 hz1 hq1;have HBG:=As HB.out.size;replace HB:=As (bj HB.out hb1);replace HQ:=As (HQ.out.up hb1);replace HV:=As (HV.out.up hb1);have HP:=As hq1;have HZ:=As hz1;have x0:=HQ.out.c0;have x1:=HQ.out.c1;have x2:=HQ.out.c2;have x3:=HQ.out.c3;have x4:=HQ.out.c4;have v0:=HV.out.c0;have v1:=HV.out.c1;have v2:=HV.out.c2;have v3:=HV.out.c3;have v4:=HV.out.c4;have v5:=HV.out.c5;have y0:=HP.out.c0;have y1:=HP.out.c1;have y2:=HP.out.c2;have y3:=HP.out.c3;have y4:=HP.out.c4;have f0:=HP.out.frz 0;have f1:=HP.out.frz 1;have f2:=HP.out.frz 2;have f3:=HP.out.frz 3;have f4:=HP.out.frz 4;clear hb1 hz1 hq1)
   | (go_at_call 94;refine (HIN.out w3 HB.out).mono ?_;rintro x w4 ⟨vd,vm,vl,rfl,ho,hb2⟩;obtain ⟨Ed,n1,Em,n2,El,n3,rfl,rfl,rfl, -, -⟩:=ho.reads;have HO:=As ho;have HX:=As hb2;clear x0 x1 x2 x3 x4 v0 v1 v2 v3 v4 v5 y0 y1 y2 y3 y4 f0 f1 f2 f3 f4;clear hb2 ho))
  obtain ⟨w5,hw5⟩ : ∃ w5,w4.alloc (Obj.cells #[.slice Ed E.disk.length n1, .slice Em E.mem.length n2, .slice El E.log.length n3, .int .i64 E.safe, .bool E.down] 28) = w5:=⟨_,rfl⟩
  rw [hw5]
  have hb5 : Below w4.heap.size w4 w5:=by rw [← hw5];exact Ab (Below.refl _ _) _
  have hq5 : Ac w5 w4.heap.size E (.slice Ed E.disk.length n1) (.slice Em E.mem.length n2) (.slice El E.log.length n3):=by rw [← hw5];exact Ac.mk1 _ _ _ _ _
  have HX5:=As (bj HX.out hb5)
  have HO5:=As (HO.out.below hb5)
  have HNB:=As hq5
  clear hw5 hb5 hq5
  have hs3:=HZ.out
  have hs4:=HX.out.size
  have hs2:=HL1.out
  have hv2:=HBG.out
  have HNE1 : Aa (¬ w4.heap.size = w2.heap.size):=⟨by omega⟩
  have HNE2 : Aa (¬ w1.heap.size = w2.heap.size):=⟨by omega⟩
  have HNE3 : Aa (¬ w.heap.size = w2.heap.size):=⟨by have:=HN1.out;omega⟩
  have hq5:=HQ.out.up HX5.out
  have hv5:=HV.out.up HX5.out
  have x4:=hq5.c4
  have v4:=hv5.c4
  have m0:=HNB.out.c0
  have m1:=HNB.out.c1
  have m2:=HNB.out.c2
  have m3:=HNB.out.c3
  have m4:=HNB.out.c4
  have HP5:=As (HP.out.up HX5.out)
  clear hq5 hv5 hs3 hs4 hs2 hv2
  cases r
  rotate_left
  ·skip
   refine AQ (fun lx a wx => Kept w5 wx (fun k => k = w2.heap.size) ∧ (Un 11 (fun wx => Below w5.heap.size w5 wx) lx a wx ∧ Ys 11 (fun wx => ∃ wy,Below w5.heap.size w5 wy ∧ wx = Go.Proofs.YtofgeajaajfiaaaGreat.Ao wy w2.heap.size E (.slice Ed E.disk.length n1) (.slice Em E.mem.length n2) (.slice El E.log.length n3)) lx a wx)) 13 rfl (by kernel_rfl) (⟨Kept.drew (Kept.refl _ _),fun _ => Af (Below.refl _ _),Hy⟩) (fun HT => ?_)
   refine AX [0,1,2] ?_
   iterate 3 (refine AR (v:=?_) HT rfl (by kernel_rfl) rfl (kA Ae (kA (AA rfl) (C9 rfl))) (by rfl) (fun _ _ _ h => h) (fun lx ax wx hS => ?_) ?_;rotate_left;(have hkx:=hS.1;clear hS;replace x4:=AY x4 hkx HNE3.out;replace v4:=AY v4 hkx HNE2.out;replace m0:=AY m0 hkx HNE1.out;replace m1:=AY m1 hkx HNE1.out;replace m2:=AY m2 hkx HNE1.out;replace m3:=AY m3 hkx HNE1.out;replace m4:=AY m4 hkx HNE1.out;go_simp;with_reducible rfl);rotate_left;simp only [sc0,sc1])
   refine AV ?_
   refine Fb (i:=3) HT rfl (by kernel_rfl) rfl (kA Ae (kA (AA rfl) (C9 rfl))) (by rfl) (fun _ _ _ h => h) ?_;simp only [sc0,sc1]
   refine Fb (i:=4) HT rfl (by kernel_rfl) rfl (kA Ae (kA (AA rfl) (C9 rfl))) (by rfl) (fun _ _ _ h => h) ?_;simp only [sc0,sc1]
   refine Fb (i:=5) HT rfl (by kernel_rfl) rfl (kA Ae (kA (AA rfl) (C9 rfl))) (by rfl) (fun _ _ _ h => h) ?_;simp only [sc0,sc1]
   refine Fb (i:=6) HT rfl (by kernel_rfl) rfl (kA Ae (kA (AA rfl) (C9 rfl))) (by rfl) (fun _ _ _ h => h) ?_;simp only [sc0,sc1]
   refine Fb (i:=7) HT rfl (by kernel_rfl) rfl (kA Ae (kA (AA rfl) (C9 rfl))) (by rfl) (fun _ _ _ h => h) ?_;simp only [sc0,sc1]
   refine Fb (i:=8) HT rfl (by kernel_rfl) rfl (kA Ae (kA (AA rfl) (C9 rfl))) (by rfl) (fun _ _ _ h => h) ?_;simp only [sc0,sc1]
   refine Fb (i:=9) HT rfl (by kernel_rfl) rfl (kA Ae (kA (AA rfl) (C9 rfl))) (by rfl) (fun _ _ _ h => h) ?_;simp only [sc0,sc1]
   refine CR (i:=10) (v:=?_) HT rfl (by kernel_rfl) rfl (kA Ae (kA (AA rfl) (C9 rfl))) (by rfl) (fun _ _ _ h => h) (fun lx ax wx hS => ?_) ?_;rotate_left;(have hkx:=hS.1;clear hS;replace x4:=AY x4 hkx HNE3.out;replace v4:=AY v4 hkx HNE2.out;replace m0:=AY m0 hkx HNE1.out;replace m1:=AY m1 hkx HNE1.out;replace m2:=AY m2 hkx HNE1.out;replace m3:=AY m3 hkx HNE1.out;replace m4:=AY m4 hkx HNE1.out;go_simp;with_reducible rfl);rotate_left;simp only [sc0,sc1]
   refine AJ [11] (by kernel_rfl) (fun i hi wx hS => ?_)
   obtain rfl:=List.mem_singleton.1 hi
   clear hi
   have hbx:=hS.2.1 (by kernel_rfl)
   have hp:=HP5.out.up hbx
   have y0:=hp.c0
   have y1:=hp.c1
   have y2:=hp.c2
   have y3:=hp.c3
   have y4:=hp.c4
   have f0:=hp.frz 0
   have f1:=hp.frz 1
   have f2:=hp.frz 2
   have f3:=hp.frz 3
   have f4:=hp.frz 4
   refine Bv (w1:=Go.Proofs.YtofgeajaajfiaaaGreat.Ao wx w2.heap.size E (.slice Ed E.disk.length n1) (.slice Em E.mem.length n2) (.slice El E.log.length n3)) rfl (by rfl) (by go_simp) ?_
   refine ⟨⟨((((hS.1.setCell (p:=⟨w2.heap.size,0,none⟩) (.inl rfl) _).setCell (p:=⟨w2.heap.size,1,none⟩) (.inl rfl) _).setCell (p:=⟨w2.heap.size,2,none⟩) (.inl rfl) _).setCell (p:=⟨w2.heap.size,3,none⟩) (.inl rfl) _).setCell (p:=⟨w2.heap.size,4,none⟩) (.inl rfl) _,fun h => (Ap (by kernel_rfl) h).elim,fun _ => ⟨wx,hbx,rfl⟩⟩,?_⟩
   clear hS hbx hp y0 y1 y2 y3 y4 f0 f1 f2 f3 f4
   refine CR (i:=12) (v:=?_) HT rfl (by kernel_rfl) rfl (kA Ae (kA (AA rfl) (C9 rfl))) (by rfl) (fun _ _ _ h => h) (fun lx ax wx hS => ?_) ?_;rotate_left;(go_simp;with_reducible rfl);rotate_left;simp only [sc0,sc1]
   refine Ej (by kernel_rfl) (fun w8 hS => ?_)
   obtain ⟨wy,hby,rfl⟩:=hS.2.2 (by kernel_rfl)
   clear hS
   have HP2:=As (HP5.out.up hby)
   have HO2:=As (HO5.out.below hby)
   have HX2:=As (bj HX5.out hby)
   clear hby x4 v4
   go_wp2
   have hy:=HP2.out.Ao E (.slice Ed E.disk.length n1) (.slice Em E.mem.length n2) (.slice El E.log.length n3)
   have h1:=HO2.out.Ao (f:=E) (xd:=.slice Ed E.disk.length n1) (xm:=.slice Em E.mem.length n2) (xl:=.slice El E.log.length n3) HP2.out
   have hge:=HBG.out
   have hzz:=HZ.out
   have h2:=Ah (g:=w2.heap.size) (bj HB.out HX2.out) hge E (.slice Ed E.disk.length n1) (.slice Em E.mem.length n2) (.slice El E.log.length n3)
   have z0:=hy.c0
   have z1:=hy.c1
   have z2:=hy.c2
   have z3:=hy.c3
   have z4:=hy.c4
   exact bodyPost_ret (v:=.tuple #[E.ag (.slice Ed E.disk.length n1) (.slice Em E.mem.length n2) (.slice El E.log.length n3), .bool _]) (by simp [results,Tryz.results44,go_sem,z0,z1,z2,z3,z4];rfl) rfl ⟨_,_,_,by simp,h1.lower (by omega),h2⟩
  cases hdn : e.down
  all_goals rw [hdn] at x4
  ·skip
   refine AQ (fun lx a wx => Kept w5 wx (fun k => k = w2.heap.size) ∧ (Un 11 (fun wx => Below w5.heap.size w5 wx) lx a wx ∧ Ys 11 (fun wx => ∃ wy,Below w5.heap.size w5 wy ∧ wx = Go.Proofs.YtofgeajaajfiaaaGreat.Ao wy w2.heap.size E (.slice Ed E.disk.length n1) (.slice Em E.mem.length n2) (.slice El E.log.length n3)) lx a wx)) 13 rfl (by kernel_rfl) (⟨Kept.drew (Kept.refl _ _),fun _ => Af (Below.refl _ _),Hy⟩) (fun HT => ?_)
   refine AX [0,1,2,3,4,5] ?_
   iterate 6 (refine AR (v:=?_) HT rfl (by kernel_rfl) rfl (kA Ae (kA (AA rfl) (C9 rfl))) (by rfl) (fun _ _ _ h => h) (fun lx ax wx hS => ?_) ?_;rotate_left;(have hkx:=hS.1;clear hS;replace x4:=AY x4 hkx HNE3.out;replace v4:=AY v4 hkx HNE2.out;replace m0:=AY m0 hkx HNE1.out;replace m1:=AY m1 hkx HNE1.out;replace m2:=AY m2 hkx HNE1.out;replace m3:=AY m3 hkx HNE1.out;replace m4:=AY m4 hkx HNE1.out;go_simp;with_reducible rfl);rotate_left;simp only [sc0,sc1])
   refine AV ?_
   refine Fb (i:=6) HT rfl (by kernel_rfl) rfl (kA Ae (kA (AA rfl) (C9 rfl))) (by rfl) (fun _ _ _ h => h) ?_;simp only [sc0,sc1]
   refine Fb (i:=7) HT rfl (by kernel_rfl) rfl (kA Ae (kA (AA rfl) (C9 rfl))) (by rfl) (fun _ _ _ h => h) ?_;simp only [sc0,sc1]
   refine Fb (i:=8) HT rfl (by kernel_rfl) rfl (kA Ae (kA (AA rfl) (C9 rfl))) (by rfl) (fun _ _ _ h => h) ?_;simp only [sc0,sc1]
   refine AX [9,10] ?_
   iterate 2 (refine AR (v:=?_) HT rfl (by kernel_rfl) rfl (kA Ae (kA (AA rfl) (C9 rfl))) (by rfl) (fun _ _ _ h => h) (fun lx ax wx hS => ?_) ?_;rotate_left;(have hkx:=hS.1;clear hS;replace x4:=AY x4 hkx HNE3.out;replace v4:=AY v4 hkx HNE2.out;replace m0:=AY m0 hkx HNE1.out;replace m1:=AY m1 hkx HNE1.out;replace m2:=AY m2 hkx HNE1.out;replace m3:=AY m3 hkx HNE1.out;replace m4:=AY m4 hkx HNE1.out;go_simp;with_reducible rfl);rotate_left;simp only [sc0,sc1])
   refine AV ?_
   refine AJ [11] (by kernel_rfl) (fun i hi wx hS => ?_)
   obtain rfl:=List.mem_singleton.1 hi
   clear hi
   have hbx:=hS.2.1 (by kernel_rfl)
   have hp:=HP5.out.up hbx
   have y0:=hp.c0
   have y1:=hp.c1
   have y2:=hp.c2
   have y3:=hp.c3
   have y4:=hp.c4
   have f0:=hp.frz 0
   have f1:=hp.frz 1
   have f2:=hp.frz 2
   have f3:=hp.frz 3
   have f4:=hp.frz 4
   refine Bv (w1:=Go.Proofs.YtofgeajaajfiaaaGreat.Ao wx w2.heap.size E (.slice Ed E.disk.length n1) (.slice Em E.mem.length n2) (.slice El E.log.length n3)) rfl (by rfl) (by go_simp) ?_
   refine ⟨⟨((((hS.1.setCell (p:=⟨w2.heap.size,0,none⟩) (.inl rfl) _).setCell (p:=⟨w2.heap.size,1,none⟩) (.inl rfl) _).setCell (p:=⟨w2.heap.size,2,none⟩) (.inl rfl) _).setCell (p:=⟨w2.heap.size,3,none⟩) (.inl rfl) _).setCell (p:=⟨w2.heap.size,4,none⟩) (.inl rfl) _,fun h => (Ap (by kernel_rfl) h).elim,fun _ => ⟨wx,hbx,rfl⟩⟩,?_⟩
   clear hS hbx hp y0 y1 y2 y3 y4 f0 f1 f2 f3 f4
   refine CR (i:=12) (v:=?_) HT rfl (by kernel_rfl) rfl (kA Ae (kA (AA rfl) (C9 rfl))) (by rfl) (fun _ _ _ h => h) (fun lx ax wx hS => ?_) ?_;rotate_left;(go_simp;with_reducible rfl);rotate_left;simp only [sc0,sc1]
   refine Ej (by kernel_rfl) (fun w8 hS => ?_)
   obtain ⟨wy,hby,rfl⟩:=hS.2.2 (by kernel_rfl)
   clear hS
   have HP2:=As (HP5.out.up hby)
   have HO2:=As (HO5.out.below hby)
   have HX2:=As (bj HX5.out hby)
   clear hby x4 v4
   go_wp2
   have hy:=HP2.out.Ao E (.slice Ed E.disk.length n1) (.slice Em E.mem.length n2) (.slice El E.log.length n3)
   have h1:=HO2.out.Ao (f:=E) (xd:=.slice Ed E.disk.length n1) (xm:=.slice Em E.mem.length n2) (xl:=.slice El E.log.length n3) HP2.out
   have hge:=HBG.out
   have hzz:=HZ.out
   have h2:=Ah (g:=w2.heap.size) (bj HB.out HX2.out) hge E (.slice Ed E.disk.length n1) (.slice Em E.mem.length n2) (.slice El E.log.length n3)
   have z0:=hy.c0
   have z1:=hy.c1
   have z2:=hy.c2
   have z3:=hy.c3
   have z4:=hy.c4
   exact bodyPost_ret (v:=.tuple #[E.ag (.slice Ed E.disk.length n1) (.slice Em E.mem.length n2) (.slice El E.log.length n3), .bool _]) (by simp [results,Tryz.results44,go_sem,z0,z1,z2,z3,z4];rfl) rfl ⟨_,_,_,by simp [hdn],h1.lower (by omega),h2⟩
  ·skip
   refine AQ (fun lx a wx => Kept w5 wx (fun k => k = w2.heap.size) ∧ (Un 11 (fun wx => Below w5.heap.size w5 wx) lx a wx ∧ Ys 11 (fun wx => ∃ wy,Below w5.heap.size w5 wy ∧ wx = Go.Proofs.YtofgeajaajfiaaaGreat.Ao wy w2.heap.size E (.slice Ed E.disk.length n1) (.slice Em E.mem.length n2) (.slice El E.log.length n3)) lx a wx)) 13 rfl (by kernel_rfl) (⟨Kept.drew (Kept.refl _ _),fun _ => Af (Below.refl _ _),Hy⟩) (fun HT => ?_)
   refine AX [0,1,2,3,4,5,6,7,8,9,10] ?_
   iterate 11 (refine AR (v:=?_) HT rfl (by kernel_rfl) rfl (kA Ae (kA (AA rfl) (C9 rfl))) (by rfl) (fun _ _ _ h => h) (fun lx ax wx hS => ?_) ?_;rotate_left;(have hkx:=hS.1;clear hS;replace x4:=AY x4 hkx HNE3.out;replace v4:=AY v4 hkx HNE2.out;replace m0:=AY m0 hkx HNE1.out;replace m1:=AY m1 hkx HNE1.out;replace m2:=AY m2 hkx HNE1.out;replace m3:=AY m3 hkx HNE1.out;replace m4:=AY m4 hkx HNE1.out;go_simp;with_reducible rfl);rotate_left;simp only [sc0,sc1])
   refine AV ?_
   refine AJ [11] (by kernel_rfl) (fun i hi wx hS => ?_)
   obtain rfl:=List.mem_singleton.1 hi
   clear hi
   have hbx:=hS.2.1 (by kernel_rfl)
   have hp:=HP5.out.up hbx
   have y0:=hp.c0
   have y1:=hp.c1
   have y2:=hp.c2
   have y3:=hp.c3
   have y4:=hp.c4
   have f0:=hp.frz 0
   have f1:=hp.frz 1
   have f2:=hp.frz 2
   have f3:=hp.frz 3
   have f4:=hp.frz 4
   refine Bv (w1:=Go.Proofs.YtofgeajaajfiaaaGreat.Ao wx w2.heap.size E (.slice Ed E.disk.length n1) (.slice Em E.mem.length n2) (.slice El E.log.length n3)) rfl (by rfl) (by go_simp) ?_
   refine ⟨⟨((((hS.1.setCell (p:=⟨w2.heap.size,0,none⟩) (.inl rfl) _).setCell (p:=⟨w2.heap.size,1,none⟩) (.inl rfl) _).setCell (p:=⟨w2.heap.size,2,none⟩) (.inl rfl) _).setCell (p:=⟨w2.heap.size,3,none⟩) (.inl rfl) _).setCell (p:=⟨w2.heap.size,4,none⟩) (.inl rfl) _,fun h => (Ap (by kernel_rfl) h).elim,fun _ => ⟨wx,hbx,rfl⟩⟩,?_⟩
   clear hS hbx hp y0 y1 y2 y3 y4 f0 f1 f2 f3 f4
   refine CR (i:=12) (v:=?_) HT rfl (by kernel_rfl) rfl (kA Ae (kA (AA rfl) (C9 rfl))) (by rfl) (fun _ _ _ h => h) (fun lx ax wx hS => ?_) ?_;rotate_left;(go_simp;with_reducible rfl);rotate_left;simp only [sc0,sc1]
   refine Ej (by kernel_rfl) (fun w8 hS => ?_)
   obtain ⟨wy,hby,rfl⟩:=hS.2.2 (by kernel_rfl)
   clear hS
   have HP2:=As (HP5.out.up hby)
   have HO2:=As (HO5.out.below hby)
   have HX2:=As (bj HX5.out hby)
   clear hby x4 v4
   go_wp2
   have hy:=HP2.out.Ao E (.slice Ed E.disk.length n1) (.slice Em E.mem.length n2) (.slice El E.log.length n3)
   have h1:=HO2.out.Ao (f:=E) (xd:=.slice Ed E.disk.length n1) (xm:=.slice Em E.mem.length n2) (xl:=.slice El E.log.length n3) HP2.out
   have hge:=HBG.out
   have hzz:=HZ.out
   have h2:=Ah (g:=w2.heap.size) (bj HB.out HX2.out) hge E (.slice Ed E.disk.length n1) (.slice Em E.mem.length n2) (.slice El E.log.length n3)
   have z0:=hy.c0
   have z1:=hy.c1
   have z2:=hy.c2
   have z3:=hy.c3
   have z4:=hy.c4
   exact bodyPost_ret (v:=.tuple #[E.ag (.slice Ed E.disk.length n1) (.slice Em E.mem.length n2) (.slice El E.log.length n3), .bool _]) (by simp [results,Tryz.results44,go_sem,z0,z1,z2,z3,z4];rfl) rfl ⟨_,_,_,by simp [hdn],h1.lower (by omega),h2⟩
 ·rw [show Dk e v = (zE,false) by rw [Dk,if_neg e1.out,if_neg e2.out,if_neg e3.out,if_neg e4.out,if_neg e5.out,if_neg e6.out,if_neg e7.out,if_neg e8.out,if_neg e9.out]]
  clear hi hb hr hv hcl hB
  go_enter Tryz.func44,Tryz.ntmps44
  go_wp2_with (first
   | (with_reducible refine Ag (vd:=.slice Ad e.disk.length cd) (vm:=.slice Am e.mem.length cm) (vl:=.slice Al e.log.length cl) e ?_;intro w1 hb1 hz1 hq1;clear hz1;have HB:=As hb1;have HQ:=As hq1;clear hb1 hq1)
   | (with_reducible refine EJ (A:=A) (c:=c) v ?_;intro w2 hb1 hz1 hq1;clear hz1;have HN1:=As HB.out.size;replace HB:=As (bj HB.out hb1);replace HQ:=As (HQ.out.up hb1);have HV:=As hq1;have HL1:=As hq1.lt;clear hb1 hq1)
   | (refine Ag (vd:=.slice none 0 0) (vm:=.slice none 0 0) (vl:=.slice none 0 0) zE ?_;intro w3 hb1 hz1 hq1;have HBG:=As HB.out.size;replace HB:=As (bj HB.out hb1);replace HQ:=As (HQ.out.up hb1);replace HV:=As (HV.out.up hb1);have HP:=As hq1;have HZ:=As hz1;have x0:=HQ.out.c0;have x1:=HQ.out.c1;have x2:=HQ.out.c2;have x3:=HQ.out.c3;have x4:=HQ.out.c4;have v0:=HV.out.c0;have v1:=HV.out.c1;have v2:=HV.out.c2;have v3:=HV.out.c3;have v4:=HV.out.c4;have v5:=HV.out.c5;have y0:=HP.out.c0;have y1:=HP.out.c1;have y2:=HP.out.c2;have y3:=HP.out.c3;have y4:=HP.out.c4;have f0:=HP.out.frz 0;have f1:=HP.out.frz 1;have f2:=HP.out.frz 2;have f3:=HP.out.frz 3;have f4:=HP.out.frz 4;clear hb1 hz1 hq1))
  obtain ⟨z0,z1,z2,z3,z4⟩:=HP.out.empty
  have hge:=HBG.out
  exact bodyPost_ret (v:=.tuple #[zEv, .bool false]) (by simp [results,Tryz.results44,go_sem,z0,z1,z2,z3,z4]) rfl ⟨_,_,_,rfl,IW _ _,Ah (g:=w2.heap.size) HB.out hge zE _ _ _⟩
 all_goals
  go_enter Tryz.func44,Tryz.ntmps44
  go_wp2_with (first
   | (with_reducible refine Ag (vd:=.slice Ad e.disk.length cd) (vm:=.slice Am e.mem.length cm) (vl:=.slice Al e.log.length cl) e ?_;intro w1 hb1 hz1 hq1;clear hz1;have HB:=As hb1;have HQ:=As hq1;clear hb1 hq1)
   | (with_reducible refine EJ (A:=A) (c:=c) v ?_;intro w2 hb1 hz1 hq1;clear hz1;have HN1:=As HB.out.size;replace HB:=As (bj HB.out hb1);replace HQ:=As (HQ.out.up hb1);have HV:=As hq1;have HL1:=As hq1.lt;clear hb1 hq1)
   | (refine Ag (vd:=.slice none 0 0) (vm:=.slice none 0 0) (vl:=.slice none 0 0) zE ?_;intro w3 hb1 hz1 hq1;have HBG:=As HB.out.size;replace HB:=As (bj HB.out hb1);replace HQ:=As (HQ.out.up hb1);replace HV:=As (HV.out.up hb1);have HP:=As hq1;have HZ:=As hz1;have x0:=HQ.out.c0;have x1:=HQ.out.c1;have x2:=HQ.out.c2;have x3:=HQ.out.c3;have x4:=HQ.out.c4;have v0:=HV.out.c0;have v1:=HV.out.c1;have v2:=HV.out.c2;have v3:=HV.out.c3;have v4:=HV.out.c4;have v5:=HV.out.c5;have y0:=HP.out.c0;have y1:=HP.out.c1;have y2:=HP.out.c2;have y3:=HP.out.c3;have y4:=HP.out.c4;have f0:=HP.out.frz 0;have f1:=HP.out.frz 1;have f2:=HP.out.frz 2;have f3:=HP.out.frz 3;have f4:=HP.out.frz 4;clear hb1 hz1 hq1)
   | ((first | go_at_call 26 | go_at_call 25 | go_at_call 89 | go_at_call 27 | go_at_call 90 | go_at_call 91 | go_at_call 92 | go_at_call 93);refine (HIN.out w3 HB.out).mono ?_;rintro x w4 ⟨vd,vm,vl,rfl,ho,hb2⟩;obtain ⟨Ed,n1,Em,n2,El,n3,rfl,rfl,rfl, -, -⟩:=ho.reads;have HO:=As ho;have HX:=As hb2;clear x0 x1 x2 x3 x4 v0 v1 v2 v3 v4 v5 y0 y1 y2 y3 y4 f0 f1 f2 f3 f4;have hp:=HP.out.up hb2;have HP2:=As hp;have y0:=hp.c0;have y1:=hp.c1;have y2:=hp.c2;have y3:=hp.c3;have y4:=hp.c4;have f0:=hp.frz 0;have f1:=hp.frz 1;have f2:=hp.frz 2;have f3:=hp.frz 3;have f4:=hp.frz 4;clear hp hb2 ho))
  have hy:=HP2.out.Ao E (.slice Ed E.disk.length n1) (.slice Em E.mem.length n2) (.slice El E.log.length n3)
  have h1:=HO.out.Ao (f:=E) (xd:=.slice Ed E.disk.length n1) (xm:=.slice Em E.mem.length n2) (xl:=.slice El E.log.length n3) HP2.out
  have hge:=HBG.out
  have hzz:=HZ.out
  have h2:=Ah (g:=w2.heap.size) (bj HB.out HX.out) hge E (.slice Ed E.disk.length n1) (.slice Em E.mem.length n2) (.slice El E.log.length n3)
  have z0:=hy.c0
  have z1:=hy.c1
  have z2:=hy.c2
  have z3:=hy.c3
  have z4:=hy.c4
  exact bodyPost_ret (v:=.tuple #[E.ag (.slice Ed E.disk.length n1) (.slice Em E.mem.length n2) (.slice El E.log.length n3), .bool bb]) (by simp [results,Tryz.results44,go_sem,z0,z1,z2,z3,z4]) rfl ⟨_,_,_,rfl,h1.lower (by omega),h2⟩
end Go.Proofs.YtofgeajaajfiaaaGreat
