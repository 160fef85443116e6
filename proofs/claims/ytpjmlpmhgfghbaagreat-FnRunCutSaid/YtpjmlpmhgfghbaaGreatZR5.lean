/- A part of the proof: what the last text of the claim says leans on this one. -/
import Derived.Test.YtpjmlpmhgfghbaaGreatZR4
set_option linter.unusedVariables false
set_option linter.unusedSimpArgs false
namespace Go.Proofs.YtpjmlpmhgfghbaaGreat
open Go.RowKit Go.Proofs.YtpjmlpmhgfghbaaGreatW.PrintWords Go.Proofs.YtpjmlpmhgfghbaaGreatW.PrintLast Go.Proofs.YtpjmlpmhgfghbaaGreatW.PrintMore
theorem PO {w0 w : World} {e : Eng} {C : Nat → Page} {B : Nat} {Ad Am Al : Option Addr} {cd cm cl gx gp gt : Nat} (tx page table : Int) (hi : Inv e C B) (hB : B + 3 ≤ 150) (hcl : e.log.length ≤ cl) (hb : Below w0.heap.size w0 w) (hr : DF w0 e Ad Am Al) (bx : Ci w gx (.int .i64 tx) 3) (bp : Ci w gp (.int .i64 page) 3) (bt : Ci w gt (.int .i64 table) 3) : Calls Tryz.prog 140 #[e.val Ad Am Al cd cm cl, .int .i64 tx, .int .i64 page, .func (.func 142) #[] #[ptr gp,ptr gt], .func (.func 144) #[] #[ptr gx,ptr gp,ptr gt]] w (CQ w (Lb e tx page table).1 (Lb e tx page table).2):=by
  refine Jj (b:=inB table 0 3 && (((pg e.mem page.toNat).owner == 0) != (table == 0) && EK (pg e.mem page.toNat).vals)) (X:=e.app (MV e tx page table)) tx page hi.ok hcl hb hr (fun hm wb wx g hbw hg => ?_) (fun hm hbt wb wx g hbw hg => ?_) (fun hm hbt => ?_)
  · obtain ⟨-, -,h3, -⟩:=Dv.1 hm
    obtain ⟨p,rfl⟩ : ∃ p : Nat,page = (p : Int):=⟨page.toNat,by omega⟩
    have hx:=bj hbw hg.bel
    rw [Int.toNat_natCast]
    exact Rs (show p < 5 by omega) hi.Gb hg (bp.up hx) (bt.up hx)
  · have hp : ownB e tx page table = true:=by rw [ownB,hm,hbt];rfl
    have hI:=hi.Uw hB hp
    obtain ⟨hd, -,h3, -⟩:=Dv.1 hm
    obtain ⟨p,rfl⟩ : ∃ p : Nat,page = (p : Int):=⟨page.toNat,by omega⟩
    have hx:=bj hbw hg.bel
    have hdo:=hi.VO (r:=MV e tx (p : Int) table) hd hI rfl ⟨by show (0 : Int) ≤ (p : Int);omega,by show (p : Int) < 5;omega⟩
    rw [show (MV e tx (p : Int) table).page.toNat = p from Int.toNat_natCast p] at hdo
    exact Rq (by omega) (Ay hi.Gb) (hI.TU (J5 _ _)) hdo hg (bx.up hx) (bp.up hx) (bt.up hx)
  · exact (hi.Uw hB (by rw [ownB,hm,hbt];rfl)).core.log
set_option maxRecDepth 100000 in
set_option maxHeartbeats 16000000 in
theorem N8 {w0 w : World} {e : Eng} {C : Nat → Page} {B : Nat} {Ad Am Al : Option Addr} {cd cm cl : Nat} (tx page table : Int) (hi : Inv e C B) (hB : B + 3 ≤ 150) (hcl : e.log.length ≤ cl) (hb : Below w0.heap.size w0 w) (hr : DF w0 e Ad Am Al) : Calls Tryz.prog 83 #[e.val Ad Am Al cd cm cl, .int .i64 tx, .int .i64 page, .int .i64 table] w (CQ w (Lb e tx page table).1 (Lb e tx page table).2):=by
  obtain ⟨E,bb,hE⟩ : ∃ E bb,Lb e tx page table = (E,bb):=⟨_,_,rfl⟩
  have HIN : Ac (∀ wx g_tx g_page g_table,Below w.heap.size w wx → Ci wx g_tx (.int .i64 tx) 3 → Ci wx g_page (.int .i64 page) 3 → Ci wx g_table (.int .i64 table) 3 → Calls Tryz.prog 140 #[e.val Ad Am Al cd cm cl, .int .i64 tx, .int .i64 page, .func (.func 142) #[] #[ptr g_page,ptr g_table], .func (.func 144) #[] #[ptr g_tx,ptr g_page,ptr g_table]] wx (CQ wx E bb)):=⟨fun wx g_tx g_page g_table hbx b_tx b_page b_table => by
    have h:=PO (cd:=cd) (cm:=cm) tx page table hi hB hcl (bj hb hbx) hr b_tx b_page b_table
    rw [hE] at h
    exact h⟩
  rw [hE]
  clear hi hb hr hE hcl hB
  go_enter Tryz.func83,Tryz.ntmps83
  go_wp2_with (first
    | (with_reducible refine Aw (vd:=.slice Ad e.disk.length cd) (vm:=.slice Am e.mem.length cm) (vl:=.slice Al e.log.length cl) e ?_;intro w1 hb1 hz1 hq1;clear hz1;have HB:=As hb1;have HQ:=As hq1;clear hb1 hq1)
    | (with_reducible refine Dn (t:=3) (.int .i64 tx) ?_;intro w2 hb1 hz1 hq1;clear hz1;replace HB:=As (bj HB.out hb1);replace HQ:=As (HQ.out.up hb1);have HC_tx:=As hq1;clear hb1 hq1)
    | (with_reducible refine Dn (t:=3) (.int .i64 page) ?_;intro w3 hb1 hz1 hq1;clear hz1;replace HB:=As (bj HB.out hb1);replace HQ:=As (HQ.out.up hb1);replace HC_tx:=As (HC_tx.out.up hb1);have HC_page:=As hq1;clear hb1 hq1)
    | (with_reducible refine Dn (t:=3) (.int .i64 table) ?_;intro w4 hb1 hz1 hq1;clear hz1;replace HB:=As (bj HB.out hb1);replace HQ:=As (HQ.out.up hb1);replace HC_tx:=As (HC_tx.out.up hb1);replace HC_page:=As (HC_page.out.up hb1);have HC_table:=As hq1;clear hb1 hq1)
    | (refine Aw (vd:=.slice none 0 0) (vm:=.slice none 0 0) (vl:=.slice none 0 0) zE ?_;intro w5 hb1 hz1 hq1;have HBG:=As HB.out.size;replace HB:=As (bj HB.out hb1);replace HQ:=As (HQ.out.up hb1);replace HC_tx:=As (HC_tx.out.up hb1);replace HC_page:=As (HC_page.out.up hb1);replace HC_table:=As (HC_table.out.up hb1);have HP:=As hq1;have HZ:=As hz1;have x0:=HQ.out.c0;have x1:=HQ.out.c1;have x2:=HQ.out.c2;have x3:=HQ.out.c3;have x4:=HQ.out.c4;have c_tx:=HC_tx.out.c0;have c_page:=HC_page.out.c0;have c_table:=HC_table.out.c0;clear hb1 hz1 hq1)
    | (go_at_call 140;refine (HIN.out w5 _ _ _ HB.out HC_tx.out HC_page.out HC_table.out).mono ?_;rintro x w6 ⟨vd,vm,vl,rfl,ho,hb2⟩;obtain ⟨Ed,n1,Em,n2,El,n3,rfl,rfl,rfl, -, -⟩:=ho.reads;have HO:=As ho;have HX:=As hb2;have hp:=HP.out.up hb2;have HP2:=As hp;have y0:=hp.c0;have y1:=hp.c1;have y2:=hp.c2;have y3:=hp.c3;have y4:=hp.c4;have f0:=hp.frz 0;have f1:=hp.frz 1;have f2:=hp.frz 2;have f3:=hp.frz 3;have f4:=hp.frz 4;clear hp hb2 ho x0 x1 x2 x3 x4 c_tx c_page c_table))
  have hy:=HP2.out.Az E (.slice Ed E.disk.length n1) (.slice Em E.mem.length n2) (.slice El E.log.length n3)
  have h1:=HO.out.Az (f:=E) (xd:=.slice Ed E.disk.length n1) (xm:=.slice Em E.mem.length n2) (xl:=.slice El E.log.length n3) HP2.out
  have hge:=HBG.out
  have hzz:=HZ.out
  have h2:=Ak (g:=w4.heap.size) (bj HB.out HX.out) hge E (.slice Ed E.disk.length n1) (.slice Em E.mem.length n2) (.slice El E.log.length n3)
  have z0:=hy.c0
  have z1:=hy.c1
  have z2:=hy.c2
  have z3:=hy.c3
  have z4:=hy.c4
  exact bodyPost_ret (v:=.tuple #[E.ag (.slice Ed E.disk.length n1) (.slice Em E.mem.length n2) (.slice El E.log.length n3), .bool bb]) (by simp [results,Tryz.results83,go_sem,z0,z1,z2,z3,z4]) rfl ⟨_,_,_,rfl,h1.lower (by omega),h2⟩
set_option maxRecDepth 100000 in
set_option maxHeartbeats 16000000 in
theorem J3 {w0 w : World} {e : Eng} {Ad Am Al : Option Addr} {cd cm cl : Nat} (tx page : Int) {p5 p6 p7 : Value} {b : Bool} {X : Eng} (hok : eOk e = true) (hcl : e.log.length ≤ cl) (hb : Below w0.heap.size w0 w) (hr : DF w0 e Ad Am Al)
    (hh : DL e tx page = true → ∀ wb wx g,Below w.heap.size w wb → BO wb wx g e → Calls Tryz.prog 145 #[ptr g,p6,p7,p5] wx fun x w' => x = .returned (.bool b) ∧ Below wx.heap.size wx w')
    (hw : DL e tx page = true → b = true → ∀ wb wx g,Below w.heap.size w wb → BO wb wx g e → Calls Tryz.prog 150 #[ptr g,p5,p6,p7] wx (Hy wb g X))
    (hX : DL e tx page = true → b = true → AP X.log = true) : Calls Tryz.prog 140 #[e.val Ad Am Al cd cm cl, .int .i64 tx, .int .i64 page, .func (.func 145) #[] #[p6,p7,p5], .func (.func 150) #[] #[p5,p6,p7]] w (CQ w (Bp e (DL e tx page && b) X).1 (Bp e (DL e tx page && b) X).2):=by
  have HR:=As (hr.up hb)
  have HH:=As hh
  have HW:=As hw
  have HLX:=As hX
  have HV:=As hok
  have HF:=As (Fh.1 hok)
  have HLG:=As (Bg HF.out.log)
  clear hr hb hh hw hX hok
  obtain ⟨w1,hw1⟩ : ∃ w1,w.alloc (e.obox (.slice Ad e.disk.length cd) (.slice Am e.mem.length cm) (.slice Al e.log.length cl)) = w1:=⟨_,rfl⟩
  obtain ⟨w2,hw2⟩ : ∃ w2,w1.alloc (zE.obox (.slice none 0 0) (.slice none 0 0) (.slice none 0 0)) = w2:=⟨_,rfl⟩
  have hz1 : w1.heap.size = w.heap.size + 1:=by rw [← hw1];exact BA _ _
  have hz2 : w2.heap.size = w.heap.size + 2:=by rw [← hw2,BA,hz1]
  have hb12 : Below w1.heap.size w1 w2:=by rw [← hw2];exact Ah (Below.refl _ _) _
  have HB2 : Ac (Below w.heap.size w w2):=⟨by rw [← hw2, ← hw1];exact Ah (Ah (Below.refl _ _) _) _⟩
  have HQ2 : Ac (Ai w2 w.heap.size e (.slice Ad e.disk.length cd) (.slice Am e.mem.length cm) (.slice Al e.log.length cl)):=⟨Ai.up (by rw [← hw1];exact Ai.mk1 _ _ _ _ _) hb12⟩
  have HP2 : Ac (Ai w2 (w.heap.size + 1) zE (.slice none 0 0) (.slice none 0 0) (.slice none 0 0)):=⟨by rw [← hw2, ← hz1];exact Ai.mk1 _ _ _ _ _⟩
  have HW2 : Ac ((w.alloc (e.obox (.slice Ad e.disk.length cd) (.slice Am e.mem.length cm) (.slice Al e.log.length cl))).alloc (zE.obox (.slice none 0 0) (.slice none 0 0) (.slice none 0 0)) = w2):=⟨by rw [hw1,hw2]⟩
  have HZ2:=As hz2
  clear hw1 hw2 hz1 hz2 hb12
  have x0:=HQ2.out.c0
  have x1:=HQ2.out.c1
  have x2:=HQ2.out.c2
  have x3:=HQ2.out.c3
  have x4:=HQ2.out.c4
  cases hm : DL e tx page
  · have HM:=As hm
    rw [show Bp e (false && b) X = (e,false) by rw [Bp,if_neg (by simp)]]
    clear hm
    go_enter Tryz.func140,Tryz.ntmps140
    go_wp2_with (first
      | (go_at_call 36;rw [show (w.alloc (Obj.cells #[Value.slice Ad e.disk.length cd,Value.slice Am e.mem.length cm,Value.slice Al e.log.length cl,Value.int IntKind.i64 e.safe,Value.bool e.down] 28)).alloc (Obj.cells #[Value.slice none 0 0,Value.slice none 0 0,Value.slice none 0 0,Value.int IntKind.i64 0,Value.bool false] 28) = w2 from HW2.out];refine (AL (cd:=cd) (cm:=cm) HV.out hcl HB2.out HR.out).mono ?_;rintro x w3 ⟨rfl,hb3⟩;have HX3:=As hb3;replace x0:=bc hb3 x0;replace x1:=bc hb3 x1;replace x2:=bc hb3 x2;replace x3:=bc hb3 x3;replace x4:=bc hb3 x4;clear hb3)
      | (go_at_call 38;refine (AV (cd:=cd) (cm:=cm) (cl:=cl) (Ay HF.out.disk) (Ay HF.out.mem) HLG.out (bj HB2.out HX3.out) HR.out).mono ?_;rintro x w4 ⟨vd,vm,vl,rfl,ho,hb4⟩;obtain ⟨Bd,dd,Bm,dm,Bl,dl,rfl,rfl,rfl, -, -⟩:=ho.reads;have HO4:=As ho;have HX4:=As hb4;replace x0:=bc hb4 x0;replace x1:=bc hb4 x1;replace x2:=bc hb4 x2;replace x3:=bc hb4 x3;replace x4:=bc hb4 x4;clear ho hb4)
      | (refine Aw (vd:=.slice Bd e.disk.length dd) (vm:=.slice Bm e.mem.length dm) (vl:=.slice Bl e.log.length dl) e ?_;intro w5 hb5 _ hq5;have HG5 : Ac (BO w3 w5 w4.heap.size e):=⟨⟨⟨_,_,_,hq5,HO4.out.below hb5⟩,bj HX4.out hb5,HX4.out.size⟩⟩;replace x0:=bc hb5 x0;replace x1:=bc hb5 x1;replace x2:=bc hb5 x2;replace x3:=bc hb5 x3;replace x4:=bc hb5 x4;clear hb5 hq5)
      | (go_at_call 176;refine (Dq tx page HF.out.log HG5.out).mono ?_;rw [HM.out];rintro x w6 ⟨rfl,hb6⟩;have HG6:=As (HG5.out.up hb6);replace x0:=bc hb6 x0;replace x1:=bc hb6 x1;replace x2:=bc hb6 x2;replace x3:=bc hb6 x3;replace x4:=bc hb6 x4;clear hb6;clear x0 x1 x2 x3 x4;obtain ⟨ud,um,ul,hq,ho⟩:=HG6.out.ex;obtain ⟨Ed,n1,Em,n2,El,n3,rfl,rfl,rfl, -, -⟩:=ho.reads;have HO7:=As ho;have q0:=hq.c0;have q1:=hq.c1;have q2:=hq.c2;have q3:=hq.c3;have q4:=hq.c4;have hx2:=bj HX3.out HG6.out.bel;have HX7:=As HG6.out.bel;have hp:=HP2.out.up hx2;have HP7:=As hp;have y0:=hp.c0;have y1:=hp.c1;have y2:=hp.c2;have y3:=hp.c3;have y4:=hp.c4;have f0:=hp.frz 0;have f1:=hp.frz 1;have f2:=hp.frz 2;have f3:=hp.frz 3;have f4:=hp.frz 4;clear hp;clear hq ho hx2))
    have hz:=HZ2.out
    have hn3:=HX3.out.size
    have hy:=HP7.out.Az e (.slice Ed e.disk.length n1) (.slice Em e.mem.length n2) (.slice El e.log.length n3)
    have h1:=HO7.out.Az (f:=e) (xd:=.slice Ed e.disk.length n1) (xm:=.slice Em e.mem.length n2) (xl:=.slice El e.log.length n3) HP7.out
    have h2:=Ak (g:=w.heap.size + 1) (bj HB2.out (bj HX3.out HX7.out)) (by omega) e (.slice Ed e.disk.length n1) (.slice Em e.mem.length n2) (.slice El e.log.length n3)
    have z0:=hy.c0
    have z1:=hy.c1
    have z2:=hy.c2
    have z3:=hy.c3
    have z4:=hy.c4
    exact bodyPost_ret (v:=.tuple #[e.ag (.slice Ed e.disk.length n1) (.slice Em e.mem.length n2) (.slice El e.log.length n3), .bool false]) (by simp [results,Tryz.results140,go_sem,z0,z1,z2,z3,z4]) rfl ⟨_,_,_,rfl,h1.lower (by omega),h2⟩
  · have HM:=As hm
    clear hm
    cases b
    · rw [show Bp e (true && false) X = (e,false) by rw [Bp,if_neg (by simp)]]
      go_enter Tryz.func140,Tryz.ntmps140
      go_wp2_with (first
        | (go_at_call 36;rw [show (w.alloc (Obj.cells #[Value.slice Ad e.disk.length cd,Value.slice Am e.mem.length cm,Value.slice Al e.log.length cl,Value.int IntKind.i64 e.safe,Value.bool e.down] 28)).alloc (Obj.cells #[Value.slice none 0 0,Value.slice none 0 0,Value.slice none 0 0,Value.int IntKind.i64 0,Value.bool false] 28) = w2 from HW2.out];refine (AL (cd:=cd) (cm:=cm) HV.out hcl HB2.out HR.out).mono ?_;rintro x w3 ⟨rfl,hb3⟩;have HX3:=As hb3;replace x0:=bc hb3 x0;replace x1:=bc hb3 x1;replace x2:=bc hb3 x2;replace x3:=bc hb3 x3;replace x4:=bc hb3 x4;clear hb3)
        | (go_at_call 38;refine (AV (cd:=cd) (cm:=cm) (cl:=cl) (Ay HF.out.disk) (Ay HF.out.mem) HLG.out (bj HB2.out HX3.out) HR.out).mono ?_;rintro x w4 ⟨vd,vm,vl,rfl,ho,hb4⟩;obtain ⟨Bd,dd,Bm,dm,Bl,dl,rfl,rfl,rfl, -, -⟩:=ho.reads;have HO4:=As ho;have HX4:=As hb4;replace x0:=bc hb4 x0;replace x1:=bc hb4 x1;replace x2:=bc hb4 x2;replace x3:=bc hb4 x3;replace x4:=bc hb4 x4;clear ho hb4)
        | (refine Aw (vd:=.slice Bd e.disk.length dd) (vm:=.slice Bm e.mem.length dm) (vl:=.slice Bl e.log.length dl) e ?_;intro w5 hb5 _ hq5;have HG5 : Ac (BO w3 w5 w4.heap.size e):=⟨⟨⟨_,_,_,hq5,HO4.out.below hb5⟩,bj HX4.out hb5,HX4.out.size⟩⟩;replace x0:=bc hb5 x0;replace x1:=bc hb5 x1;replace x2:=bc hb5 x2;replace x3:=bc hb5 x3;replace x4:=bc hb5 x4;clear hb5 hq5)
        | (go_at_call 176;refine (Dq tx page HF.out.log HG5.out).mono ?_;rw [HM.out];rintro x w6 ⟨rfl,hb6⟩;have HG6:=As (HG5.out.up hb6);replace x0:=bc hb6 x0;replace x1:=bc hb6 x1;replace x2:=bc hb6 x2;replace x3:=bc hb6 x3;replace x4:=bc hb6 x4;clear hb6)
        | (go_at_call 145;refine (HH.out HM.out w3 w6 w4.heap.size (bj HB2.out HX3.out) HG6.out).mono ?_;rintro x w7 ⟨rfl,hb7⟩;have HG7:=As (HG6.out.up hb7);replace x0:=bc hb7 x0;replace x1:=bc hb7 x1;replace x2:=bc hb7 x2;replace x3:=bc hb7 x3;replace x4:=bc hb7 x4;clear hb7;clear x0 x1 x2 x3 x4;obtain ⟨ud,um,ul,hq,ho⟩:=HG7.out.ex;obtain ⟨Ed,n1,Em,n2,El,n3,rfl,rfl,rfl, -, -⟩:=ho.reads;have HO7:=As ho;have q0:=hq.c0;have q1:=hq.c1;have q2:=hq.c2;have q3:=hq.c3;have q4:=hq.c4;have hx2:=bj HX3.out HG7.out.bel;have HX7:=As HG7.out.bel;have hp:=HP2.out.up hx2;have HP7:=As hp;have y0:=hp.c0;have y1:=hp.c1;have y2:=hp.c2;have y3:=hp.c3;have y4:=hp.c4;have f0:=hp.frz 0;have f1:=hp.frz 1;have f2:=hp.frz 2;have f3:=hp.frz 3;have f4:=hp.frz 4;clear hp;clear hq ho hx2))
      have hz:=HZ2.out
      have hn3:=HX3.out.size
      have hy:=HP7.out.Az e (.slice Ed e.disk.length n1) (.slice Em e.mem.length n2) (.slice El e.log.length n3)
      have h1:=HO7.out.Az (f:=e) (xd:=.slice Ed e.disk.length n1) (xm:=.slice Em e.mem.length n2) (xl:=.slice El e.log.length n3) HP7.out
      have h2:=Ak (g:=w.heap.size + 1) (bj HB2.out (bj HX3.out HX7.out)) (by omega) e (.slice Ed e.disk.length n1) (.slice Em e.mem.length n2) (.slice El e.log.length n3)
      have z0:=hy.c0
      have z1:=hy.c1
      have z2:=hy.c2
      have z3:=hy.c3
      have z4:=hy.c4
      exact bodyPost_ret (v:=.tuple #[e.ag (.slice Ed e.disk.length n1) (.slice Em e.mem.length n2) (.slice El e.log.length n3), .bool false]) (by simp [results,Tryz.results140,go_sem,z0,z1,z2,z3,z4]) rfl ⟨_,_,_,rfl,h1.lower (by omega),h2⟩
    · cases hfx : Iw X.log
      all_goals have HFX:=As hfx;have HWW:=As (HW.out HM.out rfl);have HLL:=As (HLX.out HM.out rfl);clear HW HLX
      · rw [show Bp e (true && true) X = (e,false) by rw [Bp,if_neg (by rw [hfx];simp)]]
        clear hfx
        go_enter Tryz.func140,Tryz.ntmps140
        go_wp2_with (first
          | (go_at_call 36;rw [show (w.alloc (Obj.cells #[Value.slice Ad e.disk.length cd,Value.slice Am e.mem.length cm,Value.slice Al e.log.length cl,Value.int IntKind.i64 e.safe,Value.bool e.down] 28)).alloc (Obj.cells #[Value.slice none 0 0,Value.slice none 0 0,Value.slice none 0 0,Value.int IntKind.i64 0,Value.bool false] 28) = w2 from HW2.out];refine (AL (cd:=cd) (cm:=cm) HV.out hcl HB2.out HR.out).mono ?_;rintro x w3 ⟨rfl,hb3⟩;have HX3:=As hb3;replace x0:=bc hb3 x0;replace x1:=bc hb3 x1;replace x2:=bc hb3 x2;replace x3:=bc hb3 x3;replace x4:=bc hb3 x4;clear hb3)
          | (go_at_call 38;refine (AV (cd:=cd) (cm:=cm) (cl:=cl) (Ay HF.out.disk) (Ay HF.out.mem) HLG.out (bj HB2.out HX3.out) HR.out).mono ?_;rintro x w4 ⟨vd,vm,vl,rfl,ho,hb4⟩;obtain ⟨Bd,dd,Bm,dm,Bl,dl,rfl,rfl,rfl, -, -⟩:=ho.reads;have HO4:=As ho;have HX4:=As hb4;replace x0:=bc hb4 x0;replace x1:=bc hb4 x1;replace x2:=bc hb4 x2;replace x3:=bc hb4 x3;replace x4:=bc hb4 x4;clear ho hb4)
          | (refine Aw (vd:=.slice Bd e.disk.length dd) (vm:=.slice Bm e.mem.length dm) (vl:=.slice Bl e.log.length dl) e ?_;intro w5 hb5 _ hq5;have HG5 : Ac (BO w3 w5 w4.heap.size e):=⟨⟨⟨_,_,_,hq5,HO4.out.below hb5⟩,bj HX4.out hb5,HX4.out.size⟩⟩;replace x0:=bc hb5 x0;replace x1:=bc hb5 x1;replace x2:=bc hb5 x2;replace x3:=bc hb5 x3;replace x4:=bc hb5 x4;clear hb5 hq5)
          | (go_at_call 176;refine (Dq tx page HF.out.log HG5.out).mono ?_;rw [HM.out];rintro x w6 ⟨rfl,hb6⟩;have HG6:=As (HG5.out.up hb6);replace x0:=bc hb6 x0;replace x1:=bc hb6 x1;replace x2:=bc hb6 x2;replace x3:=bc hb6 x3;replace x4:=bc hb6 x4;clear hb6)
          | (go_at_call 145;refine (HH.out HM.out w3 w6 w4.heap.size (bj HB2.out HX3.out) HG6.out).mono ?_;rintro x w7 ⟨rfl,hb7⟩;have HG7:=As (HG6.out.up hb7);replace x0:=bc hb7 x0;replace x1:=bc hb7 x1;replace x2:=bc hb7 x2;replace x3:=bc hb7 x3;replace x4:=bc hb7 x4;clear hb7)
          | (go_at_call 150;refine (HWW.out w3 w7 w4.heap.size (bj HB2.out HX3.out) HG7.out).mono ?_;rintro x w8 ⟨⟨v,rfl⟩,hg8⟩;obtain ⟨ud,um,ul,hq,ho⟩:=hg8.ex;obtain ⟨Ed,n1,Em,n2,El,n3,rfl,rfl,rfl, -,hc⟩:=ho.reads;have HO8:=As ho;have HC8:=As hc;have HX8:=As hg8.bel;have q0:=hq.c0;have q1:=hq.c1;have q2:=hq.c2;have q3:=hq.c3;have q4:=hq.c4;clear x0 x1 x2 x3 x4;have hq2:=HQ2.out.up (bj HX3.out hg8.bel);have x0:=hq2.c0;have x1:=hq2.c1;have x2:=hq2.c2;have x3:=hq2.c3;have x4:=hq2.c4;clear hq ho hc hq2 hg8)
          | (go_at_call 78;refine (E5 (w0:=w8) (c:=n3) (Below.refl _ _) HC8.out.l HLL.out).mono ?_;rw [HFX.out];rintro x w9 ⟨rfl,hb9⟩;replace x0:=bc hb9 x0;replace x1:=bc hb9 x1;replace x2:=bc hb9 x2;replace x3:=bc hb9 x3;replace x4:=bc hb9 x4;have HX9:=As (bj HX8.out hb9);clear q0 q1 q2 q3 q4 hb9)
          | (go_at_call 38;refine (AV (cd:=cd) (cm:=cm) (cl:=cl) (Ay HF.out.disk) (Ay HF.out.mem) HLG.out (bj HB2.out (bj HX3.out HX9.out)) HR.out).mono ?_;rintro x w10 ⟨vd,vm,vl,rfl,ho,hb10⟩;obtain ⟨Ed,n1,Em,n2,El,n3,rfl,rfl,rfl, -, -⟩:=ho.reads;have HO7:=As (ho.lower (b':=w3.heap.size) HX9.out.size);have HX7:=As (bj HX9.out hb10);clear x0 x1 x2 x3 x4 ho hb10;have hp:=HP2.out.up (bj HX3.out HX7.out);have HP7:=As hp;have y0:=hp.c0;have y1:=hp.c1;have y2:=hp.c2;have y3:=hp.c3;have y4:=hp.c4;have f0:=hp.frz 0;have f1:=hp.frz 1;have f2:=hp.frz 2;have f3:=hp.frz 3;have f4:=hp.frz 4;clear hp))
        have hz:=HZ2.out
        have hn3:=HX3.out.size
        have hy:=HP7.out.Az e (.slice Ed e.disk.length n1) (.slice Em e.mem.length n2) (.slice El e.log.length n3)
        have h1:=HO7.out.Az (f:=e) (xd:=.slice Ed e.disk.length n1) (xm:=.slice Em e.mem.length n2) (xl:=.slice El e.log.length n3) HP7.out
        have h2:=Ak (g:=w.heap.size + 1) (bj HB2.out (bj HX3.out HX7.out)) (by omega) e (.slice Ed e.disk.length n1) (.slice Em e.mem.length n2) (.slice El e.log.length n3)
        have z0:=hy.c0
        have z1:=hy.c1
        have z2:=hy.c2
        have z3:=hy.c3
        have z4:=hy.c4
        exact bodyPost_ret (v:=.tuple #[e.ag (.slice Ed e.disk.length n1) (.slice Em e.mem.length n2) (.slice El e.log.length n3), .bool false]) (by simp [results,Tryz.results140,go_sem,z0,z1,z2,z3,z4]) rfl ⟨_,_,_,rfl,h1.lower (by omega),h2⟩
      · rw [show Bp e (true && true) X = (X,true) by rw [Bp,if_pos ⟨rfl,hfx⟩]]
        clear hfx
        go_enter Tryz.func140,Tryz.ntmps140
        go_wp2_with (first
          | (go_at_call 36;rw [show (w.alloc (Obj.cells #[Value.slice Ad e.disk.length cd,Value.slice Am e.mem.length cm,Value.slice Al e.log.length cl,Value.int IntKind.i64 e.safe,Value.bool e.down] 28)).alloc (Obj.cells #[Value.slice none 0 0,Value.slice none 0 0,Value.slice none 0 0,Value.int IntKind.i64 0,Value.bool false] 28) = w2 from HW2.out];refine (AL (cd:=cd) (cm:=cm) HV.out hcl HB2.out HR.out).mono ?_;rintro x w3 ⟨rfl,hb3⟩;have HX3:=As hb3;replace x0:=bc hb3 x0;replace x1:=bc hb3 x1;replace x2:=bc hb3 x2;replace x3:=bc hb3 x3;replace x4:=bc hb3 x4;clear hb3)
          | (go_at_call 38;refine (AV (cd:=cd) (cm:=cm) (cl:=cl) (Ay HF.out.disk) (Ay HF.out.mem) HLG.out (bj HB2.out HX3.out) HR.out).mono ?_;rintro x w4 ⟨vd,vm,vl,rfl,ho,hb4⟩;obtain ⟨Bd,dd,Bm,dm,Bl,dl,rfl,rfl,rfl, -, -⟩:=ho.reads;have HO4:=As ho;have HX4:=As hb4;replace x0:=bc hb4 x0;replace x1:=bc hb4 x1;replace x2:=bc hb4 x2;replace x3:=bc hb4 x3;replace x4:=bc hb4 x4;clear ho hb4)
          | (refine Aw (vd:=.slice Bd e.disk.length dd) (vm:=.slice Bm e.mem.length dm) (vl:=.slice Bl e.log.length dl) e ?_;intro w5 hb5 _ hq5;have HG5 : Ac (BO w3 w5 w4.heap.size e):=⟨⟨⟨_,_,_,hq5,HO4.out.below hb5⟩,bj HX4.out hb5,HX4.out.size⟩⟩;replace x0:=bc hb5 x0;replace x1:=bc hb5 x1;replace x2:=bc hb5 x2;replace x3:=bc hb5 x3;replace x4:=bc hb5 x4;clear hb5 hq5)
          | (go_at_call 176;refine (Dq tx page HF.out.log HG5.out).mono ?_;rw [HM.out];rintro x w6 ⟨rfl,hb6⟩;have HG6:=As (HG5.out.up hb6);replace x0:=bc hb6 x0;replace x1:=bc hb6 x1;replace x2:=bc hb6 x2;replace x3:=bc hb6 x3;replace x4:=bc hb6 x4;clear hb6)
          | (go_at_call 145;refine (HH.out HM.out w3 w6 w4.heap.size (bj HB2.out HX3.out) HG6.out).mono ?_;rintro x w7 ⟨rfl,hb7⟩;have HG7:=As (HG6.out.up hb7);replace x0:=bc hb7 x0;replace x1:=bc hb7 x1;replace x2:=bc hb7 x2;replace x3:=bc hb7 x3;replace x4:=bc hb7 x4;clear hb7)
          | (go_at_call 150;refine (HWW.out w3 w7 w4.heap.size (bj HB2.out HX3.out) HG7.out).mono ?_;rintro x w8 ⟨⟨v,rfl⟩,hg8⟩;obtain ⟨ud,um,ul,hq,ho⟩:=hg8.ex;obtain ⟨Ed,n1,Em,n2,El,n3,rfl,rfl,rfl, -,hc⟩:=ho.reads;have HO8:=As ho;have HC8:=As hc;have HX8:=As hg8.bel;have q0:=hq.c0;have q1:=hq.c1;have q2:=hq.c2;have q3:=hq.c3;have q4:=hq.c4;clear x0 x1 x2 x3 x4;have hq2:=HQ2.out.up (bj HX3.out hg8.bel);have x0:=hq2.c0;have x1:=hq2.c1;have x2:=hq2.c2;have x3:=hq2.c3;have x4:=hq2.c4;clear hq ho hc hq2 hg8)
          | (go_at_call 78;refine (E5 (w0:=w8) (c:=n3) (Below.refl _ _) HC8.out.l HLL.out).mono ?_;rw [HFX.out];rintro x w9 ⟨rfl,hb9⟩;replace q0:=bc hb9 q0;replace q1:=bc hb9 q1;replace q2:=bc hb9 q2;replace q3:=bc hb9 q3;replace q4:=bc hb9 q4;clear x0 x1 x2 x3 x4;have HX7:=As (bj HX8.out hb9);have HO7:=As (HO8.out.below hb9);have hp:=HP2.out.up (bj HX3.out HX7.out);have HP7:=As hp;have y0:=hp.c0;have y1:=hp.c1;have y2:=hp.c2;have y3:=hp.c3;have y4:=hp.c4;have f0:=hp.frz 0;have f1:=hp.frz 1;have f2:=hp.frz 2;have f3:=hp.frz 3;have f4:=hp.frz 4;clear hp;clear hb9))
        have hz:=HZ2.out
        have hn3:=HX3.out.size
        have hy:=HP7.out.Az X (.slice Ed X.disk.length n1) (.slice Em X.mem.length n2) (.slice El X.log.length n3)
        have h1:=HO7.out.Az (f:=X) (xd:=.slice Ed X.disk.length n1) (xm:=.slice Em X.mem.length n2) (xl:=.slice El X.log.length n3) HP7.out
        have h2:=Ak (g:=w.heap.size + 1) (bj HB2.out (bj HX3.out HX7.out)) (by omega) X (.slice Ed X.disk.length n1) (.slice Em X.mem.length n2) (.slice El X.log.length n3)
        have z0:=hy.c0
        have z1:=hy.c1
        have z2:=hy.c2
        have z3:=hy.c3
        have z4:=hy.c4
        exact bodyPost_ret (v:=.tuple #[X.ag (.slice Ed X.disk.length n1) (.slice Em X.mem.length n2) (.slice El X.log.length n3), .bool true]) (by simp [results,Tryz.results140,go_sem,z0,z1,z2,z3,z4]) rfl ⟨_,_,_,rfl,h1.lower (by omega),h2⟩
def Sm (r : Rec) (page : Int) : Bool:=r.kind == 2 && (r.page == page && r.new != 0)
def Mq (l : List Rec) (page : Int) (ks : List Nat) : Bool:=ks.any fun m => Sm (rc l (m - 1)) page
set_option maxRecDepth 100000 in
set_option maxHeartbeats 8000000 in
theorem Rb {w0 w : World} {g go gp : Nat} {e : Eng} {k : Nat} {page : Int} {b : Bool} (hv : Sm (rc e.log k) page = b) (hk : k < e.log.length) (hl : e.log.length ≤ 150) (h : BO w0 w g e) (bo : Ci w go (ptr g) 117) (bp : Ci w gp (.int .i64 page) 3) : Calls Tryz.prog 146 #[.int .i64 ((k : Int) + 1),ptr go,ptr gp] w fun x w' => x = .returned (.bool b) ∧ Below w.heap.size w w':=by
  obtain ⟨⟨vd,vm,vl,hq,ho⟩, -, -⟩:=h
  obtain ⟨Ad,cd,Am,cm,Al,cl,rfl,rfl,rfl, -,hrd⟩:=ho.reads
  obtain ⟨ad,rfl,QR⟩:=Cb hrd.l k hk
  obtain ⟨z0,z1,z2,z3,z4,z5,z6,z7⟩:=QR
  have x2:=hq.c2
  have y0:=bo.c0
  have y1:=bp.c0
  have HY1:=As y1
  have HV:=As hv
  have hwr0 : IntKind.i64.wrap (k : Int) = (k : Int):=by simp (disch:=omega) only [IntWalk.i64_in]
  have hwr1 : IntKind.i64.wrap ((k : Int) + 1 - 1) = (k : Int):=by rw [show ((k : Int) + 1 - 1) = (k : Int) by omega];exact hwr0
  obtain ⟨r,hr⟩ : ∃ r,rc e.log k = r:=⟨_,rfl⟩
  rw [hr] at z0 z1 z2 z3 z4 z5 z6 z7 HV
  clear ho hq hrd bo bp hv hr
  rcases BS r.kind 2 with ⟨e1,b1,c1⟩ | ⟨e1,b1,c1⟩
  all_goals rcases BS r.page page with ⟨e2,b2,c2⟩ | ⟨e2,b2,c2⟩
  all_goals rcases BS r.new 0 with ⟨e3,b3,c3⟩ | ⟨e3,b3,c3⟩
  all_goals
    go_enter Tryz.func146,Tryz.ntmps146
    go_wp2_with (with_reducible refine Ct r ?_;intro w2 hb2 hz2 hq2;have HW2:=As hb2;obtain ⟨q0,q1,q2,q3,q4,q5,q6,q7⟩:=hq2;simp only [Nat.zero_add] at q1 q2 q3 q4 q5 q6 q7;have y1:=bc hb2 HY1.out;clear hb2)
    go_ret
    exact ⟨AJ (by rw [← HV.out,Sm];simp [b1,b2,b3,c3]),HW2.out⟩
set_option maxRecDepth 100000 in
set_option maxHeartbeats 8000000 in
theorem RD {w0 w : World} {g go gp : Nat} {e : Eng} {page : Int} {ks : List Nat} {B : Option Addr} {d : Nat} (hm : ∀ m ∈ ks,0 < m ∧ m ≤ e.log.length) (hl : e.log.length ≤ 150) (h : BO w0 w g e) (bo : Ci w go (ptr g) 117) (bp : Ci w gp (.int .i64 page) 3) (hx : Kd.C (Kd.int .i64) w B (ints ks).length (ints ks)) : Calls Tryz.prog 178 #[.slice B (ints ks).length d, .func (.func 146) #[] #[ptr go,ptr gp]] w (V6 (Mq e.log page ks) w):=by
  have HG:=As h
  have HX:=As hx
  have HO:=As bo
  have HP:=As bp
  have HM:=As hm
  have HL:=As hl
  have hmx:=(D5 hx).2
  have hln : (ints ks).length = ks.length:=by simp [ints]
  rw [hln] at hmx ⊢
  clear h hx bo bp hm hl hln
  go_enter Tryz.func178,Tryz.ntmps178
  go_wp2
  go_loopw [8] (fun i wr => ∃ k : Nat,k ≤ ks.length ∧ i = .int .i64 (k : Int) ∧ Ac (Mq e.log page ks = Mq e.log page (ks.drop k)) ∧ Ac (Below w.heap.size w wr)) (fun i _ => (ks.length - intOf i).toNat)
  case atStart => exact ⟨0,Nat.zero_le _,rfl,⟨rfl⟩,⟨Below.refl _ _⟩⟩
  case round =>
    obtain ⟨k,hk,rfl,HK,HW⟩:=hrel
    by_cases hlt : k < ks.length
    · obtain ⟨ad,rfl,g0⟩:=Dk HX.out k (by simpa [ints] using hlt)
      replace g0:=bc HW.out g0
      rw [Lj hlt] at g0
      obtain ⟨n,hn⟩ : ∃ n,ks[k] = n:=⟨_,rfl⟩
      obtain ⟨hn0,hnl⟩:=HM.out n (hn ▸ List.getElem_mem hlt)
      have HD:=As (show ks.drop k = n :: ks.drop (k + 1) by rw [List.drop_eq_getElem_cons hlt,hn])
      rw [hn] at g0
      obtain ⟨m,rfl⟩ : ∃ m,n = m + 1:=⟨n - 1,by omega⟩
      rw [show ((m + 1 : Nat) : Int) = (m : Int) + 1 from rfl] at g0
      have hml : m < e.log.length:=by omega
      cases hp : Sm (rc e.log m) page
      all_goals
        have HPP:=As hp
        have HN:=As hml
        clear hp hn hn0 hnl hml
        go_wp2_with (go_at_call 146;refine (Rb HPP.out HN.out HL.out (HG.out.up HW.out) (HO.out.up HW.out) (HP.out.up HW.out)).mono ?_;rintro x w1 ⟨rfl,hb1⟩;have HW1:=As (bj HW.out hb1);clear hb1)
      · go_roundw
        case rel => exact ⟨k + 1,by omega,by go_num,⟨by rw [HK.out,HD.out,Mq,List.any_cons,Nat.add_sub_cancel,HPP.out];rfl⟩,HW1⟩
        case measure => simp [intOf];omega
      · go_ret
        exact ⟨k,rfl,by rw [HK.out,HD.out,Mq,List.any_cons,Nat.add_sub_cancel,HPP.out];simp,HW1.out⟩
    · have hke : k = ks.length:=by omega
      go_wp2
      go_ret
      exact ⟨-1,rfl,by rw [HK.out,hke,List.drop_length];rfl,HW.out⟩
theorem Oc {w0 w : World} {g go gp : Nat} {e : Eng} {page : Int} {ks : List Nat} {B : Option Addr} {d : Nat} (hm : ∀ m ∈ ks,0 < m ∧ m ≤ e.log.length) (hl : e.log.length ≤ 150) (h : BO w0 w g e) (bo : Ci w go (ptr g) 117) (bp : Ci w gp (.int .i64 page) 3) (hx : Kd.C (Kd.int .i64) w B (ints ks).length (ints ks)) : Calls Tryz.prog 148 #[.slice B (ints ks).length d, .func (.func 146) #[] #[ptr go,ptr gp]] w fun x w' => x = .returned (.bool (Mq e.log page ks)) ∧ Below w.heap.size w w':=by
  have HF:=As (RD (d:=d) hm hl h bo bp hx)
  clear hm hl h bo bp hx
  go_enter Tryz.func148,Tryz.ntmps148
  go_wp2_with (go_at_call 178;refine HF.out.mono ?_;rintro e w' ⟨i,rfl,hi,hb⟩)
  go_ret
  exact ⟨by first | exact AJ hi | rfl,hb⟩
theorem Vk (l : List Rec) (tx page : Int) : Mr l tx page = Mq l page (BD l (Ao l tx l.length)):=rfl
set_option maxRecDepth 100000 in
set_option maxHeartbeats 16000000 in
theorem Qu {w0 w : World} {g gp gv gx : Nat} {e : Eng} {p cv : Nat} {tx : Int} {vals : List Int} {Av : Option Addr} (hp : p < 5) (hps : H8 e.mem = true) (hlog : AP e.log = true) (h : BO w0 w g e) (bp : Ci w gp (.int .i64 (p : Int)) 3) (bv : Ci w gv (.slice Av vals.length cv) 33) (bx : Ci w gx (.int .i64 tx) 3) (hv : Kd.C (Kd.int .i64) w Av vals.length vals) : Calls Tryz.prog 145 #[ptr g,ptr gp,ptr gv,ptr gx] w fun x w' => x = .returned (.bool ((pg e.mem p).owner != 0 && (EK (pg e.mem p).vals && (FC vals && Mr e.log tx (p : Int))))) ∧ Below w.heap.size w w':=by
  obtain ⟨w1,hw1⟩ : ∃ w1,w.alloc (Obj.cells #[ptr g] 117) = w1:=⟨_,rfl⟩
  have hb1 : Below w.heap.size w w1:=by rw [← hw1];exact Ah (Below.refl _ _) _
  have HO1 : Ac (Ci w1 w.heap.size (ptr g) 117):=⟨by rw [← hw1];exact Ci.mk1 _ _ _⟩
  have HW1:=As hw1
  have HB1:=As hb1
  have HG1:=As (h.up hb1)
  have HP1:=As (bp.up hb1)
  obtain ⟨⟨vd,vm,vl,hq,ho⟩, -, -⟩:=HG1.out
  obtain ⟨okd,okm, -, -,hpm⟩:=ho.ex
  have hg5:=(Ay hps).1
  obtain ⟨gm,capm,rfl, -, -⟩:=Cq hpm (by omega)
  have hpl : p < e.mem.length:=by omega
  obtain ⟨A2,c2,p0,p1,p2,pC, -⟩:=DC hpm p hpl
  obtain ⟨Ad,cd,Am,cm,Al,cl,rfl, -,rfl, -,hrd⟩:=ho.reads
  have hp5i : (p : Int) < 5:=by omega
  have x1:=hq.c1
  have x2:=hq.c2
  have y0:=HO1.out.c0
  have y1:=HP1.out.c0
  have y2:=(bv.up hb1).c0
  have y3:=(bx.up hb1).c0
  obtain ⟨z,hz⟩ : ∃ z,EK (pg e.mem p).vals = z:=⟨_,rfl⟩
  obtain ⟨vo,hvo⟩ : ∃ vo,FC vals = vo:=⟨_,rfl⟩
  obtain ⟨ks,hks⟩ : ∃ ks,BD e.log (Ao e.log tx e.log.length) = ks:=⟨_,rfl⟩
  have HMK : Ac (∀ m ∈ ks,0 < m ∧ m ≤ e.log.length):=⟨by rw [← hks];exact JY hlog _ (Bb _ _ _)⟩
  have HKS:=As hks
  have HLL:=As (Bg hlog)
  have HLG:=As hlog
  have HV:=As (BM hv hb1)
  have HZ:=As hz
  have HVO:=As hvo
  have HOK:=As ((Cv.1 hps).2 p hp)
  have HC:=As pC
  have HRD:=As hrd.l
  rw [Vk,HKS.out,HVO.out]
  obtain ⟨P,hP⟩ : ∃ P,pg e.mem p = P:=⟨_,rfl⟩
  rw [hP] at HZ HOK HC p0 p1 p2 ⊢
  rw [HZ.out]
  clear ho hpm hq bp bv bx hv hps hlog hz hvo hks pC hP hrd hw1 hb1 h
  rcases BS P.owner 0 with ⟨e1,b1,c1⟩ | ⟨e1,b1,c1⟩
  all_goals cases z
  all_goals cases vo
  all_goals
    go_enter Tryz.func145,Tryz.ntmps145
    go_wp2
    rw [HW1.out]
    refine AX (fun lx a wx => Below w1.heap.size w1 wx ∧ Sl 7 6 (fun v wx => ∃ B,v = ptr B ∧ w1.heap.size ≤ B ∧ AY wx B zp (.slice none 0 0)) lx a wx) 8 rfl (by kernel_rfl) (⟨Aj (Below.refl _ _),AZ⟩) (fun HT => ?_)
    refine Ae (i:=0) (v:=?_) HT rfl (by kernel_rfl) rfl (kA Aa (Ab rfl rfl)) (by rfl) (fun _ _ _ h => h) (fun lx ax wx hS => ?_) ?_;rotate_left;(have hbx:=hS.1;clear hS;replace x1:=bc hbx x1;replace y0:=bc hbx y0;replace y1:=bc hbx y1;replace p0:=bc hbx p0;replace p1:=bc hbx p1;replace p2:=bc hbx p2;go_simp;with_reducible rfl);rotate_left;simp only [sc0,sc1]
    refine Ae (i:=1) (v:=?_) HT rfl (by kernel_rfl) rfl (kA Aa (Ab rfl rfl)) (by rfl) (fun _ _ _ h => h) (fun lx ax wx hS => ?_) ?_;rotate_left;(have hbx:=hS.1;clear hS;replace x1:=bc hbx x1;replace y0:=bc hbx y0;replace y1:=bc hbx y1;replace p0:=bc hbx p0;replace p1:=bc hbx p1;replace p2:=bc hbx p2;go_simp;with_reducible rfl);rotate_left;simp only [sc0,sc1]
    refine Ae (i:=2) (v:=?_) HT rfl (by kernel_rfl) rfl (kA Aa (Ab rfl rfl)) (by rfl) (fun _ _ _ h => h) (fun lx ax wx hS => ?_) ?_;rotate_left;(have hbx:=hS.1;clear hS;replace x1:=bc hbx x1;replace y0:=bc hbx y0;replace y1:=bc hbx y1;replace p0:=bc hbx p0;replace p1:=bc hbx p1;replace p2:=bc hbx p2;go_simp;with_reducible rfl);rotate_left;simp only [sc0,sc1]
    refine Ae (i:=3) (v:=?_) HT rfl (by kernel_rfl) rfl (kA Aa (Ab rfl rfl)) (by rfl) (fun _ _ _ h => h) (fun lx ax wx hS => ?_) ?_;rotate_left;(have hbx:=hS.1;clear hS;replace x1:=bc hbx x1;replace y0:=bc hbx y0;replace y1:=bc hbx y1;replace p0:=bc hbx p0;replace p1:=bc hbx p1;replace p2:=bc hbx p2;go_simp;with_reducible rfl);rotate_left;simp only [sc0,sc1]
    refine Ae (i:=4) (v:=?_) HT rfl (by kernel_rfl) rfl (kA Aa (Ab rfl rfl)) (by rfl) (fun _ _ _ h => h) (fun lx ax wx hS => ?_) ?_;rotate_left;(have hbx:=hS.1;clear hS;replace x1:=bc hbx x1;replace y0:=bc hbx y0;replace y1:=bc hbx y1;replace p0:=bc hbx p0;replace p1:=bc hbx p1;replace p2:=bc hbx p2;go_simp;with_reducible rfl);rotate_left;simp only [sc0,sc1]
    refine Ae (i:=5) (v:=?_) HT rfl (by kernel_rfl) rfl (kA Aa (Ab rfl rfl)) (by rfl) (fun _ _ _ h => h) (fun lx ax wx hS => ?_) ?_;rotate_left;(have hbx:=hS.1;clear hS;replace x1:=bc hbx x1;replace y0:=bc hbx y0;replace y1:=bc hbx y1;replace p0:=bc hbx p0;replace p1:=bc hbx p1;replace p2:=bc hbx p2;go_simp;with_reducible rfl);rotate_left;simp only [sc0,sc1]
    refine Ae (i:=6) (v:=?_) HT rfl (by kernel_rfl) rfl (kA Aa (Ab rfl rfl)) (by rfl) (fun _ _ _ h => h) (fun lx ax wx hS => ?_) ?_;rotate_left;(have hbx:=hS.1;clear hS;replace x1:=bc hbx x1;replace y0:=bc hbx y0;replace y1:=bc hbx y1;replace p0:=bc hbx p0;replace p1:=bc hbx p1;replace p2:=bc hbx p2;go_simp;with_reducible rfl);rotate_left;simp only [sc0,sc1]
    refine AQ [7] (by kernel_rfl) (fun i hi wx hS => ?_)
    obtain rfl:=List.mem_singleton.1 hi
    clear hi
    refine Bw (w1:=wx.alloc Cw) (ptr wx.heap.size) rfl rfl (by rfl) (by go_simp) ?_
    refine ⟨⟨bj hS.1 (Ah (Below.refl _ _) _),fun _ => ⟨wx.heap.size,rfl,hS.1.size,AY.mk1 wx zp _⟩⟩,?_⟩
    obtain ⟨B,hB⟩ : ∃ B,wx.heap.size = B:=⟨_,rfl⟩
    rw [hB]
    clear hB hS
    simp only [sc0,sc1]
    refine BQ (i:=8) (by kernel_rfl) rfl (fun wx hS => ?_)
    obtain ⟨h1,h2⟩:=hS
    obtain ⟨B',hB',hN,hQ⟩:=h2 (by kernel_rfl)
    have hB' : ptr B = ptr B':=hB'
    obtain rfl : B = B':=by simpa using hB'
    have z0:=hQ.c0
    have z1:=hQ.c1
    have z2:=hQ.c2
    have f0:=hQ.frz 0
    have f1:=hQ.frz 1
    have f2:=hQ.frz 2
    refine Bh (w1:=Go.Proofs.YtpjmlpmhgfghbaaGreat.Cu wx B P (.slice A2 P.vals.length c2)) rfl (by rfl) (by go_simp) ?_
    refine BB (by kernel_rfl) ?_
    obtain ⟨w5,hw5⟩ : ∃ w5,Go.Proofs.YtpjmlpmhgfghbaaGreat.Cu wx B P (.slice A2 P.vals.length c2) = w5:=⟨_,rfl⟩
    have hb5 : Below w1.heap.size w1 w5:=by rw [← hw5];exact Cr h1 hN P (.slice A2 P.vals.length c2)
    have hq5 : AY w5 B P (.slice A2 P.vals.length c2):=by rw [← hw5];exact hQ.Cu P (.slice A2 P.vals.length c2)
    rw [hw5]
    have HB5:=As hb5
    have q0:=hq5.c0
    have q1:=hq5.c1
    have q2:=hq5.c2
    replace x2:=bc hb5 x2
    replace y0:=bc hb5 y0
    replace y2:=bc hb5 y2
    replace y3:=bc hb5 y3
    clear h1 h2 hB' hN hQ f0 f1 f2 z0 z1 z2 hw5 hq5 x1 y1 p0 p1 p2 hb5
    go_wp2
  rotate_right 1
  · have HX1:=As (bj HB1.out HB5.out)
    have HCALL : Ac (∀ wx,Below w5.heap.size w5 wx → Calls Tryz.prog 149 #[.slice Al e.log.length cl, .int .i64 tx] wx (V8 wx (ints ks))):=⟨fun wx hb => by
      have h:=Hu (c:=cl) tx (bj HB5.out hb) HRD.out HLG.out
      rw [HKS.out] at h
      exact h⟩
    refine AX (fun lx a wx => Below w5.heap.size w5 wx ∧ Sl 17 33 (fun v wx => ∃ D d,v = .slice D (ints ks).length d ∧ Kd.C (Kd.int .i64) wx D (ints ks).length (ints ks)) lx a wx) 22 rfl (by kernel_rfl) (⟨Aj (Below.refl _ _),AZ⟩) (fun HT => ?_)
    refine Ae (i:=0) (v:=?_) HT rfl (by kernel_rfl) rfl (kA Aa (Ab rfl rfl)) (by rfl) (fun _ _ _ h => h) (fun lx ax wx hS => ?_) ?_;rotate_left;(have hbx:=hS.1;clear hS;replace q0:=bc hbx q0;replace q1:=bc hbx q1;replace q2:=bc hbx q2;go_simp;with_reducible rfl);rotate_left;simp only [sc0,sc1]
    refine Ae (i:=1) (v:=?_) HT rfl (by kernel_rfl) rfl (kA Aa (Ab rfl rfl)) (by rfl) (fun _ _ _ h => h) (fun lx ax wx hS => ?_) ?_;rotate_left;(have hbx:=hS.1;clear hS;replace q0:=bc hbx q0;replace q1:=bc hbx q1;replace q2:=bc hbx q2;go_simp;with_reducible rfl);rotate_left;simp only [sc0,sc1]
    refine Ae (i:=2) (v:=?_) HT rfl (by kernel_rfl) rfl (kA Aa (Ab rfl rfl)) (by rfl) (fun _ _ _ h => h) (fun lx ax wx hS => ?_) ?_;rotate_left;(have hbx:=hS.1;clear hS;replace q0:=bc hbx q0;replace q1:=bc hbx q1;replace q2:=bc hbx q2;go_simp;with_reducible rfl);rotate_left;simp only [sc0,sc1]
    refine Ae (i:=3) (v:=?_) HT rfl (by kernel_rfl) rfl (kA Aa (Ab rfl rfl)) (by rfl) (fun _ _ _ h => h) (fun lx ax wx hS => ?_) ?_;rotate_left;(have hbx:=hS.1;clear hS;replace q0:=bc hbx q0;replace q1:=bc hbx q1;replace q2:=bc hbx q2;go_simp;with_reducible rfl);rotate_left;simp only [sc0,sc1]
    refine Ae (i:=4) (v:=?_) HT rfl (by kernel_rfl) rfl (kA Aa (Ab rfl rfl)) (by rfl) (fun _ _ _ h => h) (fun lx ax wx hS => ?_) ?_;rotate_left;(have hbx:=hS.1;clear hS;replace q0:=bc hbx q0;replace q1:=bc hbx q1;replace q2:=bc hbx q2;go_simp;with_reducible rfl);rotate_left;simp only [sc0,sc1]
    refine Jw (i:=5) (f:=143) (v:=.bool true) (args:=#[P.val A2 c2]) HT rfl (by kernel_rfl) rfl Tryz.func143 (by kernel_rfl) rfl rfl (kA Aa (Ab rfl rfl)) (by rfl) (fun _ _ _ h => h) (by simp only [List.map_toArray,List.map_cons,List.map_nil];rfl) (fun lx ax wx hS => (G9 HOK.out HZ.out (bj HB5.out hS.1) HC.out).mono fun x w' h => ⟨h.1,bj hS.1 h.2,fun hl => (hS.2 hl).elim fun D hD => hD.elim fun d hd => ⟨D,d,hd.1,BM hd.2 h.2⟩⟩) ?_;simp only [sc0,sc1]
    refine Ae (i:=6) (v:=?_) HT rfl (by kernel_rfl) rfl (kA Aa (Ab rfl rfl)) (by rfl) (fun _ _ _ h => h) (fun lx ax wx hS => ?_) ?_;rotate_left;(have hbx:=hS.1;clear hS;replace y2:=bc hbx y2;go_simp;with_reducible rfl);rotate_left;simp only [sc0,sc1]
    refine Ae (i:=7) (v:=?_) HT rfl (by kernel_rfl) rfl (kA Aa (Ab rfl rfl)) (by rfl) (fun _ _ _ h => h) (fun lx ax wx hS => ?_) ?_;rotate_left;(have hbx:=hS.1;clear hS;replace y2:=bc hbx y2;go_simp;with_reducible rfl);rotate_left;simp only [sc0,sc1]
    refine Ae (i:=8) (v:=?_) HT rfl (by kernel_rfl) rfl (kA Aa (Ab rfl rfl)) (by rfl) (fun _ _ _ h => h) (fun lx ax wx hS => ?_) ?_;rotate_left;(have hbx:=hS.1;clear hS;replace y2:=bc hbx y2;go_simp;with_reducible rfl);rotate_left;simp only [sc0,sc1]
    refine Jw (i:=9) (f:=147) (v:=.bool true) (args:=#[.slice Av vals.length cv]) HT rfl (by kernel_rfl) rfl Tryz.func147 (by kernel_rfl) rfl rfl (kA Aa (Ab rfl rfl)) (by rfl) (fun _ _ _ h => h) (by simp only [List.map_toArray,List.map_cons,List.map_nil];rfl) (fun lx ax wx hS => (IB HVO.out (bj HB5.out hS.1) HV.out).mono fun x w' h => ⟨h.1,h.2 ▸ hS⟩) ?_;simp only [sc0,sc1]
    refine Ae (i:=10) (v:=?_) HT rfl (by kernel_rfl) rfl (kA Aa (Ab rfl rfl)) (by rfl) (fun _ _ _ h => h) (fun lx ax wx hS => ?_) ?_;rotate_left;(have hbx:=hS.1;clear hS;replace x2:=bc hbx x2;replace y0:=bc hbx y0;replace y3:=bc hbx y3;go_simp;with_reducible rfl);rotate_left;simp only [sc0,sc1]
    refine Ae (i:=11) (v:=?_) HT rfl (by kernel_rfl) rfl (kA Aa (Ab rfl rfl)) (by rfl) (fun _ _ _ h => h) (fun lx ax wx hS => ?_) ?_;rotate_left;(have hbx:=hS.1;clear hS;replace x2:=bc hbx x2;replace y0:=bc hbx y0;replace y3:=bc hbx y3;go_simp;with_reducible rfl);rotate_left;simp only [sc0,sc1]
    refine Ae (i:=12) (v:=?_) HT rfl (by kernel_rfl) rfl (kA Aa (Ab rfl rfl)) (by rfl) (fun _ _ _ h => h) (fun lx ax wx hS => ?_) ?_;rotate_left;(have hbx:=hS.1;clear hS;replace x2:=bc hbx x2;replace y0:=bc hbx y0;replace y3:=bc hbx y3;go_simp;with_reducible rfl);rotate_left;simp only [sc0,sc1]
    refine Ae (i:=13) (v:=?_) HT rfl (by kernel_rfl) rfl (kA Aa (Ab rfl rfl)) (by rfl) (fun _ _ _ h => h) (fun lx ax wx hS => ?_) ?_;rotate_left;(have hbx:=hS.1;clear hS;replace x2:=bc hbx x2;replace y0:=bc hbx y0;replace y3:=bc hbx y3;go_simp;with_reducible rfl);rotate_left;simp only [sc0,sc1]
    refine Ae (i:=14) (v:=?_) HT rfl (by kernel_rfl) rfl (kA Aa (Ab rfl rfl)) (by rfl) (fun _ _ _ h => h) (fun lx ax wx hS => ?_) ?_;rotate_left;(have hbx:=hS.1;clear hS;replace x2:=bc hbx x2;replace y0:=bc hbx y0;replace y3:=bc hbx y3;go_simp;with_reducible rfl);rotate_left;simp only [sc0,sc1]
    refine Ae (i:=15) (v:=?_) HT rfl (by kernel_rfl) rfl (kA Aa (Ab rfl rfl)) (by rfl) (fun _ _ _ h => h) (fun lx ax wx hS => ?_) ?_;rotate_left;(have hbx:=hS.1;clear hS;replace x2:=bc hbx x2;replace y0:=bc hbx y0;replace y3:=bc hbx y3;go_simp;with_reducible rfl);rotate_left;simp only [sc0,sc1]
    refine Ae (i:=16) (v:=?_) HT rfl (by kernel_rfl) rfl (kA Aa (Ab rfl rfl)) (by rfl) (fun _ _ _ h => h) (fun lx ax wx hS => ?_) ?_;rotate_left;(have hbx:=hS.1;clear hS;replace x2:=bc hbx x2;replace y0:=bc hbx y0;replace y3:=bc hbx y3;go_simp;with_reducible rfl);rotate_left;simp only [sc0,sc1]
    refine Ae (i:=18) (v:=?_) HT rfl (by kernel_rfl) rfl (kA Aa (Ab rfl rfl)) (by rfl) (fun _ _ _ h => h) (fun lx ax wx hS => ?_) ?_;rotate_left;(have hbx:=hS.1;clear hS;replace x2:=bc hbx x2;replace y0:=bc hbx y0;replace y3:=bc hbx y3;go_simp;with_reducible rfl);rotate_left;simp only [sc0,sc1]
    refine BR (i:=17) (f:=149) (args:=#[.slice Al e.log.length cl, .int .i64 tx]) (fun v => ∃ D d,v = .slice D (ints ks).length d) rfl (by kernel_rfl) rfl Tryz.func149 (by kernel_rfl) rfl rfl (by rfl) (by simp only [List.map_toArray,List.map_cons,List.map_nil];rfl) (fun wx hS => (HCALL.out wx hS.1).mono (by rintro x w6 ⟨v,rfl,ho,hb⟩;obtain ⟨D,d,rfl, -,hC⟩:=ho.reads;exact ⟨_,rfl,⟨D,d,rfl⟩,bj hS.1 hb,fun _ => ⟨D,d,rfl,hC⟩⟩)) (fun vx hg => ?_);simp only [sc0,sc1]
    obtain ⟨D,d,rfl⟩:=hg
    refine BR (i:=19) (f:=148) (args:=#[.slice D (ints ks).length d, .func (.func 146) #[] #[ptr w.heap.size,ptr gp]]) (fun v => v = .bool (Mq e.log (p : Int) ks)) rfl (by kernel_rfl) rfl Tryz.func148 (by kernel_rfl) rfl rfl (by rfl) (by simp only [List.map_toArray,List.map_cons,List.map_nil];rfl) (fun wx hS => (by obtain ⟨D',d',e3,hC⟩:=hS.2 (by kernel_rfl);have e3 : Value.slice D (ints ks).length d = .slice D' (ints ks).length d':=e3;injection e3 with e4;subst e4;have hx:=bj HB5.out hS.1;exact (Oc (d:=d) HMK.out HLL.out (HG1.out.up hx) (HO1.out.up hx) (HP1.out.up hx) hC).mono (by rintro x w6 ⟨rfl,hb⟩;exact ⟨_,rfl,rfl,bj hS.1 hb,fun _ => ⟨D,d,rfl,BM hC hb⟩⟩))) (fun vx hg => ?_);simp only [sc0,sc1]
    subst hg
    refine Ae (i:=20) (v:=?_) HT rfl (by kernel_rfl) rfl (kA Aa (Ab rfl rfl)) (by rfl) (fun _ _ _ h => h) (fun lx ax wx hS => ?_) ?_;rotate_left;(go_simp;with_reducible rfl);rotate_left;simp only [sc0,sc1]
    refine Ae (i:=21) (v:=?_) HT rfl (by kernel_rfl) rfl (kA Aa (Ab rfl rfl)) (by rfl) (fun _ _ _ h => h) (fun lx ax wx hS => ?_) ?_;rotate_left;(go_simp;with_reducible rfl);rotate_left;simp only [sc0,sc1]
    refine DX (by kernel_rfl) (fun w6 hS => ?_)
    have HX6:=As (bj HX1.out hS.1)
    clear hS x2 y0 y2 y3 q0 q1 q2
    go_wp2
    go_ret
    exact ⟨AJ (by simp [b1,c1]),HX6.out⟩
  all_goals
    have HX1:=As (bj HB1.out HB5.out)
    refine Bj (fun w' => Below w5.heap.size w5 w') rfl rfl (by kernel_rfl) (Aj (Below.refl _ _)) (fun HT => ?_)
    repeat (first
      | (refine BX (fun wx hS => ?_))
      | ((with_reducible refine BI (f:=143) rfl ?_);refine BJ (v:=.bool _) (args:=#[P.val A2 c2]) HT rfl Tryz.func143 (by kernel_rfl) rfl rfl (by rfl) (fun _ _ _ h => h) (by simp only [List.map_toArray,List.map_cons,List.map_nil];rfl) (fun wx hS => (G9 HOK.out HZ.out (bj HB5.out hS) HC.out).mono fun x w' h => ⟨h.1,bj hS h.2⟩) ?_;simp only [sc0,sc1])
      | ((with_reducible refine BI (f:=147) rfl ?_);refine BJ (v:=.bool _) (args:=#[.slice Av vals.length cv]) HT rfl Tryz.func147 (by kernel_rfl) rfl rfl (by rfl) (fun _ _ _ h => h) (by simp only [List.map_toArray,List.map_cons,List.map_nil];rfl) (fun wx hS => (IB HVO.out (bj HB5.out hS) HV.out).mono fun x w' h => ⟨h.1,h.2 ▸ hS⟩) ?_;simp only [sc0,sc1])
      | (refine BH HT rfl (by rfl) (fun _ _ _ h => h) ?_;simp only [sc0,sc1])
      | (refine BV (v:=?_) HT rfl (by rfl) (fun _ _ _ h => h) (fun wx hS => ?_) ?_;rotate_left;(have q0:=bc hS q0;have q1:=bc hS q1;have q2:=bc hS q2;have y2:=bc hS y2;go_simp;with_reducible rfl);rotate_left;simp only [sc0,sc1]))
    have HX6:=As (bj HX1.out hS)
    clear hS x2 y0 y2 y3 q0 q1 q2
    go_wp2
    go_ret
    exact ⟨AJ (by simp [b1,c1]),HX6.out⟩
set_option maxRecDepth 100000 in
set_option maxHeartbeats 16000000 in
theorem Qt {w0 w : World} {g gx gp gv : Nat} {e : Eng} {p cv : Nat} {tx : Int} {vals : List Int} {Av : Option Addr} (hp : p < 5) (hgm : geo e.mem) (hl : e.log.length + 1 ≤ 150) (hv3 : vals.length = 3) (h : BO w0 w g e) (bx : Ci w0 gx (.int .i64 tx) 3) (bp : Ci w0 gp (.int .i64 (p : Int)) 3) (bv : Ci w0 gv (.slice Av vals.length cv) 33) (hv : Kd.C (Kd.int .i64) w0 Av vals.length vals) : Calls Tryz.prog 150 #[ptr g,ptr gx,ptr gp,ptr gv] w (Hy w0 g (JD e tx (p : Int) vals)):=by
  obtain ⟨⟨vd,vm,vl,hq,ho⟩,hb,hg⟩:=h
  obtain ⟨q,hqq⟩ : ∃ q : Page,(⟨(e.log.length : Int) + 1,(pg e.mem p).owner,vals⟩ : Page) = q:=⟨_,rfl⟩
  obtain ⟨l1,hl1⟩ : ∃ l1,e.log ++ [Dj ⟨3,tx,(p : Int),0,0,0,0,0⟩ (Ao e.log tx e.log.length)] = l1:=⟨_,rfl⟩
  have HE : Ac (JD e tx (p : Int) vals = { e with mem:=e.mem.set p q,log:=l1 }):=⟨by
    unfold JD
    rw [← hqq, ← hl1,Int.toNat_natCast]
    rfl⟩
  have HQV : Ac (q.lsn = (e.log.length : Int) + 1 ∧ q.owner = (pg e.mem p).owner ∧ q.vals = vals):=⟨by rw [← hqq];exact ⟨rfl,rfl,rfl⟩⟩
  have HL1:=As hl1
  have HB:=As hb
  have HG:=As hg
  have HQ:=As hq
  have HO:=As ho
  have HGM:=As hgm
  have HV3:=As hv3
  have HV:=As hv
  have HP:=As bp
  have HVB:=As bv
  have HL:=As hl
  have y0:=bc hb bx.c0
  have y1:=bc hb bp.c0
  clear hq ho hb hg hgm hv3 hv hqq hl1 bx bp bv
  go_enter Tryz.func150,Tryz.ntmps150
  go_wp2_with (go_at_call 111;go_loud (refine (K3 ⟨3,tx,(p : Int),0,0,0,0,0⟩ (by have:=HL.out;omega) HB.out HG.out HQ.out HO.out).mono ?_);go_loud (rw [show e.log ++ [Dj ⟨3,tx,(p : Int),0,0,0,0,0⟩ (Ao e.log (Rec.tx ⟨3,tx,(p : Int),0,0,0,0,0⟩) e.log.length)] = l1 from HL1.out]);rintro x w2 ⟨vl2,rfl,hq2,ho2,hb2, -⟩;have HQ2:=As hq2;have HO2:=As ho2;have HB2:=As hb2;clear hq2 ho2 hb2 y0 y1)
  have hgm5:=HGM.out.1
  obtain ⟨okd,okm,hap,hpd,hpm⟩:=HO2.out.ex
  obtain ⟨gm,capm,hfm, -,hgml⟩:=Cq hpm (by show 0 < e.mem.length;omega)
  subst hfm
  have hpl : p < e.mem.length:=by omega
  have hp5i : (p : Int) < 5:=by omega
  obtain ⟨A2,c2,p0,p1,p2,pC, -⟩:=DC hpm p hpl
  have x1:=HQ2.out.c1
  have y1:=bc HB2.out HP.out.c0
  have y2:=bc HB2.out HVB.out.c0
  have HPD:=As hpd
  have HPM:=As hpm
  have HAP:=As hap
  have HVL : Ac (vals.length ≤ 17592186044416):=⟨by rw [HV3.out];omega⟩
  have hp1 : w2.cell? ⟨gm,p * 3 + 1,none⟩ = some (.int .i64 q.owner):=by rw [HQV.out.2.1];exact p1
  clear hap hpd hpm pC p0 p1 p2
  refine AX (fun lx a wx => Below w2.heap.size w2 wx ∧ Sl 15 26 (fun v wx => AR wx w2.heap.size v vals) lx a wx) 18 rfl (by kernel_rfl) (⟨Aj (Below.refl _ _),AZ⟩) (fun HT => ?_)
  refine Ae (i:=0) (v:=?_) HT rfl (by kernel_rfl) rfl (kA Aa (Ab rfl rfl)) (by rfl) (fun _ _ _ h => h) (fun lx ax wx hS => ?_) ?_;rotate_left;(have hbx:=hS.1;clear hS;replace x1:=bc hbx x1;replace y1:=bc hbx y1;replace y2:=bc hbx y2;replace hp1:=bc hbx hp1;go_simp;with_reducible rfl);rotate_left;simp only [sc0,sc1]
  refine Ae (i:=1) (v:=?_) HT rfl (by kernel_rfl) rfl (kA Aa (Ab rfl rfl)) (by rfl) (fun _ _ _ h => h) (fun lx ax wx hS => ?_) ?_;rotate_left;(have hbx:=hS.1;clear hS;replace x1:=bc hbx x1;replace y1:=bc hbx y1;replace y2:=bc hbx y2;replace hp1:=bc hbx hp1;go_simp;with_reducible rfl);rotate_left;simp only [sc0,sc1]
  refine Ae (i:=2) (v:=?_) HT rfl (by kernel_rfl) rfl (kA Aa (Ab rfl rfl)) (by rfl) (fun _ _ _ h => h) (fun lx ax wx hS => ?_) ?_;rotate_left;(have hbx:=hS.1;clear hS;replace x1:=bc hbx x1;replace y1:=bc hbx y1;replace y2:=bc hbx y2;replace hp1:=bc hbx hp1;go_simp;with_reducible rfl);rotate_left;simp only [sc0,sc1]
  refine Ae (i:=3) (v:=?_) HT rfl (by kernel_rfl) rfl (kA Aa (Ab rfl rfl)) (by rfl) (fun _ _ _ h => h) (fun lx ax wx hS => ?_) ?_;rotate_left;(have hbx:=hS.1;clear hS;replace x1:=bc hbx x1;replace y1:=bc hbx y1;replace y2:=bc hbx y2;replace hp1:=bc hbx hp1;go_simp;with_reducible rfl);rotate_left;simp only [sc0,sc1]
  refine Ae (i:=4) (v:=?_) HT rfl (by kernel_rfl) rfl (kA Aa (Ab rfl rfl)) (by rfl) (fun _ _ _ h => h) (fun lx ax wx hS => ?_) ?_;rotate_left;(have hbx:=hS.1;clear hS;replace x1:=bc hbx x1;replace y1:=bc hbx y1;replace y2:=bc hbx y2;replace hp1:=bc hbx hp1;go_simp;with_reducible rfl);rotate_left;simp only [sc0,sc1]
  refine Ae (i:=5) (v:=?_) HT rfl (by kernel_rfl) rfl (kA Aa (Ab rfl rfl)) (by rfl) (fun _ _ _ h => h) (fun lx ax wx hS => ?_) ?_;rotate_left;(have hbx:=hS.1;clear hS;replace x1:=bc hbx x1;replace y1:=bc hbx y1;replace y2:=bc hbx y2;replace hp1:=bc hbx hp1;go_simp;with_reducible rfl);rotate_left;simp only [sc0,sc1]
  refine Ae (i:=6) (v:=?_) HT rfl (by kernel_rfl) rfl (kA Aa (Ab rfl rfl)) (by rfl) (fun _ _ _ h => h) (fun lx ax wx hS => ?_) ?_;rotate_left;(have hbx:=hS.1;clear hS;replace x1:=bc hbx x1;replace y1:=bc hbx y1;replace y2:=bc hbx y2;replace hp1:=bc hbx hp1;go_simp;with_reducible rfl);rotate_left;simp only [sc0,sc1]
  refine Ae (i:=7) (v:=?_) HT rfl (by kernel_rfl) rfl (kA Aa (Ab rfl rfl)) (by rfl) (fun _ _ _ h => h) (fun lx ax wx hS => ?_) ?_;rotate_left;(have hbx:=hS.1;clear hS;replace x1:=bc hbx x1;replace y1:=bc hbx y1;replace y2:=bc hbx y2;replace hp1:=bc hbx hp1;go_simp;with_reducible rfl);rotate_left;simp only [sc0,sc1]
  refine Ae (i:=8) (v:=?_) HT rfl (by kernel_rfl) rfl (kA Aa (Ab rfl rfl)) (by rfl) (fun _ _ _ h => h) (fun lx ax wx hS => ?_) ?_;rotate_left;(have hbx:=hS.1;clear hS;replace x1:=bc hbx x1;replace y1:=bc hbx y1;replace y2:=bc hbx y2;replace hp1:=bc hbx hp1;go_simp;with_reducible rfl);rotate_left;simp only [sc0,sc1]
  refine Ae (i:=9) (v:=?_) HT rfl (by kernel_rfl) rfl (kA Aa (Ab rfl rfl)) (by rfl) (fun _ _ _ h => h) (fun lx ax wx hS => ?_) ?_;rotate_left;(have hbx:=hS.1;clear hS;replace x1:=bc hbx x1;replace y1:=bc hbx y1;replace y2:=bc hbx y2;replace hp1:=bc hbx hp1;go_simp;with_reducible rfl);rotate_left;simp only [sc0,sc1]
  refine Ae (i:=10) (v:=?_) HT rfl (by kernel_rfl) rfl (kA Aa (Ab rfl rfl)) (by rfl) (fun _ _ _ h => h) (fun lx ax wx hS => ?_) ?_;rotate_left;(have hbx:=hS.1;clear hS;replace x1:=bc hbx x1;replace y1:=bc hbx y1;replace y2:=bc hbx y2;replace hp1:=bc hbx hp1;go_simp;with_reducible rfl);rotate_left;simp only [sc0,sc1]
  refine Ae (i:=11) (v:=?_) HT rfl (by kernel_rfl) rfl (kA Aa (Ab rfl rfl)) (by rfl) (fun _ _ _ h => h) (fun lx ax wx hS => ?_) ?_;rotate_left;(have hbx:=hS.1;clear hS;replace x1:=bc hbx x1;replace y1:=bc hbx y1;replace y2:=bc hbx y2;replace hp1:=bc hbx hp1;go_simp;with_reducible rfl);rotate_left;simp only [sc0,sc1]
  refine Ae (i:=12) (v:=?_) HT rfl (by kernel_rfl) rfl (kA Aa (Ab rfl rfl)) (by rfl) (fun _ _ _ h => h) (fun lx ax wx hS => ?_) ?_;rotate_left;(have hbx:=hS.1;clear hS;replace x1:=bc hbx x1;replace y1:=bc hbx y1;replace y2:=bc hbx y2;replace hp1:=bc hbx hp1;go_simp;with_reducible rfl);rotate_left;simp only [sc0,sc1]
  refine Ae (i:=13) (v:=?_) HT rfl (by kernel_rfl) rfl (kA Aa (Ab rfl rfl)) (by rfl) (fun _ _ _ h => h) (fun lx ax wx hS => ?_) ?_;rotate_left;(have hbx:=hS.1;clear hS;replace x1:=bc hbx x1;replace y1:=bc hbx y1;replace y2:=bc hbx y2;replace hp1:=bc hbx hp1;go_simp;with_reducible rfl);rotate_left;simp only [sc0,sc1]
  refine Ae (i:=14) (v:=?_) HT rfl (by kernel_rfl) rfl (kA Aa (Ab rfl rfl)) (by rfl) (fun _ _ _ h => h) (fun lx ax wx hS => ?_) ?_;rotate_left;(have hbx:=hS.1;clear hS;replace x1:=bc hbx x1;replace y1:=bc hbx y1;replace y2:=bc hbx y2;replace hp1:=bc hbx hp1;go_simp;with_reducible rfl);rotate_left;simp only [sc0,sc1]
  refine BR (i:=15) (f:=121) (args:=#[.slice Av vals.length cv]) (fun v => ∃ A1 c1,v = .slice A1 vals.length c1) rfl (by kernel_rfl) rfl Tryz.func121 (by kernel_rfl) rfl rfl (by rfl) (by simp only [List.map_toArray,List.map_cons,List.map_nil];rfl) (fun wx hS => (MP HVL.out (bj HB2.out hS.1) HV.out).mono (by rintro x w6 ⟨v,rfl,ho,hb⟩;obtain ⟨A1,c1,rfl, -, -⟩:=ho.reads;exact ⟨_,rfl,⟨A1,c1,rfl⟩,bj hS.1 hb,fun _ => ho.lower hS.1.size⟩)) (fun vx hg => ?_);simp only [sc0,sc1]
  obtain ⟨A1,c1,rfl⟩:=hg
  refine Ae (i:=16) (v:=?_) HT rfl (by kernel_rfl) rfl (kA Aa (Ab rfl rfl)) (by rfl) (fun _ _ _ h => h) (fun lx ax wx hS => ?_) ?_;rotate_left;(go_simp;with_reducible rfl);rotate_left;simp only [sc0,sc1]
  refine Ae (i:=17) (v:=?_) HT rfl (by kernel_rfl) rfl (kA Aa (Ab rfl rfl)) (by rfl) (fun _ _ _ h => h) (fun lx ax wx hS => ?_) ?_;rotate_left;(go_simp;with_reducible rfl);rotate_left;simp only [sc0,sc1]
  refine BQ (i:=18) (by kernel_rfl) rfl (fun wx hS => ?_)
  obtain ⟨h5x,h2⟩:=hS
  have hown : AR wx w2.heap.size (.slice A1 vals.length c1) q.vals:=by rw [HQV.out.2.2];exact h2 (by kernel_rfl)
  refine Es (ok:=okm) (w0:=w0) (N:=w2.heap.size) (q:=q) (v:=.slice A1 vals.length c1) p rfl (.tmp 28) (.tmp 27) rfl (by rfl) rfl rfl (by rw [Page.own,HQV.out.1];rfl) hown HB2.out.size (Kd.Ep HPM.out h5x) hpl (bj HB2.out h5x) (fun w8 hO8 hB8 hg8 => ?_)
  refine BB (by kernel_rfl) ?_
  have hd8:=Kd.Ep HPD.out h5x
  have hty:=Kd.EU (Kd.Bu HPM.out h5x) gm (by simp [Value.ownBlock])
  have he8:=AU.OX (e:={ e with log:=l1 }) HAP.out hd8 (Kd.Cm HO2.out.l h5x) hown hO8 (KZ HPM.out gm (by simp [Value.ownBlock])) hg8 hty
  have hq8 : Ai w8 g { e with mem:=e.mem.set p q,log:=l1 } vd (.slice (some ⟨gm,0,none⟩) e.mem.length capm) vl2:=(hg8.block g (by have:=HQ2.out.lt;have:=h5x.size;omega) (fun e2 => by injection e2 with e2;exact Fw HQ2.out HPM.out e2)).trans (HQ2.out.up h5x)
  have HX8:=As (And.intro hB8 (And.intro he8 hq8))
  clear h5x h2 hown hO8 hB8 hg8 hd8 hty he8 hq8 x1 y1 y2 hp1
  go_wp2
  exact bodyPost_ret (v:=.tuple #[]) (by simp [results,Tryz.results150,go_sem]) rfl ⟨⟨_,rfl⟩,by rw [HE.out];exact ⟨⟨_,_,_,HX8.out.2.2,HX8.out.2.1⟩,HX8.out.1,HG.out⟩⟩
theorem TS (e : Eng) (tx page : Int) (vals : List Int) : (JD e tx page vals).log.length = e.log.length + 1:=by simp [JD]
theorem Ol {w0 w : World} {e : Eng} {C : Nat → Page} {B : Nat} {Ad Am Al Av : Option Addr} {cd cm cl cv gx gp gv : Nat} (tx page : Int) (vals : List Int) (hi : Inv e C B) (hB : B + 3 ≤ 150) (hcl : e.log.length ≤ cl) (hb : Below w0.heap.size w0 w) (hr : DF w0 e Ad Am Al) (bx : Ci w gx (.int .i64 tx) 3) (bp : Ci w gp (.int .i64 page) 3) (bv : Ci w gv (.slice Av vals.length cv) 33) (hvals : Kd.C (Kd.int .i64) w0 Av vals.length vals) : Calls Tryz.prog 140 #[e.val Ad Am Al cd cm cl, .int .i64 tx, .int .i64 page, .func (.func 145) #[] #[ptr gp,ptr gv,ptr gx], .func (.func 150) #[] #[ptr gx,ptr gp,ptr gv]] w (CQ w (GN e tx page vals).1 (GN e tx page vals).2):=by
  have hv:=BM hvals hb
  refine J3 (b:=(pg e.mem page.toNat).owner != 0 && (EK (pg e.mem page.toNat).vals && (FC vals && Mr e.log tx page))) (X:=JD e tx page vals) tx page hi.ok hcl hb hr (fun hm wb wx g hbw hg => ?_) (fun hm hbt wb wx g hbw hg => ?_) (fun hm hbt => ?_)
  · obtain ⟨-, -,h3, -⟩:=Dv.1 hm
    obtain ⟨p,rfl⟩ : ∃ p : Nat,page = (p : Int):=⟨page.toNat,by omega⟩
    have hx:=bj hbw hg.bel
    rw [Int.toNat_natCast]
    exact Qu (show p < 5 by omega) hi.Gb hi.core.log hg (bp.up hx) (bv.up hx) (bx.up hx) (BM hv hx)
  · have hp : Kh e tx page vals = true:=by rw [Kh,hm,hbt];rfl
    have hI:=hi.Qs hB hp
    obtain ⟨-, -,h3, -⟩:=Dv.1 hm
    obtain ⟨p,rfl⟩ : ∃ p : Nat,page = (p : Int):=⟨page.toNat,by omega⟩
    have hv3 : vals.length = 3:=by
      simp only [Bool.and_eq_true,FC,beq_iff_eq] at hbt
      exact hbt.2.2.1.1
    exact Qt (by omega) (Ay hi.Gb) (hI.TU (TS _ _ _ _)) hv3 hg (bx.up hbw) (bp.up hbw) (bv.up hbw) (BM hv hbw)
  · exact (hi.Qs hB (by rw [Kh,hm,hbt];rfl)).core.log
set_option maxRecDepth 100000 in
set_option maxHeartbeats 16000000 in
theorem Mg {w0 w : World} {e : Eng} {C : Nat → Page} {B : Nat} {Ad Am Al : Option Addr} {cd cm cl : Nat} (tx page : Int) {Avals : Option Addr} {cvals : Nat} (vals : List Int) (hi : Inv e C B) (hB : B + 3 ≤ 150) (hcl : e.log.length ≤ cl) (hb : Below w0.heap.size w0 w) (hr : DF w0 e Ad Am Al) (hvals : Kd.C (Kd.int .i64) w0 Avals vals.length vals) : Calls Tryz.prog 84 #[e.val Ad Am Al cd cm cl, .int .i64 tx, .int .i64 page, .slice Avals vals.length cvals] w (CQ w (GN e tx page vals).1 (GN e tx page vals).2):=by
  obtain ⟨E,bb,hE⟩ : ∃ E bb,GN e tx page vals = (E,bb):=⟨_,_,rfl⟩
  have HIN : Ac (∀ wx g_tx g_page g_vals,Below w.heap.size w wx → Ci wx g_tx (.int .i64 tx) 3 → Ci wx g_page (.int .i64 page) 3 → Ci wx g_vals (.slice Avals vals.length cvals) 33 → Calls Tryz.prog 140 #[e.val Ad Am Al cd cm cl, .int .i64 tx, .int .i64 page, .func (.func 145) #[] #[ptr g_page,ptr g_vals,ptr g_tx], .func (.func 150) #[] #[ptr g_tx,ptr g_page,ptr g_vals]] wx (CQ wx E bb)):=⟨fun wx g_tx g_page g_vals hbx b_tx b_page b_vals => by
    have h:=Ol (cd:=cd) (cm:=cm) tx page vals hi hB hcl (bj hb hbx) hr b_tx b_page b_vals hvals
    rw [hE] at h
    exact h⟩
  rw [hE]
  clear hi hb hr hE hcl hB hvals
  go_enter Tryz.func84,Tryz.ntmps84
  go_wp2_with (first
    | (with_reducible refine Aw (vd:=.slice Ad e.disk.length cd) (vm:=.slice Am e.mem.length cm) (vl:=.slice Al e.log.length cl) e ?_;intro w1 hb1 hz1 hq1;clear hz1;have HB:=As hb1;have HQ:=As hq1;clear hb1 hq1)
    | (with_reducible refine Dn (t:=3) (.int .i64 tx) ?_;intro w2 hb1 hz1 hq1;clear hz1;replace HB:=As (bj HB.out hb1);replace HQ:=As (HQ.out.up hb1);have HC_tx:=As hq1;clear hb1 hq1)
    | (with_reducible refine Dn (t:=3) (.int .i64 page) ?_;intro w3 hb1 hz1 hq1;clear hz1;replace HB:=As (bj HB.out hb1);replace HQ:=As (HQ.out.up hb1);replace HC_tx:=As (HC_tx.out.up hb1);have HC_page:=As hq1;clear hb1 hq1)
    | (with_reducible refine Dn (t:=33) (.slice Avals vals.length cvals) ?_;intro w4 hb1 hz1 hq1;clear hz1;replace HB:=As (bj HB.out hb1);replace HQ:=As (HQ.out.up hb1);replace HC_tx:=As (HC_tx.out.up hb1);replace HC_page:=As (HC_page.out.up hb1);have HC_vals:=As hq1;clear hb1 hq1)
    | (refine Aw (vd:=.slice none 0 0) (vm:=.slice none 0 0) (vl:=.slice none 0 0) zE ?_;intro w5 hb1 hz1 hq1;have HBG:=As HB.out.size;replace HB:=As (bj HB.out hb1);replace HQ:=As (HQ.out.up hb1);replace HC_tx:=As (HC_tx.out.up hb1);replace HC_page:=As (HC_page.out.up hb1);replace HC_vals:=As (HC_vals.out.up hb1);have HP:=As hq1;have HZ:=As hz1;have x0:=HQ.out.c0;have x1:=HQ.out.c1;have x2:=HQ.out.c2;have x3:=HQ.out.c3;have x4:=HQ.out.c4;have c_tx:=HC_tx.out.c0;have c_page:=HC_page.out.c0;have c_vals:=HC_vals.out.c0;clear hb1 hz1 hq1)
    | (go_at_call 140;refine (HIN.out w5 _ _ _ HB.out HC_tx.out HC_page.out HC_vals.out).mono ?_;rintro x w6 ⟨vd,vm,vl,rfl,ho,hb2⟩;obtain ⟨Ed,n1,Em,n2,El,n3,rfl,rfl,rfl, -, -⟩:=ho.reads;have HO:=As ho;have HX:=As hb2;have hp:=HP.out.up hb2;have HP2:=As hp;have y0:=hp.c0;have y1:=hp.c1;have y2:=hp.c2;have y3:=hp.c3;have y4:=hp.c4;have f0:=hp.frz 0;have f1:=hp.frz 1;have f2:=hp.frz 2;have f3:=hp.frz 3;have f4:=hp.frz 4;clear hp hb2 ho x0 x1 x2 x3 x4 c_tx c_page c_vals))
  have hy:=HP2.out.Az E (.slice Ed E.disk.length n1) (.slice Em E.mem.length n2) (.slice El E.log.length n3)
  have h1:=HO.out.Az (f:=E) (xd:=.slice Ed E.disk.length n1) (xm:=.slice Em E.mem.length n2) (xl:=.slice El E.log.length n3) HP2.out
  have hge:=HBG.out
  have hzz:=HZ.out
  have h2:=Ak (g:=w4.heap.size) (bj HB.out HX.out) hge E (.slice Ed E.disk.length n1) (.slice Em E.mem.length n2) (.slice El E.log.length n3)
  have z0:=hy.c0
  have z1:=hy.c1
  have z2:=hy.c2
  have z3:=hy.c3
  have z4:=hy.c4
  exact bodyPost_ret (v:=.tuple #[E.ag (.slice Ed E.disk.length n1) (.slice Em E.mem.length n2) (.slice El E.log.length n3), .bool bb]) (by simp [results,Tryz.results84,go_sem,z0,z1,z2,z3,z4]) rfl ⟨_,_,_,rfl,h1.lower (by omega),h2⟩
set_option maxRecDepth 100000 in
set_option maxHeartbeats 16000000 in
theorem K6 {w0 w : World} {e : Eng} {Ad Am Al : Option Addr} {cd cm cl : Nat} (tx : Int) {p3 : Value} {X : Eng} (hok : eOk e = true) (hcl : e.log.length ≤ cl) (hb : Below w0.heap.size w0 w) (hr : DF w0 e Ad Am Al)
    (hw : e.down = false → Ao e.log tx e.log.length ≠ 0 → ∀ wb wx g,Below w.heap.size w wb → BO wb wx g e → Calls Tryz.prog 152 #[ptr g,p3] wx (Hy wb g X)) : Calls Tryz.prog 151 #[e.val Ad Am Al cd cm cl, .int .i64 tx, .func (.func 152) #[] #[p3]] w (CQ w (Cz e tx X).1 (Cz e tx X).2):=by
  have HR:=As (hr.up hb)
  have HW:=As hw
  have HV:=As hok
  have HF:=As (Fh.1 hok)
  have HLG:=As (Bg HF.out.log)
  clear hr hb hw hok
  obtain ⟨w1,hw1⟩ : ∃ w1,w.alloc (e.obox (.slice Ad e.disk.length cd) (.slice Am e.mem.length cm) (.slice Al e.log.length cl)) = w1:=⟨_,rfl⟩
  obtain ⟨w2,hw2⟩ : ∃ w2,w1.alloc (zE.obox (.slice none 0 0) (.slice none 0 0) (.slice none 0 0)) = w2:=⟨_,rfl⟩
  have hz1 : w1.heap.size = w.heap.size + 1:=by rw [← hw1];exact BA _ _
  have hz2 : w2.heap.size = w.heap.size + 2:=by rw [← hw2,BA,hz1]
  have hb12 : Below w1.heap.size w1 w2:=by rw [← hw2];exact Ah (Below.refl _ _) _
  have HB2 : Ac (Below w.heap.size w w2):=⟨by rw [← hw2, ← hw1];exact Ah (Ah (Below.refl _ _) _) _⟩
  have HQ2 : Ac (Ai w2 w.heap.size e (.slice Ad e.disk.length cd) (.slice Am e.mem.length cm) (.slice Al e.log.length cl)):=⟨Ai.up (by rw [← hw1];exact Ai.mk1 _ _ _ _ _) hb12⟩
  have HP2 : Ac (Ai w2 (w.heap.size + 1) zE (.slice none 0 0) (.slice none 0 0) (.slice none 0 0)):=⟨by rw [← hw2, ← hz1];exact Ai.mk1 _ _ _ _ _⟩
  have HW2 : Ac ((w.alloc (e.obox (.slice Ad e.disk.length cd) (.slice Am e.mem.length cm) (.slice Al e.log.length cl))).alloc (zE.obox (.slice none 0 0) (.slice none 0 0) (.slice none 0 0)) = w2):=⟨by rw [hw1,hw2]⟩
  have HZ2:=As hz2
  clear hw1 hw2 hz1 hz2 hb12
  have x0:=HQ2.out.c0
  have x1:=HQ2.out.c1
  have x2:=HQ2.out.c2
  have x3:=HQ2.out.c3
  have x4:=HQ2.out.c4
  obtain ⟨n,hn⟩ : ∃ n : Nat,Ao e.log tx e.log.length = n:=⟨_,rfl⟩
  cases hdn : e.down
  rotate_left
  · rw [show Cz e tx X = (e,false) by rw [Cz,if_neg (by rw [hdn];simp)]]
    have HDN:=As hdn
    clear hdn hn
    go_enter Tryz.func151,Tryz.ntmps151
    go_wp2_with (first
      | (go_at_call 36;rw [show (w.alloc (Obj.cells #[Value.slice Ad e.disk.length cd,Value.slice Am e.mem.length cm,Value.slice Al e.log.length cl,Value.int IntKind.i64 e.safe,Value.bool e.down] 28)).alloc (Obj.cells #[Value.slice none 0 0,Value.slice none 0 0,Value.slice none 0 0,Value.int IntKind.i64 0,Value.bool false] 28) = w2 from HW2.out];refine (AL (cd:=cd) (cm:=cm) HV.out hcl HB2.out HR.out).mono ?_;rintro x w3 ⟨rfl,hb3⟩;have HX3:=As hb3;replace x0:=bc hb3 x0;replace x1:=bc hb3 x1;replace x2:=bc hb3 x2;replace x3:=bc hb3 x3;replace x4:=bc hb3 x4;clear hb3)
      | (go_at_call 38;refine (AV (cd:=cd) (cm:=cm) (cl:=cl) (Ay HF.out.disk) (Ay HF.out.mem) HLG.out (bj HB2.out HX3.out) HR.out).mono ?_;rintro x w4 ⟨vd,vm,vl,rfl,ho,hb4⟩;obtain ⟨Bd,dd,Bm,dm,Bl,dl,rfl,rfl,rfl, -,hc⟩:=ho.reads;have HO4:=As ho;have HC4:=As hc;have HX4:=As hb4;clear ho hb4 hc x0 x1 x2 x3 x4)
      | (refine Aw (vd:=.slice Bd e.disk.length dd) (vm:=.slice Bm e.mem.length dm) (vl:=.slice Bl e.log.length dl) e ?_;intro w5 hb5 _ hq5;have q0:=hq5.c0;have q1:=hq5.c1;have q2:=hq5.c2;have q3:=hq5.c3;have q4:=hq5.c4;rw [HDN.out] at q4;have HO7:=As (HO4.out.below hb5);have HX7:=As (bj HX4.out hb5);have hp:=HP2.out.up (bj HX3.out HX7.out);have HP7:=As hp;have y0:=hp.c0;have y1:=hp.c1;have y2:=hp.c2;have y3:=hp.c3;have y4:=hp.c4;have f0:=hp.frz 0;have f1:=hp.frz 1;have f2:=hp.frz 2;have f3:=hp.frz 3;have f4:=hp.frz 4;clear hp;clear hb5 hq5))
    have hz:=HZ2.out
    have hn3:=HX3.out.size
    have hy:=HP7.out.Az ⟨e.disk,e.mem,e.log,e.safe,true⟩ (.slice Bd e.disk.length dd) (.slice Bm e.mem.length dm) (.slice Bl e.log.length dl)
    have h1:=HO7.out.Az (f:=⟨e.disk,e.mem,e.log,e.safe,true⟩) (xd:=.slice Bd e.disk.length dd) (xm:=.slice Bm e.mem.length dm) (xl:=.slice Bl e.log.length dl) HP7.out
    have h2:=Ak (g:=w.heap.size + 1) (bj HB2.out (bj HX3.out HX7.out)) (by omega) ⟨e.disk,e.mem,e.log,e.safe,true⟩ (.slice Bd e.disk.length dd) (.slice Bm e.mem.length dm) (.slice Bl e.log.length dl)
    have z0:=hy.c0
    have z1:=hy.c1
    have z2:=hy.c2
    have z3:=hy.c3
    have z4:=hy.c4
    simp only at z0 z1 z2 z3 z4
    exact bodyPost_ret (v:=.tuple #[.agg #[.slice Bd e.disk.length dd, .slice Bm e.mem.length dm, .slice Bl e.log.length dl, .int .i64 e.safe, .bool true], .bool false]) (by simp [results,Tryz.results151,go_sem,z0,z1,z2,z3,z4]) rfl ⟨.slice Bd e.disk.length dd, .slice Bm e.mem.length dm, .slice Bl e.log.length dl,by unfold Eng.ag;rw [HDN.out],h1.lower (by omega),h2⟩
  have HDN:=As hdn
  have HLN:=As hn
  clear hdn hn
  rcases n with _ | n
  · rw [show Cz e tx X = (e,false) by rw [Cz,if_neg (by rw [HLN.out];simp)]]
    go_enter Tryz.func151,Tryz.ntmps151
    go_wp2_with (first
      | (go_at_call 36;rw [show (w.alloc (Obj.cells #[Value.slice Ad e.disk.length cd,Value.slice Am e.mem.length cm,Value.slice Al e.log.length cl,Value.int IntKind.i64 e.safe,Value.bool e.down] 28)).alloc (Obj.cells #[Value.slice none 0 0,Value.slice none 0 0,Value.slice none 0 0,Value.int IntKind.i64 0,Value.bool false] 28) = w2 from HW2.out];refine (AL (cd:=cd) (cm:=cm) HV.out hcl HB2.out HR.out).mono ?_;rintro x w3 ⟨rfl,hb3⟩;have HX3:=As hb3;replace x0:=bc hb3 x0;replace x1:=bc hb3 x1;replace x2:=bc hb3 x2;replace x3:=bc hb3 x3;replace x4:=bc hb3 x4;clear hb3)
      | (go_at_call 38;refine (AV (cd:=cd) (cm:=cm) (cl:=cl) (Ay HF.out.disk) (Ay HF.out.mem) HLG.out (bj HB2.out HX3.out) HR.out).mono ?_;rintro x w4 ⟨vd,vm,vl,rfl,ho,hb4⟩;obtain ⟨Bd,dd,Bm,dm,Bl,dl,rfl,rfl,rfl, -,hc⟩:=ho.reads;have HO4:=As ho;have HC4:=As hc;have HX4:=As hb4;clear ho hb4 hc x0 x1 x2 x3 x4)
      | (refine Aw (vd:=.slice Bd e.disk.length dd) (vm:=.slice Bm e.mem.length dm) (vl:=.slice Bl e.log.length dl) e ?_;intro w5 hb5 _ hq5;have q0:=hq5.c0;have q1:=hq5.c1;have q2:=hq5.c2;have q3:=hq5.c3;have q4:=hq5.c4;rw [HDN.out] at q4;have HC5:=As (HC4.out.up hb5);have HO5:=As (HO4.out.below hb5);have HX5:=As (bj HX4.out hb5);have HG5 : Ac (BO w3 w5 w4.heap.size e):=⟨⟨⟨_,_,_,hq5,HO4.out.below hb5⟩,bj HX4.out hb5,HX4.out.size⟩⟩;clear hb5 hq5)
      | (go_at_call 107;refine (Gp (w0:=w5) (c:=dl) HLN.out (Below.refl _ _) HC5.out.l).mono ?_;rintro x w6 ⟨rfl,hb6⟩;replace q0:=bc hb6 q0;replace q1:=bc hb6 q1;replace q2:=bc hb6 q2;replace q3:=bc hb6 q3;replace q4:=bc hb6 q4;have HX7:=As (bj HX5.out hb6);have HO7:=As (HO5.out.below hb6);have hp:=HP2.out.up (bj HX3.out HX7.out);have HP7:=As hp;have y0:=hp.c0;have y1:=hp.c1;have y2:=hp.c2;have y3:=hp.c3;have y4:=hp.c4;have f0:=hp.frz 0;have f1:=hp.frz 1;have f2:=hp.frz 2;have f3:=hp.frz 3;have f4:=hp.frz 4;clear hp;clear hb6))
    have hz:=HZ2.out
    have hn3:=HX3.out.size
    have hy:=HP7.out.Az ⟨e.disk,e.mem,e.log,e.safe,false⟩ (.slice Bd e.disk.length dd) (.slice Bm e.mem.length dm) (.slice Bl e.log.length dl)
    have h1:=HO7.out.Az (f:=⟨e.disk,e.mem,e.log,e.safe,false⟩) (xd:=.slice Bd e.disk.length dd) (xm:=.slice Bm e.mem.length dm) (xl:=.slice Bl e.log.length dl) HP7.out
    have h2:=Ak (g:=w.heap.size + 1) (bj HB2.out (bj HX3.out HX7.out)) (by omega) ⟨e.disk,e.mem,e.log,e.safe,false⟩ (.slice Bd e.disk.length dd) (.slice Bm e.mem.length dm) (.slice Bl e.log.length dl)
    have z0:=hy.c0
    have z1:=hy.c1
    have z2:=hy.c2
    have z3:=hy.c3
    have z4:=hy.c4
    simp only at z0 z1 z2 z3 z4
    exact bodyPost_ret (v:=.tuple #[.agg #[.slice Bd e.disk.length dd, .slice Bm e.mem.length dm, .slice Bl e.log.length dl, .int .i64 e.safe, .bool false], .bool false]) (by simp [results,Tryz.results151,go_sem,z0,z1,z2,z3,z4]) rfl ⟨.slice Bd e.disk.length dd, .slice Bm e.mem.length dm, .slice Bl e.log.length dl,by unfold Eng.ag;rw [HDN.out],h1.lower (by omega),h2⟩
  · have HNZ : Ac (Ao e.log tx e.log.length ≠ 0):=⟨by rw [HLN.out];omega⟩
    rw [show Cz e tx X = (X,true) by rw [Cz,if_pos ⟨HDN.out,HNZ.out⟩]]
    have hn0 : ¬ ((n + 1 : Nat) : Int) = 0:=by omega
    go_enter Tryz.func151,Tryz.ntmps151
    go_wp2_with (first
      | (go_at_call 36;rw [show (w.alloc (Obj.cells #[Value.slice Ad e.disk.length cd,Value.slice Am e.mem.length cm,Value.slice Al e.log.length cl,Value.int IntKind.i64 e.safe,Value.bool e.down] 28)).alloc (Obj.cells #[Value.slice none 0 0,Value.slice none 0 0,Value.slice none 0 0,Value.int IntKind.i64 0,Value.bool false] 28) = w2 from HW2.out];refine (AL (cd:=cd) (cm:=cm) HV.out hcl HB2.out HR.out).mono ?_;rintro x w3 ⟨rfl,hb3⟩;have HX3:=As hb3;replace x0:=bc hb3 x0;replace x1:=bc hb3 x1;replace x2:=bc hb3 x2;replace x3:=bc hb3 x3;replace x4:=bc hb3 x4;clear hb3)
      | (go_at_call 38;refine (AV (cd:=cd) (cm:=cm) (cl:=cl) (Ay HF.out.disk) (Ay HF.out.mem) HLG.out (bj HB2.out HX3.out) HR.out).mono ?_;rintro x w4 ⟨vd,vm,vl,rfl,ho,hb4⟩;obtain ⟨Bd,dd,Bm,dm,Bl,dl,rfl,rfl,rfl, -,hc⟩:=ho.reads;have HO4:=As ho;have HC4:=As hc;have HX4:=As hb4;clear ho hb4 hc x0 x1 x2 x3 x4)
      | (refine Aw (vd:=.slice Bd e.disk.length dd) (vm:=.slice Bm e.mem.length dm) (vl:=.slice Bl e.log.length dl) e ?_;intro w5 hb5 _ hq5;have q0:=hq5.c0;have q1:=hq5.c1;have q2:=hq5.c2;have q3:=hq5.c3;have q4:=hq5.c4;rw [HDN.out] at q4;have HC5:=As (HC4.out.up hb5);have HO5:=As (HO4.out.below hb5);have HX5:=As (bj HX4.out hb5);have HG5 : Ac (BO w3 w5 w4.heap.size e):=⟨⟨⟨_,_,_,hq5,HO4.out.below hb5⟩,bj HX4.out hb5,HX4.out.size⟩⟩;clear hb5 hq5)
      | (go_at_call 107;refine (Gp (w0:=w5) (c:=dl) HLN.out (Below.refl _ _) HC5.out.l).mono ?_;rintro x w6 ⟨rfl,hb6⟩;have HG6:=As (HG5.out.up hb6);clear hb6 q0 q1 q2 q3 q4)
      | (go_at_call 152;refine (HW.out HDN.out HNZ.out w3 w6 w4.heap.size (bj HB2.out HX3.out) HG6.out).mono ?_;rintro x w8 ⟨⟨v,rfl⟩,hg8⟩;obtain ⟨ud,um,ul,hq,ho⟩:=hg8.ex;obtain ⟨Ed,n1,Em,n2,El,n3,rfl,rfl,rfl, -, -⟩:=ho.reads;have HO7:=As ho;have HX7:=As hg8.bel;have q0:=hq.c0;have q1:=hq.c1;have q2:=hq.c2;have q3:=hq.c3;have q4:=hq.c4;have hp:=HP2.out.up (bj HX3.out HX7.out);have HP7:=As hp;have y0:=hp.c0;have y1:=hp.c1;have y2:=hp.c2;have y3:=hp.c3;have y4:=hp.c4;have f0:=hp.frz 0;have f1:=hp.frz 1;have f2:=hp.frz 2;have f3:=hp.frz 3;have f4:=hp.frz 4;clear hp;clear hq ho hg8))
    have hz:=HZ2.out
    have hn3:=HX3.out.size
    have hy:=HP7.out.Az X (.slice Ed X.disk.length n1) (.slice Em X.mem.length n2) (.slice El X.log.length n3)
    have h1:=HO7.out.Az (f:=X) (xd:=.slice Ed X.disk.length n1) (xm:=.slice Em X.mem.length n2) (xl:=.slice El X.log.length n3) HP7.out
    have h2:=Ak (g:=w.heap.size + 1) (bj HB2.out (bj HX3.out HX7.out)) (by omega) X (.slice Ed X.disk.length n1) (.slice Em X.mem.length n2) (.slice El X.log.length n3)
    have z0:=hy.c0
    have z1:=hy.c1
    have z2:=hy.c2
    have z3:=hy.c3
    have z4:=hy.c4
    exact bodyPost_ret (v:=.tuple #[X.ag (.slice Ed X.disk.length n1) (.slice Em X.mem.length n2) (.slice El X.log.length n3), .bool true]) (by simp [results,Tryz.results151,go_sem,z0,z1,z2,z3,z4]) rfl ⟨.slice Ed X.disk.length n1, .slice Em X.mem.length n2, .slice El X.log.length n3,rfl,h1.lower (by omega),h2⟩
def VR (w : World) (xs : List Int) (e : Ending) (w' : World) : Prop := ∃ A c,e = .returned (.slice A xs.length c) ∧ Kd.C (Kd.int .i64) w' A xs.length xs ∧ (∀ S : Nat → Prop,(∀ k,S k → k < w.heap.size) → ∀ W',Kept w' W' S → Kd.C (Kd.int .i64) W' A xs.length xs) ∧ Below w.heap.size w w'
set_option maxHeartbeats 4000000 in
theorem Nw {w0 w : World} {A : Option Addr} {c : Nat} {l : List Rec} (tx : Int) (hb : Below w0.heap.size w0 w) (hr : Kd.C C8 w0 A l.length l) (hl : AP l = true) : Calls Tryz.prog 119 #[.slice A l.length c, .int .i64 tx, .func (.func 153) #[] #[]] w (VR w (Go.Lib.compact (FD (Bf l (isLoad) (BD l (Ao l tx l.length)))))):=by
  have HR:=As hr
  have HB:=As hb
  have HL:=As hl
  have hm:=Bg hl
  obtain ⟨ks,hks⟩ : ∃ ks,BD l (Ao l tx l.length) = ks:=⟨_,rfl⟩
  have hkl:=GZ (l:=l) (Ao l tx l.length)
  have hll:=Bb l tx l.length
  rw [hks] at hkl
  have HKS:=As hks
  have HMM:=As (JY hl _ hll)
  rw [hks] at HMM
  clear hr hb hl hks
  go_enter Tryz.func119,Tryz.ntmps119
  go_wp2_with (go_at_call 149;refine (Hu tx HB.out HR.out HL.out).mono ?_;rintro e w1 ⟨v,rfl,ho,hb1⟩;rw [HKS.out] at ho;obtain ⟨A1,c1,rfl, -,hC⟩:=ho.reads;have HC:=As hC;have HX:=As hb1;clear ho hb1 hC;simp only [ints,List.length_map])
  go_loopw [7,15] (fun v i wr => ∃ j : Nat,j ≤ ks.length ∧ i = .int .i64 (j : Int) ∧ Ac (AR wr w1.heap.size v (Bf l (isLoad) (ks.take j))) ∧ Ac (Below w1.heap.size w1 wr)) (fun _ i _ => (ks.length - intOf i).toNat)
  case atStart => exact ⟨0,by omega,rfl,⟨AR.nil _ _⟩,⟨Below.refl _ _⟩⟩
  case round =>
    obtain ⟨j,hj,rfl,HO,HW⟩:=hrel
    have HWW:=As (bj HX.out HW.out)
    have HW0:=As (bj HB.out HWW.out)
    by_cases hlt : j < ks.length
    · obtain ⟨ad,rfl,g0⟩:=Dk HC.out j (by simpa [ints] using hlt)
      replace g0:=bc HW.out g0
      rw [Lj hlt] at g0
      obtain ⟨n,hn⟩ : ∃ n,ks[j] = n:=⟨_,rfl⟩
      obtain ⟨hn0,hnl⟩:=HMM.out n (hn ▸ List.getElem_mem hlt)
      have HT:=As (show ks.take (j + 1) = ks.take j ++ [n] by rw [List.take_succ_eq_append_getElem hlt,hn])
      rw [hn] at g0
      obtain ⟨m,rfl⟩ : ∃ m,n = m + 1:=⟨n - 1,by omega⟩
      rw [show ((m + 1 : Nat) : Int) = (m : Int) + 1 from rfl] at g0
      have hml : m < l.length:=by omega
      obtain ⟨ad2,rfl,QR⟩:=Cb HR.out m hml
      obtain ⟨z0,z1,z2,z3,z4,z5,z6,z7⟩:=QR.up HW0.out
      have hpl : (Bf l (isLoad) (ks.take j)).length ≤ 150:=by
        rw [Bf,List.length_map]
        refine Nat.le_trans (List.length_filter_le _ _) ?_
        rw [List.length_take]
        omega
      have HPL:=As hpl
      clear hn hn0 hnl hpl QR
      cases hv : (rc l m).kind == 3
      · have HV:=As hv
        clear hv
        go_wp2_with (first | (with_reducible refine Ct (rc l m) ?_;intro w2 hb2 hz2 hq2;have HW3:=As (bj HW.out hb2);have HO3:=As (AR.below HO.out hb2);have HQ3:=As hq2;obtain ⟨x0,x1,x2,x3,x4,x5,x6,x7⟩:=hq2;simp only [Nat.zero_add] at x1 x2 x3 x4 x5 x6 x7;clear hb2) | (go_at_call 153;refine (Hr HV.out _).mono ?_;rintro e w3 ⟨rfl,hb3⟩;have HW2:=As (bj HW3.out hb3);have HO2:=As (AR.below HO3.out hb3);obtain ⟨-, -,y2, -, -, -, -, -⟩:=HQ3.out.up hb3;simp only [Nat.zero_add] at y2;clear hb3))
        go_roundw
        case rel => exact ⟨j + 1,by omega,by go_num,⟨by rw [HT.out,show Bf l isLoad (ks.take j ++ [m + 1]) = Bf l isLoad (ks.take j) by have hv:=HV.out;simp [Bf,List.filter_append,isLoad,hv]];exact HO2.out⟩,HW2⟩
        case measure => simp [intOf];omega
      · have HV:=As hv
        clear hv
        go_wp2_with (first | (with_reducible refine Ct (rc l m) ?_;intro w2 hb2 hz2 hq2;have HW3:=As (bj HW.out hb2);have HO3:=As (AR.below HO.out hb2);have HQ3:=As hq2;obtain ⟨x0,x1,x2,x3,x4,x5,x6,x7⟩:=hq2;simp only [Nat.zero_add] at x1 x2 x3 x4 x5 x6 x7;clear hb2) | (go_at_call 153;refine (Hr HV.out _).mono ?_;rintro e w3 ⟨rfl,hb3⟩;have HW2:=As (bj HW3.out hb3);have HO2:=As (AR.below HO3.out hb3);obtain ⟨-, -,y2, -, -, -, -, -⟩:=HQ3.out.up hb3;simp only [Nat.zero_add] at y2;clear hb3) | (at_builtin;(refine Dc w1.heap.size rfl (.tmp 27) (.tmp 30) 33 3 .i64 8 rfl DW Fs (by omega) _ (Bf l (isLoad) (ks.take j)) (rc l m).page rfl rfl HO2.out HW2.out HW2.out.size (by have:=HPL.out;omega) ?_;intro v1 w4 hown1 hb1 _ _;have HO4:=As hown1;have HW4:=As hb1;clear hown1 hb1)))
        go_roundw
        case rel => exact ⟨j + 1,by omega,by go_num,⟨by rw [HT.out,show Bf l isLoad (ks.take j ++ [m + 1]) = Bf l isLoad (ks.take j) ++ [(rc l m).page] by have hv:=HV.out;simp [Bf,List.filter_append,isLoad,hv]];exact HO4.out⟩,HW4⟩
        case measure => simp [intOf];omega
    · have HE:=As (show j = ks.length by omega)
      have hps : (Bf l (isLoad) (ks.take j)).length ≤ 150:=by
        rw [Bf,List.length_map]
        refine Nat.le_trans (List.length_filter_le _ _) ?_
        rw [List.length_take]
        omega
      have HPS:=As hps
      clear hps
      go_wp2_with (first | (go_at_call 168;refine (Kv (by have:=HPS.out;omega) HO.out).mono ?_;rintro e w5 ⟨rfl,ho,hg⟩;have HW5:=As (HW.out.grown hg HW.out.size (fun k hk => HO.out.base hk));have HO5:=As ho;clear ho hg) | (go_at_call 170;refine (I7 (by have:=HPS.out;rw [FD,List.length_mergeSort];omega) HO5.out).mono ?_;rintro e w6 ⟨v6,rfl,ho,hg⟩;have HW6:=As (HW5.out.grown hg HW5.out.size (fun k hk => HO5.out.base hk));obtain ⟨A6,c6,rfl,hc6,hC6⟩:=ho.reads;have HC6:=As hC6;have HO6:=As ho;have HL6:=As hc6;clear ho hg hC6 hc6) | (go_at_call 169;refine (KJ (D5 HC6.out).2 HL6.out).mono ?_;rintro e w7 ⟨rfl,rfl⟩))
      go_ret
      have hj : ks.take j = BD l (Ao l tx l.length):=by rw [HE.out,List.take_length,HKS.out]
      rw [← hj]
      exact ⟨A6,_,rfl,HC6.out,fun S hS => Kd.Sg (Kd.Ez (ok:=fun k => w1.heap.size ≤ k) HO6.out (fun k hk => HO6.out.base hk)) (fun k h1 h2 => by have:=hS k h2;have:=HX.out.size;omega),bj HX.out HW6.out⟩
section
variable {ops : Array Oper} {rest : List Oper} {o : Oper} {a : Act} {Q : Exit → Act → World → Prop}
end
def MS (w : World) (b : Nat) (vd vm : Value) (ps qs : List Page) : Prop := ∃ okd okm : Nat → Prop,(∀ k,okd k → okm k → False) ∧ CB w b okd vd ps ∧ CB w b okm vm qs
theorem FX {w : World} {b g : Nat} {ok : Nat → Prop} {v ud um ul : Value} {ps : List Page} {q : Eng} (h : CB w b ok v ps) (hq : Ai w g q ud um ul) (j : Nat) (u : Value) : CB (w.setCell ⟨g,j,none⟩ u) b ok v ps:=
  Kd.QU h hq (fun q hq => by rcases L6 q hq with rfl | rfl <;> decide) j u
theorem MS.set {w : World} {b g : Nat} {vd vm ud um ul : Value} {ps qs : List Page} {q : Eng} (h : MS w b vd vm ps qs) (hq : Ai w g q ud um ul) (j : Nat) (u : Value) : MS (w.setCell ⟨g,j,none⟩ u) b vd vm ps qs:=by
  obtain ⟨okd,okm,h1,h2,h3⟩:=h
  exact ⟨okd,okm,h1,FX h2 hq j u,FX h3 hq j u⟩
theorem MS.below {w w1 : World} {b : Nat} {vd vm : Value} {ps qs : List Page} (h : MS w b vd vm ps qs) (hb : Below w.heap.size w w1) : MS w1 b vd vm ps qs:=by
  obtain ⟨okd,okm,h1,h2,h3⟩:=h
  exact ⟨okd,okm,h1,Kd.Bu h2 hb,Kd.Bu h3 hb⟩
theorem MS.mk2 {w5 w6 : World} {b : Nat} {vd vm : Value} {ps qs : List Page} (hd : EA w5 b vd ps) (hm : EA w6 w5.heap.size vm qs) (hb : Below w5.heap.size w5 w6) (hle : b ≤ w5.heap.size) : MS w6 b vd vm ps qs:=
  ⟨fun k => True ∧ k < w5.heap.size,fun k => w5.heap.size ≤ k,fun k h1 h2 => by omega,Kd.Ep hd hb,Kd.E8 (Kd.Dh (Kd.Dy hm) (fun k hk => hk.2.1)) hle⟩
theorem AU.Fe {w : World} {b g : Nat} {vd vm vl ud um ul : Value} {e q : Eng} (h : AU w b vd vm vl e) (hq : Ai w g q ud um ul) (j : Nat) (u : Value) : AU (w.setCell ⟨g,j,none⟩ u) b vd vm vl e:=h.set hq (by decide) (by decide) (by decide) j u
theorem Ec.far {w : World} {g : Nat} {e : Eng} {vd vm vl : Value} (h : Ec w g e vd vm vl) {b : Nat} (hne : b ≠ g) (j : Nat) (u : Value) : Ec (w.setCell ⟨b,j,none⟩ u) g e vd vm vl:=(Below.heap_setCell w ⟨b,j,none⟩ u g (Ne.symm hne)).trans h
end Go.Proofs.YtpjmlpmhgfghbaaGreat
namespace Go.Proofs.YtpjmlpmhgfghbaaGreat
open Go.RowKit Go.Proofs.YtpjmlpmhgfghbaaGreatW.PrintWords Go.Proofs.YtpjmlpmhgfghbaaGreatW.PrintLast Go.Proofs.YtpjmlpmhgfghbaaGreatW.PrintMore
theorem AU.SQ {w w1 : World} {base N : Nat} {vm vl u : Value} {e : Eng} {q : Page} {p g n cap : Nat} {okd okm : Nat → Prop} (hap : ∀ k,okd k → okm k → False) (hm : CB w base (fun k => okm k ∧ k < N) vm e.mem) (hl : OwnRs w base vl e.log) (hu : AR w N u q.vals)
    (hd : CB w1 base (fun k => okd k ∨ some k = u.ownBlock) (.slice (some ⟨g,0,none⟩) n cap) (e.disk.set p q)) (hdg : okd g) (hg : w.grownBy w1 (some g)) (hty : ∃ cells,w.heap[g]? = some (.cells cells 81 (0,0))) : AU w1 base (.slice (some ⟨g,0,none⟩) n cap) vm vl { e with disk:=e.disk.set p q }:=by
  refine ⟨⟨fun k => okd k ∨ some k = u.ownBlock,fun k => okm k ∧ k < N,fun k h1 h2 => ?_,hd,Kd.Tg hm hg (fun k hk e2 => ?_)⟩,?_⟩
  · rcases h1 with h1 | h1
    · exact hap k h1 h2.1
    · have:=Cc hu k h1.symm;omega
  · injection e2 with e2
    subst e2
    exact hap k hdg hk.1
  · refine Kd.Ej (Kd.PI (e':=81) (v:=.slice (some ⟨g,0,none⟩) n cap) hl (fun k hk => ?_) (fun q hq => ?_) hg) (fun _ _ => trivial)
    · simp only [Value.ownBlock,Option.some.injEq] at hk
      subst hk
      exact hty
    · have : q = 98:=by simpa [C8,Kd.iso,Kd.pair,Kd.int,Kd.scalar] using hq
      rw [this];decide
def X3 (w0 w : World) (g : Nat) (vd vm vl : Value) (e : Eng) (x : Ending) (w' : World) : Prop:=(∃ v,x = .returned v) ∧ Ai w' g e vd vm vl ∧ AU w' w0.heap.size vd vm vl e ∧ Below w0.heap.size w0 w' ∧ Kept w w' (fun k => k = g ∨ some k = vd.ownBlock)
set_option maxRecDepth 100000 in
set_option maxHeartbeats 16000000 in
theorem Mj {w0 w : World} {g : Nat} {vd vm vl : Value} {e : Eng} {p : Nat} (hp : p < 5) (hgd : geo e.disk) (hgm : geo e.mem) (hb : Below w0.heap.size w0 w) (hg : w0.heap.size ≤ g) (hq : Ai w g e vd vm vl) (ho : AU w w0.heap.size vd vm vl e) : Calls Tryz.prog 154 #[ptr g, .int .i64 (p : Int)] w (X3 w0 w g vd vm vl (CS e p)):=by
  have hgd5:=hgd.1
  have hgm5:=hgm.1
  obtain ⟨okd,okm, -, -,hpm⟩:=ho.ex
  obtain ⟨gm,capm,rfl, -, -⟩:=Cq hpm (by omega)
  have hpl : p < e.mem.length:=by omega
  obtain ⟨A2,c2,p0,p1,p2,pC, -⟩:=DC hpm p hpl
  have hp5i : (p : Int) < 5:=by omega
  have x1:=hq.c1
  have x3:=hq.c3
  have f3:=hq.frz 3
  have HQ:=As hq
  have HO:=As ho
  have HB:=As hb
  have HG:=As hg
  have HGD:=As hgd5
  have HGM:=As hgm
  clear hpm hq ho hb hg hgd p1 p2 pC
  go_enter Tryz.func154,Tryz.ntmps154
  go_wp2
  refine AX (fun lx a wx => Un 16 (fun wx => Below w.heap.size w wx) lx a wx ∧ Ys 16 (fun wx => ∃ wy,Below w.heap.size w wy ∧ wx = wy.setCell ⟨g,3,none⟩ (.int .i64 (max e.safe (pg e.mem p).lsn))) lx a wx) 17 rfl (by kernel_rfl) (⟨fun _ => Aj (Below.refl _ _),Gx⟩) (fun HT => ?_)
  refine Aq (i:=0) (v:=?_) 16 HT rfl (by kernel_rfl) (by kernel_rfl) rfl (kA (Af rfl) (Au rfl)) (by rfl) (fun _ _ _ h => h) (fun lx ax wx hK hS => ?_) ?_;rotate_left;(have hbx:=hS.1 hK;clear hS;replace x1:=bc hbx x1;replace x3:=bc hbx x3;replace p0:=bc hbx p0;go_simp;with_reducible rfl);rotate_left;simp only [sc0,sc1]
  refine Aq (i:=1) (v:=?_) 16 HT rfl (by kernel_rfl) (by kernel_rfl) rfl (kA (Af rfl) (Au rfl)) (by rfl) (fun _ _ _ h => h) (fun lx ax wx hK hS => ?_) ?_;rotate_left;(have hbx:=hS.1 hK;clear hS;replace x1:=bc hbx x1;replace x3:=bc hbx x3;replace p0:=bc hbx p0;go_simp;with_reducible rfl);rotate_left;simp only [sc0,sc1]
  refine Aq (i:=2) (v:=?_) 16 HT rfl (by kernel_rfl) (by kernel_rfl) rfl (kA (Af rfl) (Au rfl)) (by rfl) (fun _ _ _ h => h) (fun lx ax wx hK hS => ?_) ?_;rotate_left;(have hbx:=hS.1 hK;clear hS;replace x1:=bc hbx x1;replace x3:=bc hbx x3;replace p0:=bc hbx p0;go_simp;with_reducible rfl);rotate_left;simp only [sc0,sc1]
  refine Aq (i:=3) (v:=?_) 16 HT rfl (by kernel_rfl) (by kernel_rfl) rfl (kA (Af rfl) (Au rfl)) (by rfl) (fun _ _ _ h => h) (fun lx ax wx hK hS => ?_) ?_;rotate_left;(have hbx:=hS.1 hK;clear hS;replace x1:=bc hbx x1;replace x3:=bc hbx x3;replace p0:=bc hbx p0;go_simp;with_reducible rfl);rotate_left;simp only [sc0,sc1]
  refine Aq (i:=4) (v:=?_) 16 HT rfl (by kernel_rfl) (by kernel_rfl) rfl (kA (Af rfl) (Au rfl)) (by rfl) (fun _ _ _ h => h) (fun lx ax wx hK hS => ?_) ?_;rotate_left;(have hbx:=hS.1 hK;clear hS;replace x1:=bc hbx x1;replace x3:=bc hbx x3;replace p0:=bc hbx p0;go_simp;with_reducible rfl);rotate_left;simp only [sc0,sc1]
  refine Aq (i:=5) (v:=?_) 16 HT rfl (by kernel_rfl) (by kernel_rfl) rfl (kA (Af rfl) (Au rfl)) (by rfl) (fun _ _ _ h => h) (fun lx ax wx hK hS => ?_) ?_;rotate_left;(have hbx:=hS.1 hK;clear hS;replace x1:=bc hbx x1;replace x3:=bc hbx x3;replace p0:=bc hbx p0;go_simp;with_reducible rfl);rotate_left;simp only [sc0,sc1]
  refine Aq (i:=6) (v:=?_) 16 HT rfl (by kernel_rfl) (by kernel_rfl) rfl (kA (Af rfl) (Au rfl)) (by rfl) (fun _ _ _ h => h) (fun lx ax wx hK hS => ?_) ?_;rotate_left;(have hbx:=hS.1 hK;clear hS;replace x1:=bc hbx x1;replace x3:=bc hbx x3;replace p0:=bc hbx p0;go_simp;with_reducible rfl);rotate_left;simp only [sc0,sc1]
  refine Aq (i:=7) (v:=?_) 16 HT rfl (by kernel_rfl) (by kernel_rfl) rfl (kA (Af rfl) (Au rfl)) (by rfl) (fun _ _ _ h => h) (fun lx ax wx hK hS => ?_) ?_;rotate_left;(have hbx:=hS.1 hK;clear hS;replace x1:=bc hbx x1;replace x3:=bc hbx x3;replace p0:=bc hbx p0;go_simp;with_reducible rfl);rotate_left;simp only [sc0,sc1]
  refine Aq (i:=8) (v:=?_) 16 HT rfl (by kernel_rfl) (by kernel_rfl) rfl (kA (Af rfl) (Au rfl)) (by rfl) (fun _ _ _ h => h) (fun lx ax wx hK hS => ?_) ?_;rotate_left;(have hbx:=hS.1 hK;clear hS;replace x1:=bc hbx x1;replace x3:=bc hbx x3;replace p0:=bc hbx p0;go_simp;with_reducible rfl);rotate_left;simp only [sc0,sc1]
  refine Aq (i:=9) (v:=?_) 16 HT rfl (by kernel_rfl) (by kernel_rfl) rfl (kA (Af rfl) (Au rfl)) (by rfl) (fun _ _ _ h => h) (fun lx ax wx hK hS => ?_) ?_;rotate_left;(have hbx:=hS.1 hK;clear hS;replace x1:=bc hbx x1;replace x3:=bc hbx x3;replace p0:=bc hbx p0;go_simp;with_reducible rfl);rotate_left;simp only [sc0,sc1]
  refine Aq (i:=10) (v:=?_) 16 HT rfl (by kernel_rfl) (by kernel_rfl) rfl (kA (Af rfl) (Au rfl)) (by rfl) (fun _ _ _ h => h) (fun lx ax wx hK hS => ?_) ?_;rotate_left;(have hbx:=hS.1 hK;clear hS;replace x1:=bc hbx x1;replace x3:=bc hbx x3;replace p0:=bc hbx p0;go_simp;with_reducible rfl);rotate_left;simp only [sc0,sc1]
  refine Aq (i:=11) (v:=?_) 16 HT rfl (by kernel_rfl) (by kernel_rfl) rfl (kA (Af rfl) (Au rfl)) (by rfl) (fun _ _ _ h => h) (fun lx ax wx hK hS => ?_) ?_;rotate_left;(have hbx:=hS.1 hK;clear hS;replace x1:=bc hbx x1;replace x3:=bc hbx x3;replace p0:=bc hbx p0;go_simp;with_reducible rfl);rotate_left;simp only [sc0,sc1]
  refine Aq (i:=12) (v:=?_) 16 HT rfl (by kernel_rfl) (by kernel_rfl) rfl (kA (Af rfl) (Au rfl)) (by rfl) (fun _ _ _ h => h) (fun lx ax wx hK hS => ?_) ?_;rotate_left;(have hbx:=hS.1 hK;clear hS;replace x1:=bc hbx x1;replace x3:=bc hbx x3;replace p0:=bc hbx p0;go_simp;with_reducible rfl);rotate_left;simp only [sc0,sc1]
  refine Aq (i:=13) (v:=?_) 16 HT rfl (by kernel_rfl) (by kernel_rfl) rfl (kA (Af rfl) (Au rfl)) (by rfl) (fun _ _ _ h => h) (fun lx ax wx hK hS => ?_) ?_;rotate_left;(have hbx:=hS.1 hK;clear hS;replace x1:=bc hbx x1;replace x3:=bc hbx x3;replace p0:=bc hbx p0;go_simp;with_reducible rfl);rotate_left;simp only [sc0,sc1]
  refine Aq (i:=14) (v:=?_) 16 HT rfl (by kernel_rfl) (by kernel_rfl) rfl (kA (Af rfl) (Au rfl)) (by rfl) (fun _ _ _ h => h) (fun lx ax wx hK hS => ?_) ?_;rotate_left;(have hbx:=hS.1 hK;clear hS;replace x1:=bc hbx x1;replace x3:=bc hbx x3;replace p0:=bc hbx p0;go_simp;with_reducible rfl);rotate_left;simp only [sc0,sc1]
  refine Aq (i:=15) (v:=?_) 16 HT rfl (by kernel_rfl) (by kernel_rfl) rfl (kA (Af rfl) (Au rfl)) (by rfl) (fun _ _ _ h => h) (fun lx ax wx hK hS => ?_) ?_;rotate_left;(have hbx:=hS.1 hK;clear hS;replace x1:=bc hbx x1;replace x3:=bc hbx x3;replace p0:=bc hbx p0;go_simp;with_reducible rfl);rotate_left;simp only [sc0,sc1]
  refine AQ [16] (by kernel_rfl) (fun i hi wx hS => ?_)
  obtain rfl:=List.mem_singleton.1 hi
  clear hi
  have hbx:=hS.1 (by kernel_rfl)
  have q3:=bc hbx x3
  have f3':=(HQ.out.up hbx).frz 3
  refine Bh (w1:=wx.setCell ⟨g,3,none⟩ (.int .i64 (max e.safe (pg e.mem p).lsn))) rfl (by rfl) (by go_simp) ?_
  refine ⟨⟨fun h => (AA (by kernel_rfl) h).elim,fun _ => ⟨wx,hbx,rfl⟩⟩,?_⟩
  clear hS hbx q3 f3'
  refine DX (by kernel_rfl) (fun w3 hS => ?_)
  obtain ⟨wy,hbx,rfl⟩:=hS.2 (by kernel_rfl)
  obtain ⟨E,hE⟩ : ∃ E : Eng,{ e with safe:=max e.safe (pg e.mem p).lsn } = E:=⟨_,rfl⟩
  obtain ⟨w3,hw3⟩ : ∃ w3,wy.setCell ⟨g,3,none⟩ (.int .i64 (max e.safe (pg e.mem p).lsn)) = w3:=⟨_,rfl⟩
  have HQ3 : Ac (Ai w3 g E vd (.slice (some ⟨gm,0,none⟩) e.mem.length capm) vl):=⟨by rw [← hw3, ← hE];exact (HQ.out.up hbx).Cu _⟩
  have ho3 : AU w3 w0.heap.size vd (.slice (some ⟨gm,0,none⟩) e.mem.length capm) vl e:=by rw [← hw3];exact (HO.out.below hbx).Fe (HQ.out.up hbx) 3 _
  have HO3 : Ac (AU w3 w0.heap.size vd (.slice (some ⟨gm,0,none⟩) e.mem.length capm) vl E):=⟨by rw [← hE];exact ⟨ho3.ex,ho3.l⟩⟩
  have HB3 : Ac (Below w0.heap.size w0 w3):=⟨by rw [← hw3];exact (bj HB.out hbx).setCell (p:=⟨g,3,none⟩) HG.out _⟩
  have HK3 : Ac (Kept w w3 (fun k => k = g ∨ some k = vd.ownBlock)):=⟨by rw [← hw3];exact (Kept.of_below hbx _).setCell (p:=⟨g,3,none⟩) (.inl (.inl rfl)) _⟩
  have HED : Ac (E.disk.length = 5):=⟨by rw [← hE];exact hgd5⟩
  have HEM : Ac (geo E.mem):=⟨by rw [← hE];exact HGM.out⟩
  have HEL : Ac (CS e p = { E with disk:=E.disk.set p (pg E.mem p) }):=⟨by rw [← hE];rfl⟩
  have hlm : e.mem.length = E.mem.length:=by rw [← hE]
  have HLM:=As hlm
  rw [hw3]
  rw [hlm] at HQ3 HO3
  clear hS hbx x1 x3 f3 p0 ho3 hw3 hE HQ HO HB HGD HGM hgd5 hgm5 hgm hpl hlm
  obtain ⟨okd,okm,hap,hpd,hpm⟩:=HO3.out.ex
  have hpl : p < E.mem.length:=by rw [HEM.out.1];exact hp
  have hpd5 : p < E.disk.length:=by rw [HED.out];exact hp
  obtain ⟨gd,capd,rfl, -,hgdl⟩:=Cq hpd (by omega)
  obtain ⟨A2,c2,p0,p1,p2,pC, -⟩:=DC hpm p hpl
  have x0:=HQ3.out.c0
  have x1:=HQ3.out.c1
  have hm5 : E.mem.length = 5:=HEM.out.1
  have hd5 : E.disk.length = 5:=HED.out
  have HPM:=As hpm
  have HPD:=As hpd
  have HAP:=As hap
  have HC:=As pC
  have HGL:=As hgdl
  have HV3:=As (show (pg E.mem p).vals.length ≤ 17592186044416 by rw [G7 HEM.out hp];omega)
  obtain ⟨q,hqq⟩ : ∃ q,pg E.mem p = q:=⟨_,rfl⟩
  rw [hqq] at p0 p1 p2 HC HV3
  have HEL2 : Ac (CS e p = { E with disk:=E.disk.set p q }):=⟨by rw [HEL.out,hqq]⟩
  clear hap hpd hpm pC hgdl hqq HEL
  go_wp2
  refine AX (fun lx a wx => Below w3.heap.size w3 wx ∧ Sl 12 32 (fun v wx => ∃ u,v = q.own u ∧ AR wx w3.heap.size u q.vals) lx a wx) 14 rfl (by kernel_rfl) (⟨Aj (Below.refl _ _),AZ⟩) (fun HT => ?_)
  refine Ae (i:=0) (v:=?_) HT rfl (by kernel_rfl) rfl (kA Aa (Ab rfl rfl)) (by rfl) (fun _ _ _ h => h) (fun lx ax wx hS => ?_) ?_;rotate_left;(have hbx:=hS.1;clear hS;replace x0:=bc hbx x0;replace x1:=bc hbx x1;replace p0:=bc hbx p0;replace p1:=bc hbx p1;replace p2:=bc hbx p2;go_simp;with_reducible rfl);rotate_left;simp only [sc0,sc1]
  refine Ae (i:=1) (v:=?_) HT rfl (by kernel_rfl) rfl (kA Aa (Ab rfl rfl)) (by rfl) (fun _ _ _ h => h) (fun lx ax wx hS => ?_) ?_;rotate_left;(have hbx:=hS.1;clear hS;replace x0:=bc hbx x0;replace x1:=bc hbx x1;replace p0:=bc hbx p0;replace p1:=bc hbx p1;replace p2:=bc hbx p2;go_simp;with_reducible rfl);rotate_left;simp only [sc0,sc1]
  refine Ae (i:=2) (v:=?_) HT rfl (by kernel_rfl) rfl (kA Aa (Ab rfl rfl)) (by rfl) (fun _ _ _ h => h) (fun lx ax wx hS => ?_) ?_;rotate_left;(have hbx:=hS.1;clear hS;replace x0:=bc hbx x0;replace x1:=bc hbx x1;replace p0:=bc hbx p0;replace p1:=bc hbx p1;replace p2:=bc hbx p2;go_simp;with_reducible rfl);rotate_left;simp only [sc0,sc1]
  refine Ae (i:=3) (v:=?_) HT rfl (by kernel_rfl) rfl (kA Aa (Ab rfl rfl)) (by rfl) (fun _ _ _ h => h) (fun lx ax wx hS => ?_) ?_;rotate_left;(have hbx:=hS.1;clear hS;replace x0:=bc hbx x0;replace x1:=bc hbx x1;replace p0:=bc hbx p0;replace p1:=bc hbx p1;replace p2:=bc hbx p2;go_simp;with_reducible rfl);rotate_left;simp only [sc0,sc1]
  refine Ae (i:=4) (v:=?_) HT rfl (by kernel_rfl) rfl (kA Aa (Ab rfl rfl)) (by rfl) (fun _ _ _ h => h) (fun lx ax wx hS => ?_) ?_;rotate_left;(have hbx:=hS.1;clear hS;replace x0:=bc hbx x0;replace x1:=bc hbx x1;replace p0:=bc hbx p0;replace p1:=bc hbx p1;replace p2:=bc hbx p2;go_simp;with_reducible rfl);rotate_left;simp only [sc0,sc1]
  refine Ae (i:=5) (v:=?_) HT rfl (by kernel_rfl) rfl (kA Aa (Ab rfl rfl)) (by rfl) (fun _ _ _ h => h) (fun lx ax wx hS => ?_) ?_;rotate_left;(have hbx:=hS.1;clear hS;replace x0:=bc hbx x0;replace x1:=bc hbx x1;replace p0:=bc hbx p0;replace p1:=bc hbx p1;replace p2:=bc hbx p2;go_simp;with_reducible rfl);rotate_left;simp only [sc0,sc1]
  refine Ae (i:=6) (v:=?_) HT rfl (by kernel_rfl) rfl (kA Aa (Ab rfl rfl)) (by rfl) (fun _ _ _ h => h) (fun lx ax wx hS => ?_) ?_;rotate_left;(have hbx:=hS.1;clear hS;replace x0:=bc hbx x0;replace x1:=bc hbx x1;replace p0:=bc hbx p0;replace p1:=bc hbx p1;replace p2:=bc hbx p2;go_simp;with_reducible rfl);rotate_left;simp only [sc0,sc1]
  refine Ae (i:=7) (v:=?_) HT rfl (by kernel_rfl) rfl (kA Aa (Ab rfl rfl)) (by rfl) (fun _ _ _ h => h) (fun lx ax wx hS => ?_) ?_;rotate_left;(have hbx:=hS.1;clear hS;replace x0:=bc hbx x0;replace x1:=bc hbx x1;replace p0:=bc hbx p0;replace p1:=bc hbx p1;replace p2:=bc hbx p2;go_simp;with_reducible rfl);rotate_left;simp only [sc0,sc1]
  refine Ae (i:=8) (v:=?_) HT rfl (by kernel_rfl) rfl (kA Aa (Ab rfl rfl)) (by rfl) (fun _ _ _ h => h) (fun lx ax wx hS => ?_) ?_;rotate_left;(have hbx:=hS.1;clear hS;replace x0:=bc hbx x0;replace x1:=bc hbx x1;replace p0:=bc hbx p0;replace p1:=bc hbx p1;replace p2:=bc hbx p2;go_simp;with_reducible rfl);rotate_left;simp only [sc0,sc1]
  refine Ae (i:=9) (v:=?_) HT rfl (by kernel_rfl) rfl (kA Aa (Ab rfl rfl)) (by rfl) (fun _ _ _ h => h) (fun lx ax wx hS => ?_) ?_;rotate_left;(have hbx:=hS.1;clear hS;replace x0:=bc hbx x0;replace x1:=bc hbx x1;replace p0:=bc hbx p0;replace p1:=bc hbx p1;replace p2:=bc hbx p2;go_simp;with_reducible rfl);rotate_left;simp only [sc0,sc1]
  refine Ae (i:=10) (v:=?_) HT rfl (by kernel_rfl) rfl (kA Aa (Ab rfl rfl)) (by rfl) (fun _ _ _ h => h) (fun lx ax wx hS => ?_) ?_;rotate_left;(have hbx:=hS.1;clear hS;replace x0:=bc hbx x0;replace x1:=bc hbx x1;replace p0:=bc hbx p0;replace p1:=bc hbx p1;replace p2:=bc hbx p2;go_simp;with_reducible rfl);rotate_left;simp only [sc0,sc1]
  refine Ae (i:=11) (v:=?_) HT rfl (by kernel_rfl) rfl (kA Aa (Ab rfl rfl)) (by rfl) (fun _ _ _ h => h) (fun lx ax wx hS => ?_) ?_;rotate_left;(have hbx:=hS.1;clear hS;replace x0:=bc hbx x0;replace x1:=bc hbx x1;replace p0:=bc hbx p0;replace p1:=bc hbx p1;replace p2:=bc hbx p2;go_simp;with_reducible rfl);rotate_left;simp only [sc0,sc1]
  refine BR (i:=12) (f:=61) (args:=#[q.val A2 c2]) (fun v => ∃ u,v = q.own u) rfl (by kernel_rfl) rfl Tryz.func61 (by kernel_rfl) rfl rfl (by rfl) (by simp only [List.map_toArray,List.map_cons,List.map_nil];rfl) (fun wx hS => (Fy HV3.out hS.1 HC.out).mono (by rintro x w6 ⟨u,rfl,ho,hb⟩;exact ⟨_,rfl,⟨u,rfl⟩,bj hS.1 hb,fun _ => ⟨u,rfl,ho.lower hS.1.size⟩⟩)) (fun vx hg => ?_);simp only [sc0,sc1]
  obtain ⟨u,rfl⟩:=hg
  refine Ae (i:=13) (v:=?_) HT rfl (by kernel_rfl) rfl (kA Aa (Ab rfl rfl)) (by rfl) (fun _ _ _ h => h) (fun lx ax wx hS => ?_) ?_;rotate_left;(go_simp;with_reducible rfl);rotate_left;simp only [sc0,sc1]
  refine BQ (i:=14) (by kernel_rfl) rfl (fun wx hS => ?_)
  obtain ⟨h5x,h2⟩:=hS
  obtain ⟨u1,hu1,hown⟩:=h2 (by kernel_rfl)
  have hu1 : q.own u = q.own u1:=hu1
  obtain rfl : u = u1:=by simpa using hu1
  refine Es (ok:=okd) (w0:=w0) (N:=w3.heap.size) (q:=q) p rfl (.tmp 33) (.tmp 32) rfl (by rfl) rfl rfl rfl hown HB3.out.size (Kd.Ep HPD.out h5x) hpd5 (bj HB3.out h5x) (fun w8 hO8 hB8 hg8 => ?_)
  refine BB (by kernel_rfl) ?_
  have hm8:=Kd.Ep HPM.out h5x
  have hty:=Kd.EU (Kd.Bu HPD.out h5x) gd (by simp [Value.ownBlock])
  have he8:=AU.SQ (e:=E) HAP.out hm8 (Kd.Cm HO3.out.l h5x) hown hO8 (KZ HPD.out gd (by simp [Value.ownBlock])) hg8 hty
  have hq8 : Ai w8 g { E with disk:=E.disk.set p q } (.slice (some ⟨gd,0,none⟩) E.disk.length capd) (.slice (some ⟨gm,0,none⟩) E.mem.length capm) vl:=(hg8.block g (by have:=HQ3.out.lt;have:=h5x.size;omega) (fun e2 => by injection e2 with e2;exact Fw HQ3.out HPD.out e2)).trans (HQ3.out.up h5x)
  have hk8:=Kept.GJ hg8 (HK3.out.below h5x) (fun k hk => .inl (.inr (by rw [← hk];rfl)))
  have HX8:=As (And.intro hB8 (And.intro he8 (And.intro hq8 hk8)))
  clear h5x h2 hu1 hown hO8 hB8 hg8 hm8 hty he8 hq8 hk8 x0 x1 p0 p1 p2
  go_wp2
  have h1:=HX8.out.2.2.1
  have h2:=HX8.out.2.1
  have h4:=HX8.out.2.2.2
  rw [HED.out, ← HLM.out] at h1 h2
  exact bodyPost_ret (v:=.tuple #[]) (by simp [results,Tryz.results154,go_sem]) rfl ⟨⟨_,rfl⟩,by rw [HEL2.out];exact ⟨h1,h2,HX8.out.1,h4⟩⟩
theorem ME {l : List Rec} (hl : AP l = true) {n : Nat} (hn : n ≤ l.length) {p : Int} (h : EP l n p = true) : 0 ≤ p ∧ p < 5:=by
  rw [EP,List.any_eq_true] at h
  obtain ⟨m,hm,h1⟩:=h
  simp only [Bool.and_eq_true,beq_iff_eq] at h1
  have h2:=Eg n m hm
  have h3:=(AB hl (k:=m - 1) (by omega)).ok
  rw [D7] at h3
  omega
set_option maxRecDepth 100000 in
set_option maxHeartbeats 16000000 in
theorem QL {w0 w : World} {g gx : Nat} {e : Eng} {tx : Int} (hlog : AP e.log = true) (hl : e.log.length + 1 ≤ 150) (hgd : geo e.disk) (hgm : geo e.mem) (h : BO w0 w g e) (bx : Ci w0 gx (.int .i64 tx) 3) : Calls Tryz.prog 152 #[ptr g,ptr gx] w (Hy w0 g (DN e tx)):=by
  obtain ⟨⟨vd,vm,vl,hq,ho⟩,hb,hg⟩:=h
  obtain ⟨Ad,cd,Am,cm,Al,cl, -, -,rfl, -,hrd⟩:=ho.reads
  obtain ⟨okd,okm, -,hpd, -⟩:=ho.ex
  obtain ⟨gd,capd,hfd, -,hgdl⟩:=Cq hpd (by have:=hgd.1;omega)
  have HSL : Ac (∀ k,(k = g ∨ some k = vd.ownBlock) → k < w.heap.size):=⟨by
    rintro k (rfl | hk)
    · exact hq.lt
    · rw [hfd] at hk
      have : k = gd:=by simpa [Value.ownBlock] using hk
      omega⟩
  obtain ⟨zs,hzs⟩ : ∃ zs,Go.Lib.compact (FD (Bf e.log isLoad (BD e.log (Ao e.log tx e.log.length)))) = zs:=⟨_,rfl⟩
  have hmm : ∀ p : Int,p ∈ zs ↔ ld e.log tx e.log.length p = true:=fun p => by rw [← List.contains_iff_mem, ← hzs,Kl];rfl
  have HM:=As hmm
  have HRG : Ac (∀ p ∈ zs,0 ≤ p ∧ p < 5):=⟨fun p hp => ME hlog (Bb _ _ _) ((hmm p).1 hp)⟩
  have HCALL : Ac (∀ wx,Below w.heap.size w wx → Calls Tryz.prog 119 #[.slice Al e.log.length cl, .int .i64 tx, .func (.func 153) #[] #[]] wx (VR wx zs)):=⟨fun wx hb => hzs ▸ Nw tx hb hrd.l hlog⟩
  have x2:=hq.c2
  have y0:=bc hb bx.c0
  have HX:=As bx
  have HQ:=As hq
  have HO:=As ho
  have HB:=As hb
  have HG:=As hg
  have HGD:=As hgd
  have HGM:=As hgm
  have HL:=As hl
  have hzm : zs.length ≤ 150:=by
    rw [← hzs]
    refine Nat.le_trans (Go.Lib.compact_length_le _) ?_
    rw [FD,List.length_mergeSort,Bf,List.length_map]
    refine Nat.le_trans (List.length_filter_le _ _) ?_
    have h1:=GZ (l:=e.log) (Ao e.log tx e.log.length)
    have h2:=Bb e.log tx e.log.length
    omega
  clear hq ho hb hg hgd hgm hl hrd hpd hfd hgdl hzs hmm hlog bx
  go_enter Tryz.func152,Tryz.ntmps152
  go_wp2
  refine AX (fun lx a wx => Below w.heap.size w wx ∧ Sl 5 10 (fun v wx => ∃ A c,v = .slice A zs.length c ∧ ∀ W',Kept wx W' (fun k => k = g ∨ some k = vd.ownBlock) → Kd.C (Kd.int .i64) W' A zs.length zs) lx a wx) 8 rfl (by kernel_rfl) (⟨Aj (Below.refl _ _),AZ⟩) (fun HT => ?_)
  refine Ae (i:=0) (v:=?_) HT rfl (by kernel_rfl) rfl (kA Aa (Ab rfl rfl)) (by rfl) (fun _ _ _ h => h) (fun lx ax wx hS => ?_) ?_;rotate_left;(have hbx:=hS.1;clear hS;replace x2:=bc hbx x2;replace y0:=bc hbx y0;go_simp;with_reducible rfl);rotate_left;simp only [sc0,sc1]
  refine Ae (i:=1) (v:=?_) HT rfl (by kernel_rfl) rfl (kA Aa (Ab rfl rfl)) (by rfl) (fun _ _ _ h => h) (fun lx ax wx hS => ?_) ?_;rotate_left;(have hbx:=hS.1;clear hS;replace x2:=bc hbx x2;replace y0:=bc hbx y0;go_simp;with_reducible rfl);rotate_left;simp only [sc0,sc1]
  refine Ae (i:=2) (v:=?_) HT rfl (by kernel_rfl) rfl (kA Aa (Ab rfl rfl)) (by rfl) (fun _ _ _ h => h) (fun lx ax wx hS => ?_) ?_;rotate_left;(have hbx:=hS.1;clear hS;replace x2:=bc hbx x2;replace y0:=bc hbx y0;go_simp;with_reducible rfl);rotate_left;simp only [sc0,sc1]
  refine Ae (i:=3) (v:=?_) HT rfl (by kernel_rfl) rfl (kA Aa (Ab rfl rfl)) (by rfl) (fun _ _ _ h => h) (fun lx ax wx hS => ?_) ?_;rotate_left;(have hbx:=hS.1;clear hS;replace x2:=bc hbx x2;replace y0:=bc hbx y0;go_simp;with_reducible rfl);rotate_left;simp only [sc0,sc1]
  refine Ae (i:=4) (v:=?_) HT rfl (by kernel_rfl) rfl (kA Aa (Ab rfl rfl)) (by rfl) (fun _ _ _ h => h) (fun lx ax wx hS => ?_) ?_;rotate_left;(have hbx:=hS.1;clear hS;replace x2:=bc hbx x2;replace y0:=bc hbx y0;go_simp;with_reducible rfl);rotate_left;simp only [sc0,sc1]
  refine Ae (i:=7) (v:=?_) HT rfl (by kernel_rfl) rfl (kA Aa (Ab rfl rfl)) (by rfl) (fun _ _ _ h => h) (fun lx ax wx hS => ?_) ?_;rotate_left;(have hbx:=hS.1;clear hS;replace x2:=bc hbx x2;replace y0:=bc hbx y0;go_simp;with_reducible rfl);rotate_left;simp only [sc0,sc1]
  refine BR (i:=5) (f:=119) (args:=#[.slice Al e.log.length cl, .int .i64 tx, .func (.func 153) #[] #[]]) (fun v => ∃ A c,v = .slice A zs.length c) rfl (by kernel_rfl) rfl Tryz.func119 (by kernel_rfl) rfl rfl (by rfl) (by simp only [List.map_toArray,List.map_cons,List.map_nil];rfl) (fun wx hS => (HCALL.out wx hS.1).mono (by rintro x w6 ⟨A,c,rfl, -,hst,hb⟩;exact ⟨_,rfl,⟨A,c,rfl⟩,bj hS.1 hb,fun _ => ⟨A,c,rfl,hst _ (fun k hk => Nat.lt_of_lt_of_le (HSL.out k hk) hS.1.size)⟩⟩)) (fun vx hg => ?_);simp only [sc0,sc1]
  obtain ⟨A,c,rfl⟩:=hg
  refine Ae (i:=6) (v:=?_) HT rfl (by kernel_rfl) rfl (kA Aa (Ab rfl rfl)) (by rfl) (fun _ _ _ h => h) (fun lx ax wx hS => ?_) ?_;rotate_left;(go_simp;with_reducible rfl);rotate_left;simp only [sc0,sc1]
  refine DX (by kernel_rfl) (fun w5 hS => ?_)
  obtain ⟨hb5,h2⟩:=hS
  obtain ⟨A',c',e3,hst⟩:=h2 (by kernel_rfl)
  have e3 : Value.slice A zs.length c = .slice A' zs.length c':=e3
  injection e3 with e4
  subst e4
  have HB5:=As hb5
  have HST:=As hst
  clear hb5 h2 hst x2 y0
  go_wp2
  go_loopw [12] (fun i wr => ∃ k : Nat,k ≤ zs.length ∧ i = .int .i64 (k : Int) ∧ Ac (Ai wr g (Cy e (zs.take k)) vd vm (.slice Al e.log.length cl)) ∧ Ac (AU wr w0.heap.size vd vm (.slice Al e.log.length cl) (Cy e (zs.take k))) ∧ Ac (Below w0.heap.size w0 wr) ∧ Ac (Kept w5 wr (fun k => k = g ∨ some k = vd.ownBlock))) (fun i _ => (zs.length - intOf i).toNat)
  case atStart => exact ⟨0,Nat.zero_le _,rfl,⟨HQ.out.up HB5.out⟩,⟨HO.out.below HB5.out⟩,⟨bj HB.out HB5.out⟩,⟨Kept.refl _ _⟩⟩
  case round =>
    obtain ⟨k,hk,rfl,HQr,HOr,HBr,HKr⟩:=hrel
    by_cases hlt : k < zs.length
    · obtain ⟨ad,rfl,g0⟩:=Dk (HST.out wr HKr.out) k hlt
      have hmem : iv zs k ∈ zs:=by rw [iv,List.getD_eq_getElem?_getD,List.getElem?_eq_getElem hlt];exact List.getElem_mem hlt
      have hrg:=HRG.out _ hmem
      obtain ⟨p,hp⟩ : ∃ p : Nat,iv zs k = (p : Int):=⟨(iv zs k).toNat,by omega⟩
      rw [hp] at g0
      have HT : Ac (Cy e (zs.take (k + 1)) = CS (Cy e (zs.take k)) p):=⟨by rw [List.take_succ_eq_append_getElem hlt,KP,show zs[k] = iv zs k by rw [iv,List.getD_eq_getElem?_getD,List.getElem?_eq_getElem hlt];rfl,hp,Int.toNat_natCast]⟩
      have HP5 : Ac (p < 5):=⟨by omega⟩
      have HD2 : Ac (geo (Cy e (zs.take k)).disk):=⟨Mi _ _ HGD.out HGM.out (fun x hx => HRG.out x (List.mem_of_mem_take hx))⟩
      have HM2 : Ac (geo (Cy e (zs.take k)).mem):=⟨by rw [(EL _ _).1];exact HGM.out⟩
      clear hmem hrg hp
      go_wp2_with (go_at_call 154;refine (Mj HP5.out HD2.out HM2.out HBr.out HG.out HQr.out HOr.out).mono ?_;rintro x w6 ⟨⟨v,rfl⟩,hq6,ho6,hb6,hk6⟩;have HX6:=As (And.intro hq6 (And.intro ho6 (And.intro hb6 hk6)));clear hq6 ho6 hb6 hk6)
      go_roundw
      case rel => exact ⟨k + 1,by omega,by go_num,⟨by rw [HT.out];exact HX6.out.1⟩,⟨by rw [HT.out];exact HX6.out.2.1⟩,⟨HX6.out.2.2.1⟩,⟨HKr.out.CG HX6.out.2.2.2 (fun k hk => .inl hk)⟩⟩
      case measure => simp [intOf];omega
    · have hke : zs.take k = zs:=List.take_of_length_le (by omega)
      rw [hke] at HQr HOr
      obtain ⟨E,hE⟩ : ∃ E,Cy e zs = E:=⟨_,rfl⟩
      have hkp:=EL zs e
      have hdw:=ML (e:=e) (tx:=tx) (ps:=zs) HGD.out.1 (fun p _ => HM.out p) HRG.out
      rw [hE] at HQr HOr hkp hdw
      obtain ⟨l1,hl1⟩ : ∃ l1,E.log ++ [Dj ⟨4,tx,0,0,0,0,0,0⟩ (Ao E.log tx E.log.length)] = l1:=⟨_,rfl⟩
      have hll : l1.length = e.log.length + 1:=by rw [← hl1,hkp.2.1];simp
      have HFIN : Ac ({ E with log:=l1,safe:=(l1.length : Int) } = DN e tx):=⟨by
        rw [← hdw,hll]
        unfold Eng.app
        rw [if_neg (by simp [Cx]), ← hl1]
        rfl⟩
      have HL1:=As hl1
      have HEL : Ac (E.log.length ≤ 150):=⟨by rw [hkp.2.1];have:=HL.out;omega⟩
      have y0:=bc HBr.out HX.out.c0
      have hlg : (Value.slice Al e.log.length cl) = .slice Al E.log.length cl:=by rw [hkp.2.1]
      rw [hlg] at HQr HOr
      clear hE hkp hdw hl1 hll hke hlg
      go_wp2_with (go_at_call 111;go_loud (refine (K3 ⟨4,tx,0,0,0,0,0,0⟩ HEL.out HBr.out HG.out HQr.out HOr.out).mono ?_);go_loud (rw [show E.log ++ [Dj ⟨4,tx,0,0,0,0,0,0⟩ (Ao E.log (Rec.tx ⟨4,tx,0,0,0,0,0,0⟩) E.log.length)] = l1 from HL1.out]);rintro x w7 ⟨vl2,rfl,hq7,ho7,hb7, -⟩;obtain ⟨A7d,c7d,A7m,c7m,A7,c7,e7d,e7m,rfl, -, -⟩:=ho7.reads;have HQ7:=As hq7;have HO7:=As ho7;have HB7:=As hb7;have z2:=hq7.c2;have z3:=hq7.c3;have f3:=hq7.frz 3;clear hq7 ho7 hb7 y0)
      have ho8:=HO7.out.Fe HQ7.out 3 (.int .i64 (l1.length : Int))
      exact bodyPost_ret (v:=.tuple #[]) (by simp [results,Tryz.results152,go_sem]) rfl ⟨⟨_,rfl⟩,by rw [← HFIN.out];exact ⟨⟨_,_,_,HQ7.out.Cu (l1.length : Int),⟨ho8.ex,ho8.l⟩⟩,HB7.out.setCell (p:=⟨g,3,none⟩) HG.out _,HG.out⟩⟩
theorem Sb {w0 w : World} {e : Eng} {C : Nat → Page} {B : Nat} {Ad Am Al : Option Addr} {cd cm cl gx : Nat} (tx : Int) (hi : Inv e C B) (hB : B + 3 ≤ 150) (hcl : e.log.length ≤ cl) (hb : Below w0.heap.size w0 w) (hr : DF w0 e Ad Am Al) (bx : Ci w gx (.int .i64 tx) 3) : Calls Tryz.prog 151 #[e.val Ad Am Al cd cm cl, .int .i64 tx, .func (.func 152) #[] #[ptr gx]] w (CQ w (Cz e tx (DN e tx)).1 (Cz e tx (DN e tx)).2):=by
  refine K6 (X:=DN e tx) tx hi.ok hcl hb hr (fun hd hlast wb wx g hbw hg => ?_)
  have ht:=F9 hi.core.log hlast
  have hx:=hi.UW hd ht hlast
  exact QL hi.core.log (hx.TU (by simp [DN])) (Ay (Cv.2 ⟨hi.core.dlen,hi.core.dok⟩)) (Ay hi.Gb) hg (bx.up hbw)
set_option maxRecDepth 100000 in
set_option maxHeartbeats 16000000 in
theorem Oj {w0 w : World} {e : Eng} {C : Nat → Page} {B : Nat} {Ad Am Al : Option Addr} {cd cm cl : Nat} (tx : Int) (hi : Inv e C B) (hB : B + 3 ≤ 150) (hcl : e.log.length ≤ cl) (hb : Below w0.heap.size w0 w) (hr : DF w0 e Ad Am Al) : Calls Tryz.prog 85 #[e.val Ad Am Al cd cm cl, .int .i64 tx] w (CQ w (Cz e tx (DN e tx)).1 (Cz e tx (DN e tx)).2):=by
  obtain ⟨E,bb,hE⟩ : ∃ E bb,Cz e tx (DN e tx) = (E,bb):=⟨_,_,rfl⟩
  have HIN : Ac (∀ wx g_tx,Below w.heap.size w wx → Ci wx g_tx (.int .i64 tx) 3 → Calls Tryz.prog 151 #[e.val Ad Am Al cd cm cl, .int .i64 tx, .func (.func 152) #[] #[ptr g_tx]] wx (CQ wx E bb)):=⟨fun wx g_tx hbx b_tx => by
    have h:=Sb (cd:=cd) (cm:=cm) tx hi hB hcl (bj hb hbx) hr b_tx
    rw [hE] at h
    exact h⟩
  rw [hE]
  clear hi hb hr hE hcl hB
  go_enter Tryz.func85,Tryz.ntmps85
  go_wp2_with (first
    | (with_reducible refine Aw (vd:=.slice Ad e.disk.length cd) (vm:=.slice Am e.mem.length cm) (vl:=.slice Al e.log.length cl) e ?_;intro w1 hb1 hz1 hq1;clear hz1;have HB:=As hb1;have HQ:=As hq1;clear hb1 hq1)
    | (with_reducible refine Dn (t:=3) (.int .i64 tx) ?_;intro w2 hb1 hz1 hq1;clear hz1;replace HB:=As (bj HB.out hb1);replace HQ:=As (HQ.out.up hb1);have HC_tx:=As hq1;clear hb1 hq1)
    | (refine Aw (vd:=.slice none 0 0) (vm:=.slice none 0 0) (vl:=.slice none 0 0) zE ?_;intro w3 hb1 hz1 hq1;have HBG:=As HB.out.size;replace HB:=As (bj HB.out hb1);replace HQ:=As (HQ.out.up hb1);replace HC_tx:=As (HC_tx.out.up hb1);have HP:=As hq1;have HZ:=As hz1;have x0:=HQ.out.c0;have x1:=HQ.out.c1;have x2:=HQ.out.c2;have x3:=HQ.out.c3;have x4:=HQ.out.c4;have c_tx:=HC_tx.out.c0;clear hb1 hz1 hq1)
    | (go_at_call 151;refine (HIN.out w3 _ HB.out HC_tx.out).mono ?_;rintro x w4 ⟨vd,vm,vl,rfl,ho,hb2⟩;obtain ⟨Ed,n1,Em,n2,El,n3,rfl,rfl,rfl, -, -⟩:=ho.reads;have HO:=As ho;have HX:=As hb2;have hp:=HP.out.up hb2;have HP2:=As hp;have y0:=hp.c0;have y1:=hp.c1;have y2:=hp.c2;have y3:=hp.c3;have y4:=hp.c4;have f0:=hp.frz 0;have f1:=hp.frz 1;have f2:=hp.frz 2;have f3:=hp.frz 3;have f4:=hp.frz 4;clear hp hb2 ho x0 x1 x2 x3 x4 c_tx))
  have hy:=HP2.out.Az E (.slice Ed E.disk.length n1) (.slice Em E.mem.length n2) (.slice El E.log.length n3)
  have h1:=HO.out.Az (f:=E) (xd:=.slice Ed E.disk.length n1) (xm:=.slice Em E.mem.length n2) (xl:=.slice El E.log.length n3) HP2.out
  have hge:=HBG.out
  have hzz:=HZ.out
  have h2:=Ak (g:=w2.heap.size) (bj HB.out HX.out) hge E (.slice Ed E.disk.length n1) (.slice Em E.mem.length n2) (.slice El E.log.length n3)
  have z0:=hy.c0
  have z1:=hy.c1
  have z2:=hy.c2
  have z3:=hy.c3
  have z4:=hy.c4
  exact bodyPost_ret (v:=.tuple #[E.ag (.slice Ed E.disk.length n1) (.slice Em E.mem.length n2) (.slice El E.log.length n3), .bool bb]) (by simp [results,Tryz.results85,go_sem,z0,z1,z2,z3,z4]) rfl ⟨_,_,_,rfl,h1.lower (by omega),h2⟩
set_option maxRecDepth 100000 in
set_option maxHeartbeats 16000000 in
theorem K5 {w0 w : World} {e : Eng} {Ad Am Al : Option Addr} {cd cm cl : Nat} (tx : Int) {p3 : Value} {X : Eng} (hok : eOk e = true) (hcl : e.log.length ≤ cl) (hb : Below w0.heap.size w0 w) (hr : DF w0 e Ad Am Al)
    (hw : e.down = false → Ao e.log tx e.log.length ≠ 0 → ∀ wb wx g,Below w.heap.size w wb → BO wb wx g e → Calls Tryz.prog 155 #[ptr g,p3] wx (Hy wb g X)) : Calls Tryz.prog 151 #[e.val Ad Am Al cd cm cl, .int .i64 tx, .func (.func 155) #[] #[p3]] w (CQ w (Cz e tx X).1 (Cz e tx X).2):=by
  have HR:=As (hr.up hb)
  have HW:=As hw
  have HV:=As hok
  have HF:=As (Fh.1 hok)
  have HLG:=As (Bg HF.out.log)
  clear hr hb hw hok
  obtain ⟨w1,hw1⟩ : ∃ w1,w.alloc (e.obox (.slice Ad e.disk.length cd) (.slice Am e.mem.length cm) (.slice Al e.log.length cl)) = w1:=⟨_,rfl⟩
  obtain ⟨w2,hw2⟩ : ∃ w2,w1.alloc (zE.obox (.slice none 0 0) (.slice none 0 0) (.slice none 0 0)) = w2:=⟨_,rfl⟩
  have hz1 : w1.heap.size = w.heap.size + 1:=by rw [← hw1];exact BA _ _
  have hz2 : w2.heap.size = w.heap.size + 2:=by rw [← hw2,BA,hz1]
  have hb12 : Below w1.heap.size w1 w2:=by rw [← hw2];exact Ah (Below.refl _ _) _
  have HB2 : Ac (Below w.heap.size w w2):=⟨by rw [← hw2, ← hw1];exact Ah (Ah (Below.refl _ _) _) _⟩
  have HQ2 : Ac (Ai w2 w.heap.size e (.slice Ad e.disk.length cd) (.slice Am e.mem.length cm) (.slice Al e.log.length cl)):=⟨Ai.up (by rw [← hw1];exact Ai.mk1 _ _ _ _ _) hb12⟩
  have HP2 : Ac (Ai w2 (w.heap.size + 1) zE (.slice none 0 0) (.slice none 0 0) (.slice none 0 0)):=⟨by rw [← hw2, ← hz1];exact Ai.mk1 _ _ _ _ _⟩
  have HW2 : Ac ((w.alloc (e.obox (.slice Ad e.disk.length cd) (.slice Am e.mem.length cm) (.slice Al e.log.length cl))).alloc (zE.obox (.slice none 0 0) (.slice none 0 0) (.slice none 0 0)) = w2):=⟨by rw [hw1,hw2]⟩
  have HZ2:=As hz2
  clear hw1 hw2 hz1 hz2 hb12
  have x0:=HQ2.out.c0
  have x1:=HQ2.out.c1
  have x2:=HQ2.out.c2
  have x3:=HQ2.out.c3
  have x4:=HQ2.out.c4
  obtain ⟨n,hn⟩ : ∃ n : Nat,Ao e.log tx e.log.length = n:=⟨_,rfl⟩
  cases hdn : e.down
  rotate_left
  · rw [show Cz e tx X = (e,false) by rw [Cz,if_neg (by rw [hdn];simp)]]
    have HDN:=As hdn
    clear hdn hn
    go_enter Tryz.func151,Tryz.ntmps151
    go_wp2_with (first
      | (go_at_call 36;rw [show (w.alloc (Obj.cells #[Value.slice Ad e.disk.length cd,Value.slice Am e.mem.length cm,Value.slice Al e.log.length cl,Value.int IntKind.i64 e.safe,Value.bool e.down] 28)).alloc (Obj.cells #[Value.slice none 0 0,Value.slice none 0 0,Value.slice none 0 0,Value.int IntKind.i64 0,Value.bool false] 28) = w2 from HW2.out];refine (AL (cd:=cd) (cm:=cm) HV.out hcl HB2.out HR.out).mono ?_;rintro x w3 ⟨rfl,hb3⟩;have HX3:=As hb3;replace x0:=bc hb3 x0;replace x1:=bc hb3 x1;replace x2:=bc hb3 x2;replace x3:=bc hb3 x3;replace x4:=bc hb3 x4;clear hb3)
      | (go_at_call 38;refine (AV (cd:=cd) (cm:=cm) (cl:=cl) (Ay HF.out.disk) (Ay HF.out.mem) HLG.out (bj HB2.out HX3.out) HR.out).mono ?_;rintro x w4 ⟨vd,vm,vl,rfl,ho,hb4⟩;obtain ⟨Bd,dd,Bm,dm,Bl,dl,rfl,rfl,rfl, -,hc⟩:=ho.reads;have HO4:=As ho;have HC4:=As hc;have HX4:=As hb4;clear ho hb4 hc x0 x1 x2 x3 x4)
      | (refine Aw (vd:=.slice Bd e.disk.length dd) (vm:=.slice Bm e.mem.length dm) (vl:=.slice Bl e.log.length dl) e ?_;intro w5 hb5 _ hq5;have q0:=hq5.c0;have q1:=hq5.c1;have q2:=hq5.c2;have q3:=hq5.c3;have q4:=hq5.c4;rw [HDN.out] at q4;have HO7:=As (HO4.out.below hb5);have HX7:=As (bj HX4.out hb5);have hp:=HP2.out.up (bj HX3.out HX7.out);have HP7:=As hp;have y0:=hp.c0;have y1:=hp.c1;have y2:=hp.c2;have y3:=hp.c3;have y4:=hp.c4;have f0:=hp.frz 0;have f1:=hp.frz 1;have f2:=hp.frz 2;have f3:=hp.frz 3;have f4:=hp.frz 4;clear hp;clear hb5 hq5))
    have hz:=HZ2.out
    have hn3:=HX3.out.size
    have hy:=HP7.out.Az ⟨e.disk,e.mem,e.log,e.safe,true⟩ (.slice Bd e.disk.length dd) (.slice Bm e.mem.length dm) (.slice Bl e.log.length dl)
    have h1:=HO7.out.Az (f:=⟨e.disk,e.mem,e.log,e.safe,true⟩) (xd:=.slice Bd e.disk.length dd) (xm:=.slice Bm e.mem.length dm) (xl:=.slice Bl e.log.length dl) HP7.out
    have h2:=Ak (g:=w.heap.size + 1) (bj HB2.out (bj HX3.out HX7.out)) (by omega) ⟨e.disk,e.mem,e.log,e.safe,true⟩ (.slice Bd e.disk.length dd) (.slice Bm e.mem.length dm) (.slice Bl e.log.length dl)
    have z0:=hy.c0
    have z1:=hy.c1
    have z2:=hy.c2
    have z3:=hy.c3
    have z4:=hy.c4
    simp only at z0 z1 z2 z3 z4
    exact bodyPost_ret (v:=.tuple #[.agg #[.slice Bd e.disk.length dd, .slice Bm e.mem.length dm, .slice Bl e.log.length dl, .int .i64 e.safe, .bool true], .bool false]) (by simp [results,Tryz.results151,go_sem,z0,z1,z2,z3,z4]) rfl ⟨.slice Bd e.disk.length dd, .slice Bm e.mem.length dm, .slice Bl e.log.length dl,by unfold Eng.ag;rw [HDN.out],h1.lower (by omega),h2⟩
  have HDN:=As hdn
  have HLN:=As hn
  clear hdn hn
  rcases n with _ | n
  · rw [show Cz e tx X = (e,false) by rw [Cz,if_neg (by rw [HLN.out];simp)]]
    go_enter Tryz.func151,Tryz.ntmps151
    go_wp2_with (first
      | (go_at_call 36;rw [show (w.alloc (Obj.cells #[Value.slice Ad e.disk.length cd,Value.slice Am e.mem.length cm,Value.slice Al e.log.length cl,Value.int IntKind.i64 e.safe,Value.bool e.down] 28)).alloc (Obj.cells #[Value.slice none 0 0,Value.slice none 0 0,Value.slice none 0 0,Value.int IntKind.i64 0,Value.bool false] 28) = w2 from HW2.out];refine (AL (cd:=cd) (cm:=cm) HV.out hcl HB2.out HR.out).mono ?_;rintro x w3 ⟨rfl,hb3⟩;have HX3:=As hb3;replace x0:=bc hb3 x0;replace x1:=bc hb3 x1;replace x2:=bc hb3 x2;replace x3:=bc hb3 x3;replace x4:=bc hb3 x4;clear hb3)
      | (go_at_call 38;refine (AV (cd:=cd) (cm:=cm) (cl:=cl) (Ay HF.out.disk) (Ay HF.out.mem) HLG.out (bj HB2.out HX3.out) HR.out).mono ?_;rintro x w4 ⟨vd,vm,vl,rfl,ho,hb4⟩;obtain ⟨Bd,dd,Bm,dm,Bl,dl,rfl,rfl,rfl, -,hc⟩:=ho.reads;have HO4:=As ho;have HC4:=As hc;have HX4:=As hb4;clear ho hb4 hc x0 x1 x2 x3 x4)
      | (refine Aw (vd:=.slice Bd e.disk.length dd) (vm:=.slice Bm e.mem.length dm) (vl:=.slice Bl e.log.length dl) e ?_;intro w5 hb5 _ hq5;have q0:=hq5.c0;have q1:=hq5.c1;have q2:=hq5.c2;have q3:=hq5.c3;have q4:=hq5.c4;rw [HDN.out] at q4;have HC5:=As (HC4.out.up hb5);have HO5:=As (HO4.out.below hb5);have HX5:=As (bj HX4.out hb5);have HG5 : Ac (BO w3 w5 w4.heap.size e):=⟨⟨⟨_,_,_,hq5,HO4.out.below hb5⟩,bj HX4.out hb5,HX4.out.size⟩⟩;clear hb5 hq5)
      | (go_at_call 107;refine (Gp (w0:=w5) (c:=dl) HLN.out (Below.refl _ _) HC5.out.l).mono ?_;rintro x w6 ⟨rfl,hb6⟩;replace q0:=bc hb6 q0;replace q1:=bc hb6 q1;replace q2:=bc hb6 q2;replace q3:=bc hb6 q3;replace q4:=bc hb6 q4;have HX7:=As (bj HX5.out hb6);have HO7:=As (HO5.out.below hb6);have hp:=HP2.out.up (bj HX3.out HX7.out);have HP7:=As hp;have y0:=hp.c0;have y1:=hp.c1;have y2:=hp.c2;have y3:=hp.c3;have y4:=hp.c4;have f0:=hp.frz 0;have f1:=hp.frz 1;have f2:=hp.frz 2;have f3:=hp.frz 3;have f4:=hp.frz 4;clear hp;clear hb6))
    have hz:=HZ2.out
    have hn3:=HX3.out.size
    have hy:=HP7.out.Az ⟨e.disk,e.mem,e.log,e.safe,false⟩ (.slice Bd e.disk.length dd) (.slice Bm e.mem.length dm) (.slice Bl e.log.length dl)
    have h1:=HO7.out.Az (f:=⟨e.disk,e.mem,e.log,e.safe,false⟩) (xd:=.slice Bd e.disk.length dd) (xm:=.slice Bm e.mem.length dm) (xl:=.slice Bl e.log.length dl) HP7.out
    have h2:=Ak (g:=w.heap.size + 1) (bj HB2.out (bj HX3.out HX7.out)) (by omega) ⟨e.disk,e.mem,e.log,e.safe,false⟩ (.slice Bd e.disk.length dd) (.slice Bm e.mem.length dm) (.slice Bl e.log.length dl)
    have z0:=hy.c0
    have z1:=hy.c1
    have z2:=hy.c2
    have z3:=hy.c3
    have z4:=hy.c4
    simp only at z0 z1 z2 z3 z4
    exact bodyPost_ret (v:=.tuple #[.agg #[.slice Bd e.disk.length dd, .slice Bm e.mem.length dm, .slice Bl e.log.length dl, .int .i64 e.safe, .bool false], .bool false]) (by simp [results,Tryz.results151,go_sem,z0,z1,z2,z3,z4]) rfl ⟨.slice Bd e.disk.length dd, .slice Bm e.mem.length dm, .slice Bl e.log.length dl,by unfold Eng.ag;rw [HDN.out],h1.lower (by omega),h2⟩
  · have HNZ : Ac (Ao e.log tx e.log.length ≠ 0):=⟨by rw [HLN.out];omega⟩
    rw [show Cz e tx X = (X,true) by rw [Cz,if_pos ⟨HDN.out,HNZ.out⟩]]
    have hn0 : ¬ ((n + 1 : Nat) : Int) = 0:=by omega
    go_enter Tryz.func151,Tryz.ntmps151
    go_wp2_with (first
      | (go_at_call 36;rw [show (w.alloc (Obj.cells #[Value.slice Ad e.disk.length cd,Value.slice Am e.mem.length cm,Value.slice Al e.log.length cl,Value.int IntKind.i64 e.safe,Value.bool e.down] 28)).alloc (Obj.cells #[Value.slice none 0 0,Value.slice none 0 0,Value.slice none 0 0,Value.int IntKind.i64 0,Value.bool false] 28) = w2 from HW2.out];refine (AL (cd:=cd) (cm:=cm) HV.out hcl HB2.out HR.out).mono ?_;rintro x w3 ⟨rfl,hb3⟩;have HX3:=As hb3;replace x0:=bc hb3 x0;replace x1:=bc hb3 x1;replace x2:=bc hb3 x2;replace x3:=bc hb3 x3;replace x4:=bc hb3 x4;clear hb3)
      | (go_at_call 38;refine (AV (cd:=cd) (cm:=cm) (cl:=cl) (Ay HF.out.disk) (Ay HF.out.mem) HLG.out (bj HB2.out HX3.out) HR.out).mono ?_;rintro x w4 ⟨vd,vm,vl,rfl,ho,hb4⟩;obtain ⟨Bd,dd,Bm,dm,Bl,dl,rfl,rfl,rfl, -,hc⟩:=ho.reads;have HO4:=As ho;have HC4:=As hc;have HX4:=As hb4;clear ho hb4 hc x0 x1 x2 x3 x4)
      | (refine Aw (vd:=.slice Bd e.disk.length dd) (vm:=.slice Bm e.mem.length dm) (vl:=.slice Bl e.log.length dl) e ?_;intro w5 hb5 _ hq5;have q0:=hq5.c0;have q1:=hq5.c1;have q2:=hq5.c2;have q3:=hq5.c3;have q4:=hq5.c4;rw [HDN.out] at q4;have HC5:=As (HC4.out.up hb5);have HO5:=As (HO4.out.below hb5);have HX5:=As (bj HX4.out hb5);have HG5 : Ac (BO w3 w5 w4.heap.size e):=⟨⟨⟨_,_,_,hq5,HO4.out.below hb5⟩,bj HX4.out hb5,HX4.out.size⟩⟩;clear hb5 hq5)
      | (go_at_call 107;refine (Gp (w0:=w5) (c:=dl) HLN.out (Below.refl _ _) HC5.out.l).mono ?_;rintro x w6 ⟨rfl,hb6⟩;have HG6:=As (HG5.out.up hb6);clear hb6 q0 q1 q2 q3 q4)
      | (go_at_call 155;refine (HW.out HDN.out HNZ.out w3 w6 w4.heap.size (bj HB2.out HX3.out) HG6.out).mono ?_;rintro x w8 ⟨⟨v,rfl⟩,hg8⟩;obtain ⟨ud,um,ul,hq,ho⟩:=hg8.ex;obtain ⟨Ed,n1,Em,n2,El,n3,rfl,rfl,rfl, -, -⟩:=ho.reads;have HO7:=As ho;have HX7:=As hg8.bel;have q0:=hq.c0;have q1:=hq.c1;have q2:=hq.c2;have q3:=hq.c3;have q4:=hq.c4;have hp:=HP2.out.up (bj HX3.out HX7.out);have HP7:=As hp;have y0:=hp.c0;have y1:=hp.c1;have y2:=hp.c2;have y3:=hp.c3;have y4:=hp.c4;have f0:=hp.frz 0;have f1:=hp.frz 1;have f2:=hp.frz 2;have f3:=hp.frz 3;have f4:=hp.frz 4;clear hp;clear hq ho hg8))
    have hz:=HZ2.out
    have hn3:=HX3.out.size
    have hy:=HP7.out.Az X (.slice Ed X.disk.length n1) (.slice Em X.mem.length n2) (.slice El X.log.length n3)
    have h1:=HO7.out.Az (f:=X) (xd:=.slice Ed X.disk.length n1) (xm:=.slice Em X.mem.length n2) (xl:=.slice El X.log.length n3) HP7.out
    have h2:=Ak (g:=w.heap.size + 1) (bj HB2.out (bj HX3.out HX7.out)) (by omega) X (.slice Ed X.disk.length n1) (.slice Em X.mem.length n2) (.slice El X.log.length n3)
    have z0:=hy.c0
    have z1:=hy.c1
    have z2:=hy.c2
    have z3:=hy.c3
    have z4:=hy.c4
    exact bodyPost_ret (v:=.tuple #[X.ag (.slice Ed X.disk.length n1) (.slice Em X.mem.length n2) (.slice El X.log.length n3), .bool true]) (by simp [results,Tryz.results151,go_sem,z0,z1,z2,z3,z4]) rfl ⟨.slice Ed X.disk.length n1, .slice Em X.mem.length n2, .slice El X.log.length n3,rfl,h1.lower (by omega),h2⟩
theorem U2 {r : Rec} (h : CU r = true) (hc : Cx r.kind = true) : 0 ≤ r.page ∧ r.page < 5:=by
  have:=GY h hc
  omega
set_option maxRecDepth 100000 in
set_option maxHeartbeats 16000000 in
theorem Nk {w0 w : World} {g : Nat} {e : Eng} {tx : Int} (hs : J6 e tx) (h : BO w0 w g e) : Calls Tryz.prog 48 #[ptr g, .int .i64 tx] w (Hy w0 g (Bo e tx)):=by
  obtain ⟨⟨vd,vm,vl,hq,ho⟩,hb,hg⟩:=h
  obtain ⟨Ad,cd,Am,cm,Al,cl,rfl,rfl,rfl, -,hrd⟩:=ho.reads
  have hlg:=Bg hs.log
  have hl1:=hs.Vu
  obtain ⟨ln,hln⟩ : ∃ ln : Nat,Ao e.log tx e.log.length = ln:=⟨_,rfl⟩
  have hlnl : ln ≤ e.log.length:=by rw [← hln];exact Bb _ _ _
  obtain ⟨k,hk⟩ : ∃ k : Nat,Bt e.log ln = k:=⟨_,rfl⟩
  have hkl : k ≤ e.log.length:=by rw [← hk];exact Nat.le_trans Gz hlnl
  have HS:=As hs
  have HQ:=As hq
  have HO:=As ho
  have HB:=As hb
  have HG:=As hg
  have HC:=As hrd
  have HLN:=As hln
  have HLL:=As hlnl
  have HK:=As hk
  have HNX : Ac (Du e tx = if k = 0 then ⟨5,tx,0,0,0,0,0,0⟩ else Bq (rc e.log (k - 1)) 0):=⟨by unfold Du;rw [show lastT e tx = ln from hln,hk]⟩
  have x2:=hq.c2
  clear hs hq ho hb hg hrd hln hlnl hk hlg
  have hcu : ∀ wx,Below w.heap.size w wx → Calls Tryz.prog 108 #[.slice Al e.log.length cl, .int .i64 ln] wx fun x w' => x = .returned (.int .i64 k) ∧ Below w.heap.size w w':=fun wx hb => by
    have:=IG (c:=cl) HLL.out hb HC.out.l HS.out.log
    rw [HK.out] at this
    exact this
  have HCU:=As hcu
  clear hcu
  go_enter Tryz.func48,Tryz.ntmps48
  go_wp2
  refine Bj (fun w' => Below w.heap.size w w') rfl rfl (by kernel_rfl) (Aj (Below.refl _ _)) (fun HT => ?_)
  repeat (first
    | (refine BX (fun wx hS => ?_))
    | ((with_reducible refine BI (f:=107) rfl ?_);refine BJ (v:=.int .i64 ln) (args:=#[.slice Al e.log.length cl, .int .i64 tx]) HT rfl Tryz.func107 (by kernel_rfl) rfl rfl (by rfl) (fun _ _ _ h => h) (by simp only [List.map_toArray,List.map_cons,List.map_nil];rfl) (fun wx hS => (Gp (c:=cl) HLN.out hS HC.out.l).mono fun _ _ h => ⟨h.1,bj hS h.2⟩) ?_;simp only [sc0,sc1])
    | ((with_reducible refine BI (f:=108) rfl ?_);refine BJ (v:=.int .i64 k) (args:=#[.slice Al e.log.length cl, .int .i64 ln]) HT rfl Tryz.func108 (by kernel_rfl) rfl rfl (by rfl) (fun _ _ _ h => h) (by simp only [List.map_toArray,List.map_cons,List.map_nil];rfl) (fun wx hS => HCU.out wx hS) ?_;simp only [sc0,sc1])
    | (refine BH HT rfl (by rfl) (fun _ _ _ h => h) ?_;simp only [sc0,sc1])
    | (refine BV (v:=?_) HT rfl (by rfl) (fun _ _ _ h => h) (fun wx hS => ?_) ?_;rotate_left;(have x2:=bc hS x2;go_simp;with_reducible rfl);rotate_left;simp only [sc0,sc1]))
  have HX:=As hS
  have hq3:=HQ.out.up hS
  have x2:=hq3.c2
  clear hS hq3
  rcases k with _ | k
  · have hE : Bo e tx = { e with log:=e.log ++ [Dj ⟨5,tx,0,0,0,0,0,0⟩ (Ao e.log tx e.log.length)] }:=by
      unfold Bo
      rw [HNX.out,if_pos rfl]
      unfold Eng.app
      rw [if_neg (by simp [Cx])]
      rfl
    have HE:=As hE
    clear hE
    go_wp2_with (go_at_call 111;refine (K3 ⟨5,tx,0,0,0,0,0,0⟩ (by omega) (bj HB.out HX.out) HG.out (HQ.out.up HX.out) (HO.out.below HX.out)).mono ?_;rintro x w4 ⟨vl2,rfl,hq4,ho4,hb4, -⟩;have HX4:=As (And.intro hq4 (And.intro ho4 hb4));clear hq4 ho4 hb4)
    exact bodyPost_ret (v:=.tuple #[]) (by simp [results,Tryz.results48,go_sem]) rfl ⟨⟨_,rfl⟩,by rw [HE.out];exact ⟨⟨_,_,_,HX4.out.1,HX4.out.2.1⟩,HX4.out.2.2,HG.out⟩⟩
  · have hkk : k < e.log.length:=by omega
    obtain ⟨ad,rfl,QR⟩:=Cb (HC.out.l) k hkk
    obtain ⟨z0,z1,z2,z3,z4,z5,z6,z7⟩:=QR.up HX.out
    obtain ⟨rb,hrb⟩ : ∃ rb,Bq (rc e.log k) 0 = rb:=⟨_,rfl⟩
    have hnx : Du e tx = rb:=by rw [HNX.out,if_neg (by omega),Nat.add_sub_cancel,hrb]
    have hkd : Cx rb.kind = true:=by rw [← hrb];rfl
    have hst : CO e tx = Dj rb (Ao e.log rb.tx e.log.length):=by unfold CO;rw [hnx];rfl
    have hmay:=HS.out.may (by rw [hst];exact hkd)
    rw [hst] at hmay
    have hpr : 0 ≤ rb.page ∧ rb.page < 5:=by
      have h1:=hmay
      simp only [Ff,Bool.and_eq_true] at h1
      exact U2 (r:=Dj rb (Ao e.log rb.tx e.log.length)) h1.2.1 hkd
    have hE : Bo e tx = e.app rb:=by unfold Bo;rw [hnx]
    have HE:=As hE
    have HRB:=As hrb
    have HMAY:=As hmay
    have HPR:=As hpr
    have hwr0 : IntKind.i64.wrap (k : Int) = (k : Int):=by simp (disch:=omega) only [IntWalk.i64_in]
    have hwr1 : IntKind.i64.wrap ((k : Int) + 1 - 1) = (k : Int):=by rw [show ((k : Int) + 1 - 1) = (k : Int) by omega];exact hwr0
    have hwr2 : IntKind.i64.wrap (((k + 1 : Nat) : Int) - 1) = (k : Int):=by rw [show (((k + 1 : Nat) : Int) - 1) = (k : Int) by omega];exact hwr0
    have hEg:=As (BO.up ⟨⟨_,_,_,HQ.out,HO.out⟩,HB.out,HG.out⟩ HX.out)
    clear hE hrb hmay hpr QR hnx hkd hst
    go_wp2_with (first
      | (go_at_call 110;refine (NP (rc e.log k) 0 _).mono ?_;rw [HRB.out];rintro x w4 ⟨rfl,hb4⟩;have HG4:=As (hEg.out.up hb4);clear hb4)
      | (go_at_call 109;refine (JI rb (by omega) HS.out.geo HPR.out HMAY.out HG4.out).mono ?_;rintro x w5 ⟨⟨v,rfl⟩,hg5⟩;have HG5:=As hg5;clear hg5))
    exact bodyPost_ret (v:=.tuple #[]) (by simp [results,Tryz.results48,go_sem]) rfl ⟨⟨_,rfl⟩,by rw [HE.out];exact HG5.out⟩
def Gc (w : World) (g : Nat) : Nat:=match w.cell? ⟨g,2,none⟩ with
  | some (.slice _ n _) => n
  | _ => 0
theorem BO.Gc {w0 w : World} {g : Nat} {e : Eng} (h : BO w0 w g e) : Go.Proofs.YtpjmlpmhgfghbaaGreat.Gc w g = e.log.length:=by
  obtain ⟨⟨vd,vm,vl,hq,ho⟩, -, -⟩:=h
  obtain ⟨Ad,cd,Am,cm,Al,cl, -, -,rfl, -, -⟩:=ho.reads
  unfold Go.Proofs.YtpjmlpmhgfghbaaGreat.Gc
  rw [hq.c2]
set_option maxRecDepth 100000 in
set_option maxHeartbeats 16000000 in
theorem PV {w0 w : World} {g gx k : Nat} {e : Eng} {tx : Int} (hu : MQ tx k e) (h : BO w0 w g e) (bx : Ci w0 gx (.int .i64 tx) 3) : Calls Tryz.prog 155 #[ptr g,ptr gx] w (Hy w0 g (Jb tx k e)):=by
  have HU:=As hu
  have HG:=As h
  have HX:=As bx
  obtain ⟨X,hX⟩ : ∃ X,Jb tx k e = X:=⟨_,rfl⟩
  have HXX:=As hX
  rw [hX]
  clear hu h bx hX
  go_enter Tryz.func155,Tryz.ntmps155
  go_wp2
  go_loopw [] (fun wr => ∃ (j : Nat) (x : Eng),Ac (BO w0 wr g x) ∧ Ac (MQ tx j x ∧ Jb tx j x = X)) (fun wr => 151 - Gc wr g)
  case atStart => exact ⟨k,e,HG,⟨HU.out,HXX.out⟩⟩
  case round =>
    obtain ⟨j,x,HE,HJ⟩:=hrel
    obtain ⟨⟨vd,vm,vl,hq,ho⟩, -, -⟩:=HE.out
    obtain ⟨Ad,cd,Am,cm,Al,cl,rfl,rfl,rfl, -,hrd⟩:=ho.reads
    have x2:=hq.c2
    have y0:=bc HE.out.bel HX.out.c0
    have HC:=As hrd
    obtain ⟨n,hn⟩ : ∃ n : Nat,Ao x.log tx x.log.length = n:=⟨_,rfl⟩
    have HN:=As hn
    clear hq ho hrd hn
    rcases j with _ | j
    · have hn0 : n = 0:=by rw [← HN.out];exact HJ.out.1.1
      have HXE : Ac (x = X):=⟨HJ.out.2⟩
      subst hn0
      go_wp2
      refine Bj (fun w' => Below wr.heap.size wr w') rfl rfl (by kernel_rfl) (Aj (Below.refl _ _)) (fun HT => ?_)
      repeat (first
        | (refine BX (fun wx hS => ?_))
        | ((with_reducible refine BI (f:=107) rfl ?_);refine BJ (v:=.int .i64 ((0 : Nat) : Int)) (args:=#[.slice Al x.log.length cl, .int .i64 tx]) HT rfl Tryz.func107 (by kernel_rfl) rfl rfl (by rfl) (fun _ _ _ h => h) (by simp only [List.map_toArray,List.map_cons,List.map_nil];rfl) (fun wx hS => (Gp (w0:=wr) (c:=cl) HN.out hS HC.out.l).mono fun _ _ h => ⟨h.1,bj hS h.2⟩) ?_;simp only [sc0,sc1])
        | (refine BH HT rfl (by rfl) (fun _ _ _ h => h) ?_;simp only [sc0,sc1])
        | (refine BV (v:=?_) HT rfl (by rfl) (fun _ _ _ h => h) (fun wx hS => ?_) ?_;rotate_left;(have x2:=bc hS x2;have y0:=bc hS y0;go_simp;with_reducible rfl);rotate_left;simp only [sc0,sc1]))
      have HS:=As hS
      clear hS x2 y0
      go_wp2
      exact bodyPost_ret (v:=.tuple #[]) (by simp [results,Tryz.results155,go_sem]) rfl ⟨⟨_,rfl⟩,by rw [← HXE.out];exact HE.out.up HS.out⟩
    · have hn0 : ¬ (n : Int) = 0:=by have h:=HJ.out.1.1;have h2:=HN.out;intro h3;exact h (h2.trans (by omega))
      have HST:=As HJ.out.1.2.1
      have HNX : Ac (MQ tx j (Bo x tx) ∧ Jb tx j (Bo x tx) = X):=⟨HJ.out.1.2.2,HJ.out.2⟩
      go_wp2
      refine Bj (fun w' => Below wr.heap.size wr w') rfl rfl (by kernel_rfl) (Aj (Below.refl _ _)) (fun HT => ?_)
      repeat (first
        | (refine BX (fun wx hS => ?_))
        | ((with_reducible refine BI (f:=107) rfl ?_);refine BJ (v:=.int .i64 (n : Int)) (args:=#[.slice Al x.log.length cl, .int .i64 tx]) HT rfl Tryz.func107 (by kernel_rfl) rfl rfl (by rfl) (fun _ _ _ h => h) (by simp only [List.map_toArray,List.map_cons,List.map_nil];rfl) (fun wx hS => (Gp (w0:=wr) (c:=cl) HN.out hS HC.out.l).mono fun _ _ h => ⟨h.1,bj hS h.2⟩) ?_;simp only [sc0,sc1])
        | (refine BH HT rfl (by rfl) (fun _ _ _ h => h) ?_;simp only [sc0,sc1])
        | (refine BV (v:=?_) HT rfl (by rfl) (fun _ _ _ h => h) (fun wx hS => ?_) ?_;rotate_left;(have x2:=bc hS x2;have y0:=bc hS y0;go_simp;with_reducible rfl);rotate_left;simp only [sc0,sc1]))
      have HE2:=As (HE.out.up hS)
      have y1:=bc hS y0
      clear hS x2 y0
      go_wp2_with (go_at_call 48;refine (Nk HST.out HE2.out).mono ?_;rintro x1 w9 ⟨⟨v1,rfl⟩,hg9⟩;have HG9:=As hg9;clear hg9 y1)
      go_roundw
      case rel => exact ⟨j,Bo x tx,HG9,HNX⟩
      case measure =>
        have h1:=HG9.out.Gc
        have h2:=HE.out.Gc
        have h3:=HST.out.Vu
        have h4:=Ib x tx
        show 151 - Gc w9 g < 151 - Gc wr g
        omega
theorem S9 {w0 w : World} {e : Eng} {C : Nat → Page} {B : Nat} {Ad Am Al : Option Addr} {cd cm cl gx : Nat} (tx : Int) (hi : Inv e C B) (hB : B + 3 ≤ 150) (hcl : e.log.length ≤ cl) (hb : Below w0.heap.size w0 w) (hr : DF w0 e Ad Am Al) (bx : Ci w gx (.int .i64 tx) 3) : Calls Tryz.prog 151 #[e.val Ad Am Al cd cm cl, .int .i64 tx, .func (.func 155) #[] #[ptr gx]] w (CQ w (Cz e tx (DU e tx)).1 (Cz e tx (DU e tx)).2):=by
  refine K5 (X:=DU e tx) tx hi.ok hcl hb hr (fun hd hlast wb wx g hbw hg => ?_)
  have ht:=F9 hi.core.log hlast
  have hu:=Ei.Uf ht _ e (hi.und hd tx) hlast rfl
  rw [DU,if_neg hlast]
  exact PV hu hg (bx.up hbw)
set_option maxRecDepth 100000 in
set_option maxHeartbeats 16000000 in
theorem Oi {w0 w : World} {e : Eng} {C : Nat → Page} {B : Nat} {Ad Am Al : Option Addr} {cd cm cl : Nat} (tx : Int) (hi : Inv e C B) (hB : B + 3 ≤ 150) (hcl : e.log.length ≤ cl) (hb : Below w0.heap.size w0 w) (hr : DF w0 e Ad Am Al) : Calls Tryz.prog 86 #[e.val Ad Am Al cd cm cl, .int .i64 tx] w (CQ w (Cz e tx (DU e tx)).1 (Cz e tx (DU e tx)).2):=by
  obtain ⟨E,bb,hE⟩ : ∃ E bb,Cz e tx (DU e tx) = (E,bb):=⟨_,_,rfl⟩
  have HIN : Ac (∀ wx g_tx,Below w.heap.size w wx → Ci wx g_tx (.int .i64 tx) 3 → Calls Tryz.prog 151 #[e.val Ad Am Al cd cm cl, .int .i64 tx, .func (.func 155) #[] #[ptr g_tx]] wx (CQ wx E bb)):=⟨fun wx g_tx hbx b_tx => by
    have h:=S9 (cd:=cd) (cm:=cm) tx hi hB hcl (bj hb hbx) hr b_tx
    rw [hE] at h
    exact h⟩
  rw [hE]
  clear hi hb hr hE hcl hB
  go_enter Tryz.func86,Tryz.ntmps86
  go_wp2_with (first
    | (with_reducible refine Aw (vd:=.slice Ad e.disk.length cd) (vm:=.slice Am e.mem.length cm) (vl:=.slice Al e.log.length cl) e ?_;intro w1 hb1 hz1 hq1;clear hz1;have HB:=As hb1;have HQ:=As hq1;clear hb1 hq1)
    | (with_reducible refine Dn (t:=3) (.int .i64 tx) ?_;intro w2 hb1 hz1 hq1;clear hz1;replace HB:=As (bj HB.out hb1);replace HQ:=As (HQ.out.up hb1);have HC_tx:=As hq1;clear hb1 hq1)
    | (refine Aw (vd:=.slice none 0 0) (vm:=.slice none 0 0) (vl:=.slice none 0 0) zE ?_;intro w3 hb1 hz1 hq1;have HBG:=As HB.out.size;replace HB:=As (bj HB.out hb1);replace HQ:=As (HQ.out.up hb1);replace HC_tx:=As (HC_tx.out.up hb1);have HP:=As hq1;have HZ:=As hz1;have x0:=HQ.out.c0;have x1:=HQ.out.c1;have x2:=HQ.out.c2;have x3:=HQ.out.c3;have x4:=HQ.out.c4;have c_tx:=HC_tx.out.c0;clear hb1 hz1 hq1)
    | (go_at_call 151;refine (HIN.out w3 _ HB.out HC_tx.out).mono ?_;rintro x w4 ⟨vd,vm,vl,rfl,ho,hb2⟩;obtain ⟨Ed,n1,Em,n2,El,n3,rfl,rfl,rfl, -, -⟩:=ho.reads;have HO:=As ho;have HX:=As hb2;have hp:=HP.out.up hb2;have HP2:=As hp;have y0:=hp.c0;have y1:=hp.c1;have y2:=hp.c2;have y3:=hp.c3;have y4:=hp.c4;have f0:=hp.frz 0;have f1:=hp.frz 1;have f2:=hp.frz 2;have f3:=hp.frz 3;have f4:=hp.frz 4;clear hp hb2 ho x0 x1 x2 x3 x4 c_tx))
  have hy:=HP2.out.Az E (.slice Ed E.disk.length n1) (.slice Em E.mem.length n2) (.slice El E.log.length n3)
  have h1:=HO.out.Az (f:=E) (xd:=.slice Ed E.disk.length n1) (xm:=.slice Em E.mem.length n2) (xl:=.slice El E.log.length n3) HP2.out
  have hge:=HBG.out
  have hzz:=HZ.out
  have h2:=Ak (g:=w2.heap.size) (bj HB.out HX.out) hge E (.slice Ed E.disk.length n1) (.slice Em E.mem.length n2) (.slice El E.log.length n3)
  have z0:=hy.c0
  have z1:=hy.c1
  have z2:=hy.c2
  have z3:=hy.c3
  have z4:=hy.c4
  exact bodyPost_ret (v:=.tuple #[E.ag (.slice Ed E.disk.length n1) (.slice Em E.mem.length n2) (.slice El E.log.length n3), .bool bb]) (by simp [results,Tryz.results86,go_sem,z0,z1,z2,z3,z4]) rfl ⟨_,_,_,rfl,h1.lower (by omega),h2⟩
theorem Ls {w0 w : World} {e : Eng} {b : Bool} {Ad Am Al : Option Addr} {cd cm cl : Nat} (hdn : e.down = b) (hd : geo e.disk) (hm : geo e.mem) (hl : e.log.length ≤ 150) (hb : Below w0.heap.size w0 w) (hr : DF w0 e Ad Am Al) : Calls Tryz.prog 38 #[.agg #[.slice Ad e.disk.length cd, .slice Am e.mem.length cm, .slice Al e.log.length cl, .int .i64 e.safe, .bool b]] w (RV w e):=by
  subst hdn
  exact AV hd hm hl hb hr
def ET (e : Eng) (page : Int) : Eng × Bool:=if e.down = false ∧ inB page 0 4 = true then (CS e page.toNat,true) else (zE,false)
set_option maxRecDepth 100000 in
set_option maxHeartbeats 16000000 in
theorem LF {w0 w : World} {e : Eng} {Ad Am Al : Option Addr} {cd cm cl : Nat} (page : Int) (hok : eOk e = true) (hcl : e.log.length ≤ cl) (hb : Below w0.heap.size w0 w) (hr : DF w0 e Ad Am Al) : Calls Tryz.prog 87 #[e.val Ad Am Al cd cm cl, .int .i64 page] w (CQ w (ET e page).1 (ET e page).2):=by
  have HR:=As (hr.up hb)
  have HV:=As hok
  have HF:=As (Fh.1 hok)
  have HLG:=As (Bg HF.out.log)
  clear hr hb hok
  obtain ⟨w1,hw1⟩ : ∃ w1,w.alloc (e.obox (.slice Ad e.disk.length cd) (.slice Am e.mem.length cm) (.slice Al e.log.length cl)) = w1:=⟨_,rfl⟩
  obtain ⟨w2,hw2⟩ : ∃ w2,w1.alloc (zE.obox (.slice none 0 0) (.slice none 0 0) (.slice none 0 0)) = w2:=⟨_,rfl⟩
  have hz1 : w1.heap.size = w.heap.size + 1:=by rw [← hw1];exact BA _ _
  have hz2 : w2.heap.size = w.heap.size + 2:=by rw [← hw2,BA,hz1]
  have hb12 : Below w1.heap.size w1 w2:=by rw [← hw2];exact Ah (Below.refl _ _) _
  have HB2 : Ac (Below w.heap.size w w2):=⟨by rw [← hw2, ← hw1];exact Ah (Ah (Below.refl _ _) _) _⟩
  have HQ2 : Ac (Ai w2 w.heap.size e (.slice Ad e.disk.length cd) (.slice Am e.mem.length cm) (.slice Al e.log.length cl)):=⟨Ai.up (by rw [← hw1];exact Ai.mk1 _ _ _ _ _) hb12⟩
  have HP2 : Ac (Ai w2 (w.heap.size + 1) zE (.slice none 0 0) (.slice none 0 0) (.slice none 0 0)):=⟨by rw [← hw2, ← hz1];exact Ai.mk1 _ _ _ _ _⟩
  have HW2 : Ac ((w.alloc (e.obox (.slice Ad e.disk.length cd) (.slice Am e.mem.length cm) (.slice Al e.log.length cl))).alloc (zE.obox (.slice none 0 0) (.slice none 0 0) (.slice none 0 0)) = w2):=⟨by rw [hw1,hw2]⟩
  have HZ2:=As hz2
  clear hw1 hw2 hz1 hz2 hb12
  have x0:=HQ2.out.c0
  have x1:=HQ2.out.c1
  have x2:=HQ2.out.c2
  have x3:=HQ2.out.c3
  have x4:=HQ2.out.c4
  cases hdn : e.down
  rotate_left
  · rw [show ET e page = (zE,false) by rw [ET,if_neg (by rw [hdn];simp)]]
    rw [hdn] at x4
    clear hdn
    go_enter Tryz.func87,Tryz.ntmps87
    go_wp2_with (go_at_call 36;rw [show (w.alloc (Obj.cells #[Value.slice Ad e.disk.length cd,Value.slice Am e.mem.length cm,Value.slice Al e.log.length cl,Value.int IntKind.i64 e.safe,Value.bool e.down] 28)).alloc (Obj.cells #[Value.slice none 0 0,Value.slice none 0 0,Value.slice none 0 0,Value.int IntKind.i64 0,Value.bool false] 28) = w2 from HW2.out];refine (AL (cd:=cd) (cm:=cm) HV.out hcl HB2.out HR.out).mono ?_;rintro x w3 ⟨rfl,hb3⟩;have HX3:=As hb3;have HB3:=As (bj HB2.out hb3);have hp:=HP2.out.up hb3;have HP3:=As hp;have y0:=hp.c0;have y1:=hp.c1;have y2:=hp.c2;have y3:=hp.c3;have y4:=hp.c4;have f0:=hp.frz 0;have f1:=hp.frz 1;have f2:=hp.frz 2;have f3:=hp.frz 3;have f4:=hp.frz 4;clear hp;replace x0:=bc hb3 x0;replace x1:=bc hb3 x1;replace x2:=bc hb3 x2;replace x3:=bc hb3 x3;replace x4:=bc hb3 x4;clear hb3)
    obtain ⟨z0,z1,z2,z3,z4⟩:=HP3.out.empty
    have hz:=HZ2.out
    exact bodyPost_ret (v:=.tuple #[zEv, .bool false]) (by simp [results,Tryz.results87,go_sem,z0,z1,z2,z3,z4]) rfl ⟨_,_,_,rfl,I6 _ _,Ak (g:=w.heap.size + 1) HB3.out (by omega) zE _ _ _⟩
  have HDN:=As hdn
  rw [hdn] at x4
  clear hdn
  cases hpg : inB page 0 4
  · rw [show ET e page = (zE,false) by rw [ET,if_neg (by rw [hpg];simp)]]
    have HPG:=As hpg
    clear hpg
    go_enter Tryz.func87,Tryz.ntmps87
    go_wp2_with (first
      | (go_at_call 36;rw [show (w.alloc (Obj.cells #[Value.slice Ad e.disk.length cd,Value.slice Am e.mem.length cm,Value.slice Al e.log.length cl,Value.int IntKind.i64 e.safe,Value.bool e.down] 28)).alloc (Obj.cells #[Value.slice none 0 0,Value.slice none 0 0,Value.slice none 0 0,Value.int IntKind.i64 0,Value.bool false] 28) = w2 from HW2.out];refine (AL (cd:=cd) (cm:=cm) HV.out hcl HB2.out HR.out).mono ?_;rintro x w3 ⟨rfl,hb3⟩;have HX3:=As hb3;have HB3:=As (bj HB2.out hb3);have hp:=HP2.out.up hb3;have HP3:=As hp;have y0:=hp.c0;have y1:=hp.c1;have y2:=hp.c2;have y3:=hp.c3;have y4:=hp.c4;have f0:=hp.frz 0;have f1:=hp.frz 1;have f2:=hp.frz 2;have f3:=hp.frz 3;have f4:=hp.frz 4;clear hp;replace x0:=bc hb3 x0;replace x1:=bc hb3 x1;replace x2:=bc hb3 x2;replace x3:=bc hb3 x3;replace x4:=bc hb3 x4;clear hb3)
      | (go_at_call 156;refine (Bz _ _).mono ?_;rw [HPG.out];rintro x w' ⟨rfl,rfl⟩))
    obtain ⟨z0,z1,z2,z3,z4⟩:=HP3.out.empty
    have hz:=HZ2.out
    exact bodyPost_ret (v:=.tuple #[zEv, .bool false]) (by simp [results,Tryz.results87,go_sem,z0,z1,z2,z3,z4]) rfl ⟨_,_,_,rfl,I6 _ _,Ak (g:=w.heap.size + 1) HB3.out (by omega) zE _ _ _⟩
  · have HPG:=As hpg
    rw [DI] at hpg
    obtain ⟨p,rfl⟩ : ∃ p : Nat,page = (p : Int):=⟨page.toNat,by omega⟩
    have HP5 : Ac (p < 5):=⟨by omega⟩
    obtain ⟨X,hX⟩ : ∃ X,CS e p = X:=⟨_,rfl⟩
    have HXX:=As hX
    rw [show ET e (p : Int) = (X,true) by rw [ET,if_pos ⟨HDN.out,HPG.out⟩,Int.toNat_natCast,hX]]
    clear hpg hX
    go_enter Tryz.func87,Tryz.ntmps87
    go_wp2_with (first
      | (go_at_call 36;rw [show (w.alloc (Obj.cells #[Value.slice Ad e.disk.length cd,Value.slice Am e.mem.length cm,Value.slice Al e.log.length cl,Value.int IntKind.i64 e.safe,Value.bool e.down] 28)).alloc (Obj.cells #[Value.slice none 0 0,Value.slice none 0 0,Value.slice none 0 0,Value.int IntKind.i64 0,Value.bool false] 28) = w2 from HW2.out];refine (AL (cd:=cd) (cm:=cm) HV.out hcl HB2.out HR.out).mono ?_;rintro x w3 ⟨rfl,hb3⟩;have HX3:=As hb3;replace x0:=bc hb3 x0;replace x1:=bc hb3 x1;replace x2:=bc hb3 x2;replace x3:=bc hb3 x3;replace x4:=bc hb3 x4;clear hb3)
      | (go_at_call 156;refine (Bz _ _).mono ?_;rw [HPG.out];rintro x w' ⟨rfl,rfl⟩)
      | (go_at_call 38;refine (Ls (cd:=cd) (cm:=cm) (cl:=cl) HDN.out (Ay HF.out.disk) (Ay HF.out.mem) HLG.out (bj HB2.out HX3.out) HR.out).mono ?_;rintro x w4 ⟨vd,vm,vl,rfl,ho,hb4⟩;obtain ⟨Bd,dd,Bm,dm,Bl,dl,rfl,rfl,rfl, -,hc⟩:=ho.reads;have HO4:=As ho;have HC4:=As hc;have HX4:=As hb4;clear ho hb4 hc x0 x1 x2 x3 x4)
      | (refine Aw (vd:=.slice Bd e.disk.length dd) (vm:=.slice Bm e.mem.length dm) (vl:=.slice Bl e.log.length dl) e ?_;intro w5 hb5 _ hq5;have q0:=hq5.c0;have q1:=hq5.c1;have q2:=hq5.c2;have q3:=hq5.c3;have q4:=hq5.c4;have HQ5:=As hq5;have HO5:=As (HO4.out.below hb5);have HX5:=As (bj HX4.out hb5);have HGE:=As HX4.out.size;clear hb5 hq5)
      | (go_at_call 154;refine (Mj HP5.out (Ay HF.out.disk) (Ay HF.out.mem) HX5.out HGE.out HQ5.out HO5.out).mono ?_;rw [HXX.out];rintro x w7 ⟨⟨v,rfl⟩,hq7,ho7,hb7, -⟩;obtain ⟨Ed,n1,Em,n2,El,n3,ed,em,el, -, -⟩:=ho7.reads;rw [ed,em,el] at hq7 ho7;have HO7:=As ho7;have HX7:=As hb7;clear q0 q1 q2 q3 q4;have q0:=hq7.c0;have q1:=hq7.c1;have q2:=hq7.c2;have q3:=hq7.c3;have q4:=hq7.c4;have hp:=HP2.out.up (bj HX3.out HX7.out);have HP7:=As hp;have y0:=hp.c0;have y1:=hp.c1;have y2:=hp.c2;have y3:=hp.c3;have y4:=hp.c4;have f0:=hp.frz 0;have f1:=hp.frz 1;have f2:=hp.frz 2;have f3:=hp.frz 3;have f4:=hp.frz 4;clear hp;clear hq7 ho7 hb7))
    have hz:=HZ2.out
    have hn3:=HX3.out.size
    have hy:=HP7.out.Az X (.slice Ed X.disk.length n1) (.slice Em X.mem.length n2) (.slice El X.log.length n3)
    have h1:=HO7.out.Az (f:=X) (xd:=.slice Ed X.disk.length n1) (xm:=.slice Em X.mem.length n2) (xl:=.slice El X.log.length n3) HP7.out
    have h2:=Ak (g:=w.heap.size + 1) (bj HB2.out (bj HX3.out HX7.out)) (by omega) X (.slice Ed X.disk.length n1) (.slice Em X.mem.length n2) (.slice El X.log.length n3)
    have z0:=hy.c0
    have z1:=hy.c1
    have z2:=hy.c2
    have z3:=hy.c3
    have z4:=hy.c4
    exact bodyPost_ret (v:=.tuple #[X.ag (.slice Ed X.disk.length n1) (.slice Em X.mem.length n2) (.slice El X.log.length n3), .bool true]) (by simp [results,Tryz.results87,go_sem,z0,z1,z2,z3,z4]) rfl ⟨_,_,_,rfl,h1.lower (by omega),h2⟩
def FW (e : Eng) : Eng × Bool:=if e.down = false then (G8 e,true) else (zE,false)
set_option maxRecDepth 100000 in
set_option maxHeartbeats 16000000 in
theorem LG {w0 w : World} {e : Eng} {Ad Am Al : Option Addr} {cd cm cl : Nat} (hok : eOk e = true) (hcl : e.log.length ≤ cl) (hb : Below w0.heap.size w0 w) (hr : DF w0 e Ad Am Al) : Calls Tryz.prog 88 #[e.val Ad Am Al cd cm cl] w (CQ w (FW e).1 (FW e).2):=by
  have HR:=As (hr.up hb)
  have HV:=As hok
  have HF:=As (Fh.1 hok)
  have HLG:=As (Bg HF.out.log)
  clear hr hb hok
  obtain ⟨w1,hw1⟩ : ∃ w1,w.alloc (e.obox (.slice Ad e.disk.length cd) (.slice Am e.mem.length cm) (.slice Al e.log.length cl)) = w1:=⟨_,rfl⟩
  obtain ⟨w2,hw2⟩ : ∃ w2,w1.alloc (zE.obox (.slice none 0 0) (.slice none 0 0) (.slice none 0 0)) = w2:=⟨_,rfl⟩
  have hz1 : w1.heap.size = w.heap.size + 1:=by rw [← hw1];exact BA _ _
  have hz2 : w2.heap.size = w.heap.size + 2:=by rw [← hw2,BA,hz1]
  have hb12 : Below w1.heap.size w1 w2:=by rw [← hw2];exact Ah (Below.refl _ _) _
  have HB2 : Ac (Below w.heap.size w w2):=⟨by rw [← hw2, ← hw1];exact Ah (Ah (Below.refl _ _) _) _⟩
  have HQ2 : Ac (Ai w2 w.heap.size e (.slice Ad e.disk.length cd) (.slice Am e.mem.length cm) (.slice Al e.log.length cl)):=⟨Ai.up (by rw [← hw1];exact Ai.mk1 _ _ _ _ _) hb12⟩
  have HP2 : Ac (Ai w2 (w.heap.size + 1) zE (.slice none 0 0) (.slice none 0 0) (.slice none 0 0)):=⟨by rw [← hw2, ← hz1];exact Ai.mk1 _ _ _ _ _⟩
  have HW2 : Ac ((w.alloc (e.obox (.slice Ad e.disk.length cd) (.slice Am e.mem.length cm) (.slice Al e.log.length cl))).alloc (zE.obox (.slice none 0 0) (.slice none 0 0) (.slice none 0 0)) = w2):=⟨by rw [hw1,hw2]⟩
  have HZ2:=As hz2
  clear hw1 hw2 hz1 hz2 hb12
  have x0:=HQ2.out.c0
  have x1:=HQ2.out.c1
  have x2:=HQ2.out.c2
  have x3:=HQ2.out.c3
  have x4:=HQ2.out.c4
  cases hdn : e.down
  rotate_left
  · rw [show FW e = (zE,false) by rw [FW,if_neg (by rw [hdn];simp)]]
    rw [hdn] at x4
    clear hdn
    go_enter Tryz.func88,Tryz.ntmps88
    go_wp2_with (go_at_call 36;rw [show (w.alloc (Obj.cells #[Value.slice Ad e.disk.length cd,Value.slice Am e.mem.length cm,Value.slice Al e.log.length cl,Value.int IntKind.i64 e.safe,Value.bool e.down] 28)).alloc (Obj.cells #[Value.slice none 0 0,Value.slice none 0 0,Value.slice none 0 0,Value.int IntKind.i64 0,Value.bool false] 28) = w2 from HW2.out];refine (AL (cd:=cd) (cm:=cm) HV.out hcl HB2.out HR.out).mono ?_;rintro x w3 ⟨rfl,hb3⟩;have HX3:=As hb3;have HB3:=As (bj HB2.out hb3);have hp:=HP2.out.up hb3;have HP3:=As hp;have y0:=hp.c0;have y1:=hp.c1;have y2:=hp.c2;have y3:=hp.c3;have y4:=hp.c4;have f0:=hp.frz 0;have f1:=hp.frz 1;have f2:=hp.frz 2;have f3:=hp.frz 3;have f4:=hp.frz 4;clear hp;replace x0:=bc hb3 x0;replace x1:=bc hb3 x1;replace x2:=bc hb3 x2;replace x3:=bc hb3 x3;replace x4:=bc hb3 x4;clear hb3)
    obtain ⟨z0,z1,z2,z3,z4⟩:=HP3.out.empty
    have hz:=HZ2.out
    exact bodyPost_ret (v:=.tuple #[zEv, .bool false]) (by simp [results,Tryz.results88,go_sem,z0,z1,z2,z3,z4]) rfl ⟨_,_,_,rfl,I6 _ _,Ak (g:=w.heap.size + 1) HB3.out (by omega) zE _ _ _⟩
  have HDN:=As hdn
  rw [hdn] at x4
  rw [show FW e = (G8 e,true) by rw [FW,if_pos hdn]]
  clear hdn
  go_enter Tryz.func88,Tryz.ntmps88
  go_wp2_with (first
    | (go_at_call 36;rw [show (w.alloc (Obj.cells #[Value.slice Ad e.disk.length cd,Value.slice Am e.mem.length cm,Value.slice Al e.log.length cl,Value.int IntKind.i64 e.safe,Value.bool e.down] 28)).alloc (Obj.cells #[Value.slice none 0 0,Value.slice none 0 0,Value.slice none 0 0,Value.int IntKind.i64 0,Value.bool false] 28) = w2 from HW2.out];refine (AL (cd:=cd) (cm:=cm) HV.out hcl HB2.out HR.out).mono ?_;rintro x w3 ⟨rfl,hb3⟩;have HX3:=As hb3;replace x0:=bc hb3 x0;replace x1:=bc hb3 x1;replace x2:=bc hb3 x2;replace x3:=bc hb3 x3;replace x4:=bc hb3 x4;clear hb3)
    | (go_at_call 38;refine (Ls (cd:=cd) (cm:=cm) (cl:=cl) HDN.out (Ay HF.out.disk) (Ay HF.out.mem) HLG.out (bj HB2.out HX3.out) HR.out).mono ?_;rintro x w4 ⟨vd,vm,vl,rfl,ho,hb4⟩;obtain ⟨Bd,dd,Bm,dm,Bl,dl,rfl,rfl,rfl, -,hc⟩:=ho.reads;have HO4:=As ho;have HC4:=As hc;have HX4:=As hb4;clear ho hb4 hc x0 x1 x2 x3 x4)
    | (refine Aw (vd:=.slice Bd e.disk.length dd) (vm:=.slice Bm e.mem.length dm) (vl:=.slice Bl e.log.length dl) e ?_;intro w5 hb5 hz5 hq5;have q0:=hq5.c0;have q1:=hq5.c1;have q2:=hq5.c2;have q3:=hq5.c3;have q4:=hq5.c4;have g3:=hq5.frz 3;have HQ5:=As hq5;have HO5:=As (HO4.out.below hb5);have HX5:=As (bj HX4.out hb5);have HGE:=As HX4.out.size;have hne1 : ¬ w4.heap.size = w.heap.size + 1:=(by have:=HZ2.out;have:=HX3.out.size;have:=HGE.out;omega);have hne2 : ¬ w.heap.size + 1 = w4.heap.size:=fun e => hne1 e.symm;have hp:=HP2.out.up (bj HX3.out HX5.out);have HP7:=As hp;have y0:=hp.c0;have y1:=hp.c1;have y2:=hp.c2;have y3:=hp.c3;have y4:=hp.c4;have f0:=hp.frz 0;have f1:=hp.frz 1;have f2:=hp.frz 2;have f3:=hp.frz 3;have f4:=hp.frz 4;clear hp;clear hb5 hq5 hz5))
  have HO7 : Ac (AU (w5.setCell ⟨w4.heap.size,3,none⟩ (.int .i64 (e.log.length : Int))) w3.heap.size (.slice Bd e.disk.length dd) (.slice Bm e.mem.length dm) (.slice Bl e.log.length dl) e):=⟨HO5.out.Fe HQ5.out 3 _⟩
  have p1:=HP7.out.far (b:=w4.heap.size) (by omega) 3 (.int .i64 (e.log.length : Int))
  have b1:=(bj HB2.out (bj HX3.out HX5.out)).setCell (p:=⟨w4.heap.size,3,none⟩) (by show w.heap.size ≤ w4.heap.size;have:=HZ2.out;have:=HX3.out.size;have:=HGE.out;omega) (.int .i64 (e.log.length : Int))
  have hz:=HZ2.out
  have hn3:=HX3.out.size
  have hy:=p1.Az (G8 e) (.slice Bd e.disk.length dd) (.slice Bm e.mem.length dm) (.slice Bl e.log.length dl)
  have h1:=HO7.out.Az (f:=G8 e) (xd:=.slice Bd e.disk.length dd) (xm:=.slice Bm e.mem.length dm) (xl:=.slice Bl e.log.length dl) p1
  have h2:=Ak (g:=w.heap.size + 1) b1 (by omega) (G8 e) (.slice Bd e.disk.length dd) (.slice Bm e.mem.length dm) (.slice Bl e.log.length dl)
  have z0:=hy.c0
  have z1:=hy.c1
  have z2:=hy.c2
  have z3:=hy.c3
  have z4:=hy.c4
  simp only [G8] at z0 z1 z2 z3 z4 h2
  exact bodyPost_ret (v:=.tuple #[(G8 e).ag (.slice Bd e.disk.length dd) (.slice Bm e.mem.length dm) (.slice Bl e.log.length dl), .bool true]) (by simp [results,Tryz.results88,go_sem,z0,z1,z2,z3,z4,G8]) rfl ⟨_,_,_,rfl,AU.lower ⟨h1.ex,h1.l⟩ (by omega),h2⟩
theorem Nq {w : World} {b g : Nat} {v ud um ul : Value} {l : List Rec} {q : Eng} (h : OwnRs w b v l) (hq : Ai w g q ud um ul) (j : Nat) (u : Value) : OwnRs (w.setCell ⟨g,j,none⟩ u) b v l:=
  Kd.VX h hq (fun q hq => by have : q = 98:=(by simpa [C8,Kd.iso,Kd.pair,Kd.int,Kd.scalar] using hq);rw [this];decide) j u
theorem AU.Ux {w4 w5 : World} {b b2 : Nat} {okd : Nat → Prop} {vd vm vl : Value} {ps qs : List Page} {l : List Rec} {s : Int} {d : Bool} (hd : CB w4 b okd vd ps) (hm : EA w5 w4.heap.size vm qs) (hb : Below w4.heap.size w4 w5) (hl : OwnRs w4 b2 vl l) (hle : b ≤ w4.heap.size) (hb2 : b ≤ b2) : AU w5 b vd vm vl ⟨ps,qs,l,s,d⟩:=
  ⟨⟨fun k => okd k ∧ k < w4.heap.size,fun k => w4.heap.size ≤ k,fun k h1 h2 => by omega,Kd.Ep hd hb,Kd.E8 (Kd.Dh (Kd.Dy hm) (fun k hk => hk.2.1)) hle⟩,Kd.Gu (Kd.Cm hl hb) hb2⟩
section
variable {w w1 : World} {b g n cap : Nat} {ok : Nat → Prop} {ps : List Page}
theorem WU (h : CB w b ok (.slice (some ⟨g,0,none⟩) n cap) ps) {i : Nat} (hi : i < n) :
    ∃ (oki : Nat → Prop) (v : Value),(∀ k,oki k → ok k ∧ k ≠ g) ∧ ok g ∧ RI w b oki v (pg ps i).vals ∧ (w.cell? ⟨g,i * 3,none⟩ = some (.int .i64 (pg ps i).lsn) ∧ w.cell? ⟨g,i * 3 + 1,none⟩ = some (.int .i64 (pg ps i).owner) ∧ w.cell? ⟨g,i * 3 + 2,none⟩ = some v) ∧ (∀ j,w.frozen? ⟨g,i * 3 + j,none⟩ = false) ∧
      Kd.H Dw 81 w b ok (.slice (some ⟨g,0,none⟩) n cap) ps (i : Int) oki [.int .i64 (pg ps i).lsn, .int .i64 (pg ps i).owner,v]:=by
  obtain ⟨oki,c,hcl,hM,hcc,hfr,hok,hH⟩:=Kd.WB h z0 (i : Int) (by omega) (by omega)
  rw [Int.toNat_natCast] at hM hcc hfr
  obtain ⟨v,rfl,hv⟩:=MI hM
  have hg : ok g:=by
    obtain ⟨f,h0,_⟩:=h
    exact h0 g (by simp [Value.ownBlock])
  exact ⟨oki,v,hok,hg,hv,⟨hcc 0 _ rfl,hcc 1 _ rfl,hcc 2 _ rfl⟩,fun j => hfr j,hH⟩
theorem Wm (h : CB w b ok (.slice (some ⟨g,0,none⟩) n cap) ps) {i : Nat} (hi : i < n) (x : Int) : CB (w.setCell ⟨g,i * 3,none⟩ (.int .i64 x)) b ok (.slice (some ⟨g,0,none⟩) n cap) (ps.set i { pg ps i with lsn:=x }):=by
  obtain ⟨oki,v,hok,hg,hv, -, -,hH⟩:=WU h hi
  have:=(Kd.Wy (seg := [.int .i64 x]) (j:=0) (x':={ pg ps i with lsn:=x }) (okp:=oki) hH (by omega) (by omega) (by show 0 + 1 ≤ 3;decide) (Ir w b oki { pg ps i with lsn:=x } hv) (fun _ hk => hk)).1
  rw [Int.toNat_natCast] at this
  exact this
end
end Go.Proofs.YtpjmlpmhgfghbaaGreat
namespace Go.Proofs.YtpjmlpmhgfghbaaGreat
open Go.RowKit Go.Proofs.YtpjmlpmhgfghbaaGreatW.PrintWords Go.Proofs.YtpjmlpmhgfghbaaGreatW.PrintLast Go.Proofs.YtpjmlpmhgfghbaaGreatW.PrintMore
end Go.Proofs.YtpjmlpmhgfghbaaGreat
