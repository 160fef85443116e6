/- A part of the proof: what the last text of the claim says leans on this one. -/
import Derived.Test.YtpjmlpmhgfghbaaGreatZT6
set_option linter.unusedVariables false
set_option linter.unusedSimpArgs false
/- The reference's l12Put. -/
namespace Go.Proofs.YtpjmlpmhgfghbaaGreat
open Go.RowKit Go.Proofs.YtpjmlpmhgfghbaaGreatW.PrintWords Go.Proofs.YtpjmlpmhgfghbaaGreatW.PrintLast Go.Proofs.YtpjmlpmhgfghbaaGreatW.PrintMore
set_option maxRecDepth 100000 in
set_option maxHeartbeats 16000000 in
theorem PG {w0 w : World} {e : Eng} {C : Nat → Page} {B : Nat} {vd vm vl : Value} (tx page slot val : Int) (hi : Inv e C B) (hB : B + 3 ≤ 150) (hb : Below w0.heap.size w0 w) (hr : AU w w0.heap.size vd vm vl e) : Calls Tryz.prog 67 #[e.ag vd vm vl, .int .i64 tx, .int .i64 page, .int .i64 slot, .int .i64 val] w (GX w0 w vm (L6 e tx page slot val).1 (L6 e tx page slot val).2):=by
  have hFE : L6 e tx page slot val = if Pn e tx page slot val = true then (e.app (N9 e tx page slot val),true) else (e,false):=Inv.PV (fun hp => hi.V8 hB hp)
  obtain ⟨Ad,cd,Am,cm,Al,cl,rfl,rfl,rfl,hcl,hrd⟩:=hr.reads
  obtain ⟨w1a,hw1a⟩ : ∃ w1a,w.alloc (e.obox (.slice Ad e.disk.length cd) (.slice Am e.mem.length cm) (.slice Al e.log.length cl)) = w1a:=⟨_,rfl⟩
  obtain ⟨w1,hw1⟩ : ∃ w1,w1a.alloc (zE.obox (.slice none 0 0) (.slice none 0 0) (.slice none 0 0)) = w1:=⟨_,rfl⟩
  have hza : w1a.heap.size = w.heap.size + 1:=by rw [← hw1a];exact BF _ _
  have hz1 : w1.heap.size = w.heap.size + 2:=by rw [← hw1,BF,hza]
  have hba : Below w1a.heap.size w1a w1:=by rw [← hw1];exact Ah (Below.refl _ _) _
  have hb1 : Below w.heap.size w w1:=by rw [← hw1, ← hw1a];exact Ah (Ah (Below.refl _ _) _) _
  have HQ1 : Ac (Ai w1 w.heap.size e (.slice Ad e.disk.length cd) (.slice Am e.mem.length cm) (.slice Al e.log.length cl)):=⟨Ai.up (by rw [← hw1a];exact Ai.mk1 _ _ _ _ _) hba⟩
  have HP1 : Ac (Ai w1 (w.heap.size + 1) zE (.slice none 0 0) (.slice none 0 0) (.slice none 0 0)):=⟨by rw [← hw1, ← hza];exact Ai.mk1 _ _ _ _ _⟩
  have HW1 : Ac ((w.alloc (Obj.cells #[Value.slice Ad e.disk.length cd,Value.slice Am e.mem.length cm,Value.slice Al e.log.length cl,Value.int IntKind.i64 e.safe,Value.bool e.down] 28)).alloc (Obj.cells #[Value.slice none 0 0,Value.slice none 0 0,Value.slice none 0 0,Value.int IntKind.i64 0,Value.bool false] 28) = w1):=⟨by rw [← hw1, ← hw1a];rfl⟩
  have HZ1:=As hz1
  have HB1:=As hb1
  have HB:=As hb
  have HO1:=As (hr.below hb1)
  have HC1:=As (hrd.up hb1)
  have HI:=As hi
  have HBB:=As hB
  have x0:=HQ1.out.c0
  have x1:=HQ1.out.c1
  have x2:=HQ1.out.c2
  have x3:=HQ1.out.c3
  have x4:=HQ1.out.c4
  clear hw1a hw1 hza hz1 hba hb1 hb hr hrd hB
  obtain ⟨m,hm⟩ : ∃ m,DJ e tx page = m:=⟨_,rfl⟩
  have HM:=As hm
  have HFE:=As hFE
  clear hm hi hFE
  cases m
  · rw [HFE.out,if_neg (by rw [Pn,HM.out];simp)]
    go_enter Tryz.func67,Tryz.ntmps67
    go_wp2_with (first
      | (go_at_call 124;rw [show (w.alloc (Obj.cells #[Value.slice Ad e.disk.length cd,Value.slice Am e.mem.length cm,Value.slice Al e.log.length cl,Value.int IntKind.i64 e.safe,Value.bool e.down] 28)).alloc (Obj.cells #[Value.slice none 0 0,Value.slice none 0 0,Value.slice none 0 0,Value.int IntKind.i64 0,Value.bool false] 28) = w1 from HW1.out];refine (BN (cd:=cd) (cm:=cm) (cl:=cl) tx page HM.out HI.out.core (Below.refl w1.heap.size w1) HC1.out).mono ?_;rintro x w2 ⟨rfl,hb2⟩;replace x0:=bc hb2 x0;replace x1:=bc hb2 x1;replace x2:=bc hb2 x2;replace x3:=bc hb2 x3;replace x4:=bc hb2 x4;have HO2:=As (HO1.out.below hb2);have HB2:=As (bj HB1.out hb2);have hp:=HP1.out.up hb2;have HP2:=As hp;have y0:=hp.c0;have y1:=hp.c1;have y2:=hp.c2;have y3:=hp.c3;have y4:=hp.c4;have f0:=hp.frz 0;have f1:=hp.frz 1;have f2:=hp.frz 2;have f3:=hp.frz 3;have f4:=hp.frz 4;clear hp hb2))
    have hz:=HZ1.out
    have hs0:=HB.out.size
    have hy:=HP2.out.Az e (.slice Ad e.disk.length cd) (.slice Am e.mem.length cm) (.slice Al e.log.length cl)
    have h1:=HO2.out.Az (f:=e) (xd:=.slice Ad e.disk.length cd) (xm:=.slice Am e.mem.length cm) (xl:=.slice Al e.log.length cl) HP2.out
    have h2:=Ao (g:=w.heap.size + 1) (bj HB.out HB2.out) (by omega) e (.slice Ad e.disk.length cd) (.slice Am e.mem.length cm) (.slice Al e.log.length cl)
    have h3:=CK (g:=w.heap.size + 1) (Kept.of_below HB2.out (fun k => some k = (Value.slice Am e.mem.length cm).ownBlock)) (by omega) e (.slice Ad e.disk.length cd) (.slice Am e.mem.length cm) (.slice Al e.log.length cl)
    have z0:=hy.c0
    have z1:=hy.c1
    have z2:=hy.c2
    have z3:=hy.c3
    have z4:=hy.c4
    exact bodyPost_ret (v:=.tuple #[e.ag (.slice Ad e.disk.length cd) (.slice Am e.mem.length cm) (.slice Al e.log.length cl), .bool false]) (by simp [results,Tryz.results67,go_sem,z0,z1,z2,z3,z4]) rfl ⟨_,_,_,rfl,h1,h2,h3⟩
  have hmp:=(Dw.1 HM.out).2.2.1
  obtain ⟨p,rfl⟩ : ∃ p : Nat,page = (p : Int):=⟨page.toNat,by omega⟩
  have hp5 : p < 5:=by omega
  have hp5i : (p : Int) < 5:=by omega
  have hgm:=Aw HI.out.Fz
  have hmem5:=hgm.1
  obtain ⟨okd,okm, -, -,hpm⟩:=HO1.out.ex
  obtain ⟨gm,capm,hAm, -, -⟩:=Cb hpm (by omega)
  injection hAm with hA1 _ hA3
  subst hA1 hA3
  have hpl : p < e.mem.length:=by omega
  have hpli : (p : Int) < (e.mem.length : Int):=by omega
  obtain ⟨A2,c2,p0,p1,p2,pC, -⟩:=Dz hpm p hpl
  have hv3 : (pg e.mem p).vals.length = 3:=EW hgm hp5
  have HMF:=As (Dw.1 HM.out).1
  have HGM:=As hgm
  have HPC:=As pC
  have HP5:=As hp5
  obtain ⟨P,hP⟩ : ∃ P,pg e.mem p = P:=⟨_,rfl⟩
  have HPP:=As hP
  rw [hP] at p0 p1 p2 HPC hv3
  have HFB : Ac (Pn e tx (p : Int) slot val = true ↔ P.owner ≠ 0 ∧ inB slot 0 2 = true ∧ inB val 0 9 = true):=⟨by rw [Pn,HM.out,Int.toNat_natCast,hP];simp⟩
  clear hmp hgm hpm pC hP hmem5
  cases h1 : inB slot 0 2
  · have H1:=As h1
    rw [HFE.out,if_neg (fun h => by have:=(HFB.out.1 h).2.1;rw [h1] at this;cases this)]
    clear h1 hv3
    go_enter Tryz.func67,Tryz.ntmps67
    go_wp2_with (first
      | (go_at_call 124;rw [show (w.alloc (Obj.cells #[Value.slice Ad e.disk.length cd,Value.slice (some ⟨gm,0,none⟩) e.mem.length cm,Value.slice Al e.log.length cl,Value.int IntKind.i64 e.safe,Value.bool e.down] 28)).alloc (Obj.cells #[Value.slice none 0 0,Value.slice none 0 0,Value.slice none 0 0,Value.int IntKind.i64 0,Value.bool false] 28) = w1 from HW1.out];refine (BN (cd:=cd) (cm:=cm) (cl:=cl) tx (p : Int) HM.out HI.out.core (Below.refl w1.heap.size w1) HC1.out).mono ?_;rintro x w2 ⟨rfl,hb2⟩;replace x0:=bc hb2 x0;replace x1:=bc hb2 x1;replace x2:=bc hb2 x2;replace x3:=bc hb2 x3;replace x4:=bc hb2 x4;replace p1:=bc hb2 p1;have HO2:=As (HO1.out.below hb2);have HB2:=As (bj HB1.out hb2);have hp:=HP1.out.up hb2;have HP2:=As hp;have y0:=hp.c0;have y1:=hp.c1;have y2:=hp.c2;have y3:=hp.c3;have y4:=hp.c4;have f0:=hp.frz 0;have f1:=hp.frz 1;have f2:=hp.frz 2;have f3:=hp.frz 3;have f4:=hp.frz 4;clear hp hb2)
      | (go_at_call 55;refine (BL _ _ _ _).mono ?_;(first | rw [H1.out]);rintro x w' ⟨rfl,rfl⟩))
    have hz:=HZ1.out
    have hs0:=HB.out.size
    have hy:=HP2.out.Az e (.slice Ad e.disk.length cd) (.slice (some ⟨gm,0,none⟩) e.mem.length cm) (.slice Al e.log.length cl)
    have h1:=HO2.out.Az (f:=e) (xd:=.slice Ad e.disk.length cd) (xm:=.slice (some ⟨gm,0,none⟩) e.mem.length cm) (xl:=.slice Al e.log.length cl) HP2.out
    have h2:=Ao (g:=w.heap.size + 1) (bj HB.out HB2.out) (by omega) e (.slice Ad e.disk.length cd) (.slice (some ⟨gm,0,none⟩) e.mem.length cm) (.slice Al e.log.length cl)
    have h3:=CK (g:=w.heap.size + 1) (Kept.of_below HB2.out (fun k => some k = (Value.slice (some ⟨gm,0,none⟩) e.mem.length cm).ownBlock)) (by omega) e (.slice Ad e.disk.length cd) (.slice (some ⟨gm,0,none⟩) e.mem.length cm) (.slice Al e.log.length cl)
    have z0:=hy.c0
    have z1:=hy.c1
    have z2:=hy.c2
    have z3:=hy.c3
    have z4:=hy.c4
    exact bodyPost_ret (v:=.tuple #[e.ag (.slice Ad e.disk.length cd) (.slice (some ⟨gm,0,none⟩) e.mem.length cm) (.slice Al e.log.length cl), .bool false]) (by simp [results,Tryz.results67,go_sem,z0,z1,z2,z3,z4]) rfl ⟨_,_,_,rfl,h1,h2,h3⟩
  have H1:=As h1
  cases h2 : inB val 0 9
  · have H2:=As h2
    rw [HFE.out,if_neg (fun h => by have:=(HFB.out.1 h).2.2;rw [h2] at this;cases this)]
    clear h1 h2 hv3
    go_enter Tryz.func67,Tryz.ntmps67
    go_wp2_with (first
      | (go_at_call 124;rw [show (w.alloc (Obj.cells #[Value.slice Ad e.disk.length cd,Value.slice (some ⟨gm,0,none⟩) e.mem.length cm,Value.slice Al e.log.length cl,Value.int IntKind.i64 e.safe,Value.bool e.down] 28)).alloc (Obj.cells #[Value.slice none 0 0,Value.slice none 0 0,Value.slice none 0 0,Value.int IntKind.i64 0,Value.bool false] 28) = w1 from HW1.out];refine (BN (cd:=cd) (cm:=cm) (cl:=cl) tx (p : Int) HM.out HI.out.core (Below.refl w1.heap.size w1) HC1.out).mono ?_;rintro x w2 ⟨rfl,hb2⟩;replace x0:=bc hb2 x0;replace x1:=bc hb2 x1;replace x2:=bc hb2 x2;replace x3:=bc hb2 x3;replace x4:=bc hb2 x4;replace p1:=bc hb2 p1;have HO2:=As (HO1.out.below hb2);have HB2:=As (bj HB1.out hb2);have hp:=HP1.out.up hb2;have HP2:=As hp;have y0:=hp.c0;have y1:=hp.c1;have y2:=hp.c2;have y3:=hp.c3;have y4:=hp.c4;have f0:=hp.frz 0;have f1:=hp.frz 1;have f2:=hp.frz 2;have f3:=hp.frz 3;have f4:=hp.frz 4;clear hp hb2)
      | (go_at_call 55;refine (BL _ _ _ _).mono ?_;(first | rw [H1.out] | rw [H2.out]);rintro x w' ⟨rfl,rfl⟩))
    have hz:=HZ1.out
    have hs0:=HB.out.size
    have hy:=HP2.out.Az e (.slice Ad e.disk.length cd) (.slice (some ⟨gm,0,none⟩) e.mem.length cm) (.slice Al e.log.length cl)
    have h1:=HO2.out.Az (f:=e) (xd:=.slice Ad e.disk.length cd) (xm:=.slice (some ⟨gm,0,none⟩) e.mem.length cm) (xl:=.slice Al e.log.length cl) HP2.out
    have h2:=Ao (g:=w.heap.size + 1) (bj HB.out HB2.out) (by omega) e (.slice Ad e.disk.length cd) (.slice (some ⟨gm,0,none⟩) e.mem.length cm) (.slice Al e.log.length cl)
    have h3:=CK (g:=w.heap.size + 1) (Kept.of_below HB2.out (fun k => some k = (Value.slice (some ⟨gm,0,none⟩) e.mem.length cm).ownBlock)) (by omega) e (.slice Ad e.disk.length cd) (.slice (some ⟨gm,0,none⟩) e.mem.length cm) (.slice Al e.log.length cl)
    have z0:=hy.c0
    have z1:=hy.c1
    have z2:=hy.c2
    have z3:=hy.c3
    have z4:=hy.c4
    exact bodyPost_ret (v:=.tuple #[e.ag (.slice Ad e.disk.length cd) (.slice (some ⟨gm,0,none⟩) e.mem.length cm) (.slice Al e.log.length cl), .bool false]) (by simp [results,Tryz.results67,go_sem,z0,z1,z2,z3,z4]) rfl ⟨_,_,_,rfl,h1,h2,h3⟩
  have H2:=As h2
  rcases BO P.owner 0 with ⟨e1,b1,c1⟩ | ⟨e1,b1,c1⟩
  · rw [HFE.out,if_neg (fun h => (HFB.out.1 h).1 e1.out)]
    clear h1 h2 hv3
    go_enter Tryz.func67,Tryz.ntmps67
    go_wp2_with (first
      | (go_at_call 124;rw [show (w.alloc (Obj.cells #[Value.slice Ad e.disk.length cd,Value.slice (some ⟨gm,0,none⟩) e.mem.length cm,Value.slice Al e.log.length cl,Value.int IntKind.i64 e.safe,Value.bool e.down] 28)).alloc (Obj.cells #[Value.slice none 0 0,Value.slice none 0 0,Value.slice none 0 0,Value.int IntKind.i64 0,Value.bool false] 28) = w1 from HW1.out];refine (BN (cd:=cd) (cm:=cm) (cl:=cl) tx (p : Int) HM.out HI.out.core (Below.refl w1.heap.size w1) HC1.out).mono ?_;rintro x w2 ⟨rfl,hb2⟩;replace x0:=bc hb2 x0;replace x1:=bc hb2 x1;replace x2:=bc hb2 x2;replace x3:=bc hb2 x3;replace x4:=bc hb2 x4;replace p1:=bc hb2 p1;have HO2:=As (HO1.out.below hb2);have HB2:=As (bj HB1.out hb2);have hp:=HP1.out.up hb2;have HP2:=As hp;have y0:=hp.c0;have y1:=hp.c1;have y2:=hp.c2;have y3:=hp.c3;have y4:=hp.c4;have f0:=hp.frz 0;have f1:=hp.frz 1;have f2:=hp.frz 2;have f3:=hp.frz 3;have f4:=hp.frz 4;clear hp hb2)
      | (go_at_call 55;refine (BL _ _ _ _).mono ?_;(first | rw [H1.out] | rw [H2.out]);rintro x w' ⟨rfl,rfl⟩))
    have hz:=HZ1.out
    have hs0:=HB.out.size
    have hy:=HP2.out.Az e (.slice Ad e.disk.length cd) (.slice (some ⟨gm,0,none⟩) e.mem.length cm) (.slice Al e.log.length cl)
    have h1:=HO2.out.Az (f:=e) (xd:=.slice Ad e.disk.length cd) (xm:=.slice (some ⟨gm,0,none⟩) e.mem.length cm) (xl:=.slice Al e.log.length cl) HP2.out
    have h2:=Ao (g:=w.heap.size + 1) (bj HB.out HB2.out) (by omega) e (.slice Ad e.disk.length cd) (.slice (some ⟨gm,0,none⟩) e.mem.length cm) (.slice Al e.log.length cl)
    have h3:=CK (g:=w.heap.size + 1) (Kept.of_below HB2.out (fun k => some k = (Value.slice (some ⟨gm,0,none⟩) e.mem.length cm).ownBlock)) (by omega) e (.slice Ad e.disk.length cd) (.slice (some ⟨gm,0,none⟩) e.mem.length cm) (.slice Al e.log.length cl)
    have z0:=hy.c0
    have z1:=hy.c1
    have z2:=hy.c2
    have z3:=hy.c3
    have z4:=hy.c4
    exact bodyPost_ret (v:=.tuple #[e.ag (.slice Ad e.disk.length cd) (.slice (some ⟨gm,0,none⟩) e.mem.length cm) (.slice Al e.log.length cl), .bool false]) (by simp [results,Tryz.results67,go_sem,z0,z1,z2,z3,z4]) rfl ⟨_,_,_,rfl,h1,h2,h3⟩
  have hFBT:=HFB.out.2 ⟨e1.out,h1,h2⟩
  rw [Dj] at h1
  obtain ⟨s,rfl⟩ : ∃ s : Nat,slot = (s : Int):=⟨slot.toNat,by omega⟩
  have hsl : s < P.vals.length:=by omega
  have hs3i : (s : Int) < 3:=by omega
  obtain ⟨ad,rfl,z0⟩:=Dg HPC.out s hsl
  have hI:=HI.out.V8 HBB.out hFBT
  obtain ⟨E,hE⟩ : ∃ E,e.app (N9 e tx (p : Int) (s : Int) val) = E:=⟨_,rfl⟩
  have hHR : (N9 e tx (p : Int) (s : Int) val).val = .agg #[.int .i64 1, .int .i64 tx, .int .i64 (p : Int), .int .i64 (s : Int), .int .i64 (iv P.vals s), .int .i64 val, .int .i64 0, .int .i64 0]:=by rw [← HPP.out];rfl
  have HCALL : Ac (∀ wx,AU wx w0.heap.size (.slice Ad e.disk.length cd) (.slice (some ⟨gm,0,none⟩) e.mem.length cm) (.slice Al e.log.length cl) e → Below w0.heap.size w0 wx → Calls Tryz.prog 125 #[e.val Ad (some ⟨gm,0,none⟩) Al cd cm cl, .agg #[.int .i64 1, .int .i64 tx, .int .i64 (p : Int), .int .i64 (s : Int), .int .i64 (iv P.vals s), .int .i64 val, .int .i64 0, .int .i64 0]] wx (GX w0 wx (.slice (some ⟨gm,0,none⟩) e.mem.length cm) E true)):=⟨fun wx ho hb => by
    have h:=Ew (N9 e tx (p : Int) (s : Int) val) HGM.out hI.core.log (hI.Tf rfl (IX _ _)) (fun _ => ⟨by show (0 : Int) ≤ (p : Int);omega,by show (p : Int) < 5;omega,by show (s : Int) < 3;omega⟩) hb ho
    rw [hHR,hE] at h
    exact h⟩
  rw [HFE.out,if_pos hFBT,hE]
  clear hI hE hHR hFBT h1 h2 hv3
  go_enter Tryz.func67,Tryz.ntmps67
  go_wp2_with (first
    | (go_at_call 124;rw [show (w.alloc (Obj.cells #[Value.slice Ad e.disk.length cd,Value.slice (some ⟨gm,0,none⟩) e.mem.length cm,Value.slice Al e.log.length cl,Value.int IntKind.i64 e.safe,Value.bool e.down] 28)).alloc (Obj.cells #[Value.slice none 0 0,Value.slice none 0 0,Value.slice none 0 0,Value.int IntKind.i64 0,Value.bool false] 28) = w1 from HW1.out];refine (BN (cd:=cd) (cm:=cm) (cl:=cl) tx (p : Int) HM.out HI.out.core (Below.refl w1.heap.size w1) HC1.out).mono ?_;rintro x w2 ⟨rfl,hb2⟩;replace x0:=bc hb2 x0;replace x1:=bc hb2 x1;replace x2:=bc hb2 x2;replace x3:=bc hb2 x3;replace x4:=bc hb2 x4;replace p1:=bc hb2 p1;replace p2:=bc hb2 p2;replace z0:=bc hb2 z0;have HO2:=As (HO1.out.below hb2);have HB2:=As (bj HB1.out hb2);have hp:=HP1.out.up hb2;have HP2:=As hp;have y0:=hp.c0;have y1:=hp.c1;have y2:=hp.c2;have y3:=hp.c3;have y4:=hp.c4;have f0:=hp.frz 0;have f1:=hp.frz 1;have f2:=hp.frz 2;have f3:=hp.frz 3;have f4:=hp.frz 4;clear hp hb2)
    | (go_at_call 55;refine (BL _ _ _ _).mono ?_;(first | rw [H1.out] | rw [H2.out]);rintro x w' ⟨rfl,rfl⟩))
  clear y0 y1 y2 y3 y4 f0 f1 f2 f3 f4
  refine AX (fun lx a wx => (Below w0.heap.size w0 wx ∧ Ip w (.slice (some ⟨gm,0,none⟩) e.mem.length cm) wx) ∧ (Un 15 (fun wx => Below w2.heap.size w2 wx) lx a wx ∧ (Un 18 (fun wx => Ip w2 (.slice (some ⟨gm,0,none⟩) e.mem.length cm) wx) lx a wx ∧ (Sl 15 52 (fun v wx => ∃ ud um ul,v = .tuple #[E.ag ud um ul, .bool true] ∧ AU wx w0.heap.size ud um ul E) lx a wx ∧ Ys 18 (fun wx => ∃ ud um ul,Ai wx (w.heap.size + 1) E ud um ul ∧ AU wx w0.heap.size ud um ul E) lx a wx)))) 20 rfl (by kernel_rfl) (⟨⟨Ak (bj HB.out HB2.out),Kept.drew (Kept.of_below HB2.out _)⟩,fun _ => Ak (Below.refl _ _),fun _ => Kept.drew (Kept.refl _ _),Bc,Gx⟩) (fun HT => ?_)
  refine Aq (i:=0) (v:=?_) 15 HT rfl (by kernel_rfl) (by kernel_rfl) rfl (kA Aa (kA (Ag rfl) (kA (Ag rfl) (kA (Ab rfl rfl) (Ap rfl))))) (by rfl) (fun _ _ _ h => h) (fun lx ax wx hK hS => ?_) ?_;rotate_left;(have hbx:=hS.2.1 hK;clear hS;replace x0:=bc hbx x0;replace x1:=bc hbx x1;replace x2:=bc hbx x2;replace x3:=bc hbx x3;replace x4:=bc hbx x4;replace p2:=bc hbx p2;replace z0:=bc hbx z0;go_simp;with_reducible rfl);rotate_left;simp only [sc0,sc1]
  refine Aq (i:=1) (v:=?_) 15 HT rfl (by kernel_rfl) (by kernel_rfl) rfl (kA Aa (kA (Ag rfl) (kA (Ag rfl) (kA (Ab rfl rfl) (Ap rfl))))) (by rfl) (fun _ _ _ h => h) (fun lx ax wx hK hS => ?_) ?_;rotate_left;(have hbx:=hS.2.1 hK;clear hS;replace x0:=bc hbx x0;replace x1:=bc hbx x1;replace x2:=bc hbx x2;replace x3:=bc hbx x3;replace x4:=bc hbx x4;replace p2:=bc hbx p2;replace z0:=bc hbx z0;go_simp;with_reducible rfl);rotate_left;simp only [sc0,sc1]
  refine Aq (i:=2) (v:=?_) 15 HT rfl (by kernel_rfl) (by kernel_rfl) rfl (kA Aa (kA (Ag rfl) (kA (Ag rfl) (kA (Ab rfl rfl) (Ap rfl))))) (by rfl) (fun _ _ _ h => h) (fun lx ax wx hK hS => ?_) ?_;rotate_left;(have hbx:=hS.2.1 hK;clear hS;replace x0:=bc hbx x0;replace x1:=bc hbx x1;replace x2:=bc hbx x2;replace x3:=bc hbx x3;replace x4:=bc hbx x4;replace p2:=bc hbx p2;replace z0:=bc hbx z0;go_simp;with_reducible rfl);rotate_left;simp only [sc0,sc1]
  refine Aq (i:=3) (v:=?_) 15 HT rfl (by kernel_rfl) (by kernel_rfl) rfl (kA Aa (kA (Ag rfl) (kA (Ag rfl) (kA (Ab rfl rfl) (Ap rfl))))) (by rfl) (fun _ _ _ h => h) (fun lx ax wx hK hS => ?_) ?_;rotate_left;(have hbx:=hS.2.1 hK;clear hS;replace x0:=bc hbx x0;replace x1:=bc hbx x1;replace x2:=bc hbx x2;replace x3:=bc hbx x3;replace x4:=bc hbx x4;replace p2:=bc hbx p2;replace z0:=bc hbx z0;go_simp;with_reducible rfl);rotate_left;simp only [sc0,sc1]
  refine Aq (i:=4) (v:=?_) 15 HT rfl (by kernel_rfl) (by kernel_rfl) rfl (kA Aa (kA (Ag rfl) (kA (Ag rfl) (kA (Ab rfl rfl) (Ap rfl))))) (by rfl) (fun _ _ _ h => h) (fun lx ax wx hK hS => ?_) ?_;rotate_left;(have hbx:=hS.2.1 hK;clear hS;replace x0:=bc hbx x0;replace x1:=bc hbx x1;replace x2:=bc hbx x2;replace x3:=bc hbx x3;replace x4:=bc hbx x4;replace p2:=bc hbx p2;replace z0:=bc hbx z0;go_simp;with_reducible rfl);rotate_left;simp only [sc0,sc1]
  refine Aq (i:=5) (v:=?_) 15 HT rfl (by kernel_rfl) (by kernel_rfl) rfl (kA Aa (kA (Ag rfl) (kA (Ag rfl) (kA (Ab rfl rfl) (Ap rfl))))) (by rfl) (fun _ _ _ h => h) (fun lx ax wx hK hS => ?_) ?_;rotate_left;(have hbx:=hS.2.1 hK;clear hS;replace x0:=bc hbx x0;replace x1:=bc hbx x1;replace x2:=bc hbx x2;replace x3:=bc hbx x3;replace x4:=bc hbx x4;replace p2:=bc hbx p2;replace z0:=bc hbx z0;go_simp;with_reducible rfl);rotate_left;simp only [sc0,sc1]
  refine Aq (i:=6) (v:=?_) 15 HT rfl (by kernel_rfl) (by kernel_rfl) rfl (kA Aa (kA (Ag rfl) (kA (Ag rfl) (kA (Ab rfl rfl) (Ap rfl))))) (by rfl) (fun _ _ _ h => h) (fun lx ax wx hK hS => ?_) ?_;rotate_left;(have hbx:=hS.2.1 hK;clear hS;replace x0:=bc hbx x0;replace x1:=bc hbx x1;replace x2:=bc hbx x2;replace x3:=bc hbx x3;replace x4:=bc hbx x4;replace p2:=bc hbx p2;replace z0:=bc hbx z0;go_simp;with_reducible rfl);rotate_left;simp only [sc0,sc1]
  refine Aq (i:=7) (v:=?_) 15 HT rfl (by kernel_rfl) (by kernel_rfl) rfl (kA Aa (kA (Ag rfl) (kA (Ag rfl) (kA (Ab rfl rfl) (Ap rfl))))) (by rfl) (fun _ _ _ h => h) (fun lx ax wx hK hS => ?_) ?_;rotate_left;(have hbx:=hS.2.1 hK;clear hS;replace x0:=bc hbx x0;replace x1:=bc hbx x1;replace x2:=bc hbx x2;replace x3:=bc hbx x3;replace x4:=bc hbx x4;replace p2:=bc hbx p2;replace z0:=bc hbx z0;go_simp;with_reducible rfl);rotate_left;simp only [sc0,sc1]
  refine Aq (i:=8) (v:=?_) 15 HT rfl (by kernel_rfl) (by kernel_rfl) rfl (kA Aa (kA (Ag rfl) (kA (Ag rfl) (kA (Ab rfl rfl) (Ap rfl))))) (by rfl) (fun _ _ _ h => h) (fun lx ax wx hK hS => ?_) ?_;rotate_left;(have hbx:=hS.2.1 hK;clear hS;replace x0:=bc hbx x0;replace x1:=bc hbx x1;replace x2:=bc hbx x2;replace x3:=bc hbx x3;replace x4:=bc hbx x4;replace p2:=bc hbx p2;replace z0:=bc hbx z0;go_simp;with_reducible rfl);rotate_left;simp only [sc0,sc1]
  refine Aq (i:=9) (v:=?_) 15 HT rfl (by kernel_rfl) (by kernel_rfl) rfl (kA Aa (kA (Ag rfl) (kA (Ag rfl) (kA (Ab rfl rfl) (Ap rfl))))) (by rfl) (fun _ _ _ h => h) (fun lx ax wx hK hS => ?_) ?_;rotate_left;(have hbx:=hS.2.1 hK;clear hS;replace x0:=bc hbx x0;replace x1:=bc hbx x1;replace x2:=bc hbx x2;replace x3:=bc hbx x3;replace x4:=bc hbx x4;replace p2:=bc hbx p2;replace z0:=bc hbx z0;go_simp;with_reducible rfl);rotate_left;simp only [sc0,sc1]
  refine Aq (i:=10) (v:=?_) 15 HT rfl (by kernel_rfl) (by kernel_rfl) rfl (kA Aa (kA (Ag rfl) (kA (Ag rfl) (kA (Ab rfl rfl) (Ap rfl))))) (by rfl) (fun _ _ _ h => h) (fun lx ax wx hK hS => ?_) ?_;rotate_left;(have hbx:=hS.2.1 hK;clear hS;replace x0:=bc hbx x0;replace x1:=bc hbx x1;replace x2:=bc hbx x2;replace x3:=bc hbx x3;replace x4:=bc hbx x4;replace p2:=bc hbx p2;replace z0:=bc hbx z0;go_simp;with_reducible rfl);rotate_left;simp only [sc0,sc1]
  refine Aq (i:=11) (v:=?_) 15 HT rfl (by kernel_rfl) (by kernel_rfl) rfl (kA Aa (kA (Ag rfl) (kA (Ag rfl) (kA (Ab rfl rfl) (Ap rfl))))) (by rfl) (fun _ _ _ h => h) (fun lx ax wx hK hS => ?_) ?_;rotate_left;(have hbx:=hS.2.1 hK;clear hS;replace x0:=bc hbx x0;replace x1:=bc hbx x1;replace x2:=bc hbx x2;replace x3:=bc hbx x3;replace x4:=bc hbx x4;replace p2:=bc hbx p2;replace z0:=bc hbx z0;go_simp;with_reducible rfl);rotate_left;simp only [sc0,sc1]
  refine Aq (i:=12) (v:=?_) 15 HT rfl (by kernel_rfl) (by kernel_rfl) rfl (kA Aa (kA (Ag rfl) (kA (Ag rfl) (kA (Ab rfl rfl) (Ap rfl))))) (by rfl) (fun _ _ _ h => h) (fun lx ax wx hK hS => ?_) ?_;rotate_left;(have hbx:=hS.2.1 hK;clear hS;replace x0:=bc hbx x0;replace x1:=bc hbx x1;replace x2:=bc hbx x2;replace x3:=bc hbx x3;replace x4:=bc hbx x4;replace p2:=bc hbx p2;replace z0:=bc hbx z0;go_simp;with_reducible rfl);rotate_left;simp only [sc0,sc1]
  refine Aq (i:=13) (v:=?_) 15 HT rfl (by kernel_rfl) (by kernel_rfl) rfl (kA Aa (kA (Ag rfl) (kA (Ag rfl) (kA (Ab rfl rfl) (Ap rfl))))) (by rfl) (fun _ _ _ h => h) (fun lx ax wx hK hS => ?_) ?_;rotate_left;(have hbx:=hS.2.1 hK;clear hS;replace x0:=bc hbx x0;replace x1:=bc hbx x1;replace x2:=bc hbx x2;replace x3:=bc hbx x3;replace x4:=bc hbx x4;replace p2:=bc hbx p2;replace z0:=bc hbx z0;go_simp;with_reducible rfl);rotate_left;simp only [sc0,sc1]
  refine Aq (i:=14) (v:=?_) 15 HT rfl (by kernel_rfl) (by kernel_rfl) rfl (kA Aa (kA (Ag rfl) (kA (Ag rfl) (kA (Ab rfl rfl) (Ap rfl))))) (by rfl) (fun _ _ _ h => h) (fun lx ax wx hK hS => ?_) ?_;rotate_left;(have hbx:=hS.2.1 hK;clear hS;replace x0:=bc hbx x0;replace x1:=bc hbx x1;replace x2:=bc hbx x2;replace x3:=bc hbx x3;replace x4:=bc hbx x4;replace p2:=bc hbx p2;replace z0:=bc hbx z0;go_simp;with_reducible rfl);rotate_left;simp only [sc0,sc1]
  refine C9 (i:=15) (f:=125) (args:=#[e.val Ad (some ⟨gm,0,none⟩) Al cd cm cl, .agg #[.int .i64 1, .int .i64 tx, .int .i64 (p : Int), .int .i64 (s : Int), .int .i64 (iv P.vals s), .int .i64 val, .int .i64 0, .int .i64 0]]) (fun v => ∃ ud um ul,v = .tuple #[E.ag ud um ul, .bool true]) rfl (by kernel_rfl) rfl Tryz.func125 (by kernel_rfl) rfl rfl (by rfl) (by simp only [List.map_toArray,List.map_cons,List.map_nil];rfl) (fun wx hS => (HCALL.out wx (HO2.out.below (hS.2.1 (by kernel_rfl))) hS.1.1).mono (by rintro x w6 ⟨ud,um,ul,rfl,ho,hb,hk⟩;exact ⟨_,rfl,⟨ud,um,ul,rfl⟩,⟨hb,hS.1.2.D6 hk (fun k hk => .inl hk)⟩,fun h => (AL (by kernel_rfl) h).elim,fun _ => (hS.2.2.1 (by kernel_rfl)).D6 hk (fun k hk => .inl hk),fun _ => ⟨ud,um,ul,rfl,ho⟩,fun h => (AL h (by kernel_rfl)).elim⟩)) (fun vx hg => ?_);simp only [sc0,sc1]
  obtain ⟨ud,um,ul,rfl⟩:=hg
  refine Ae (i:=16) (v:=?_) HT rfl (by kernel_rfl) rfl (kA Aa (kA (Ag rfl) (kA (Ag rfl) (kA (Ab rfl rfl) (Ap rfl))))) (by rfl) (fun _ _ _ h => h) (fun lx ax wx hS => ?_) ?_;rotate_left;(go_simp;with_reducible rfl);rotate_left;simp only [sc0,sc1]
  refine Ae (i:=17) (v:=?_) HT rfl (by kernel_rfl) rfl (kA Aa (kA (Ag rfl) (kA (Ag rfl) (kA (Ab rfl rfl) (Ap rfl))))) (by rfl) (fun _ _ _ h => h) (fun lx ax wx hS => ?_) ?_;rotate_left;(go_simp;with_reducible rfl);rotate_left;simp only [sc0,sc1]
  refine Ba [18] (by kernel_rfl) (fun i hi wx hS => ?_)
  obtain rfl:=List.mem_singleton.1 hi
  clear hi
  obtain ⟨⟨h1,h2⟩, -,h3,h4, -⟩:=hS
  obtain ⟨ud',um',ul',hu',hown⟩:=h4 (by kernel_rfl)
  have hu' : Value.tuple #[E.ag ud um ul, .bool true] = .tuple #[E.ag ud' um' ul', .bool true]:=hu'
  obtain ⟨rfl,rfl,rfl⟩ : ud = ud' ∧ um = um' ∧ ul = ul':=by simpa using hu'
  obtain ⟨Bd,dd,Bm,dm,Bl,dl,rfl,rfl,rfl, -, -⟩:=hown.reads
  have hp:=HP2.out.EC HO2.out (h3 (by kernel_rfl))
  have y0:=hp.c0
  have y1:=hp.c1
  have y2:=hp.c2
  have y3:=hp.c3
  have y4:=hp.c4
  have f0:=hp.frz 0
  have f1:=hp.frz 1
  have f2:=hp.frz 2
  have f3:=hp.frz 3
  have f4:=hp.frz 4
  refine BJ (w1:=Go.Proofs.YtpjmlpmhgfghbaaGreat.Az wx (w.heap.size + 1) E (.slice Bd E.disk.length dd) (.slice Bm E.mem.length dm) (.slice Bl E.log.length dl)) rfl (by rfl) (by go_simp) ?_
  have hs0:=HB.out.size
  refine ⟨⟨⟨Ao (g:=w.heap.size + 1) h1 (by omega) E (.slice Bd E.disk.length dd) (.slice Bm E.mem.length dm) (.slice Bl E.log.length dl),CK (g:=w.heap.size + 1) h2 (by omega) E (.slice Bd E.disk.length dd) (.slice Bm E.mem.length dm) (.slice Bl E.log.length dl)⟩,fun h => (AL (by kernel_rfl) h).elim,fun h => (AL (by kernel_rfl) h).elim,fun _ => ⟨_,_,_,rfl,hown.Az (f:=E) (xd:=.slice Bd E.disk.length dd) (xm:=.slice Bm E.mem.length dm) (xl:=.slice Bl E.log.length dl) hp⟩,fun _ => ⟨_,_,_,hp.Az E (.slice Bd E.disk.length dd) (.slice Bm E.mem.length dm) (.slice Bl E.log.length dl),hown.Az (f:=E) (xd:=.slice Bd E.disk.length dd) (xm:=.slice Bm E.mem.length dm) (xl:=.slice Bl E.log.length dl) hp⟩⟩,?_⟩
  clear h1 h2 h3 h4 hu' hown hp y0 y1 y2 y3 y4 f0 f1 f2 f3 f4 hs0
  refine Ae (i:=19) (v:=?_) HT rfl (by kernel_rfl) rfl (kA Aa (kA (Ag rfl) (kA (Ag rfl) (kA (Ab rfl rfl) (Ap rfl))))) (by rfl) (fun _ _ _ h => h) (fun lx ax wx hS => ?_) ?_;rotate_left;(go_simp;with_reducible rfl);rotate_left;simp only [sc0,sc1]
  refine DV (by kernel_rfl) (fun w8 hS => ?_)
  obtain ⟨⟨h1,h2⟩, -, -, -,h5⟩:=hS
  obtain ⟨ud',um',ul',hq8,ho8⟩:=h5 (by kernel_rfl)
  have HX:=As (And.intro h1 (And.intro h2 ho8))
  have za:=hq8.c0
  have zb:=hq8.c1
  have zc:=hq8.c2
  have zd:=hq8.c3
  have ze:=hq8.c4
  clear h1 h2 h5 ho8 hq8 x0 x1 x2 x3 x4 p2 z0
  go_wp2
  exact bodyPost_ret (v:=.tuple #[E.ag ud' um' ul', .bool true]) (by simp [results,Tryz.results67,go_sem,za,zb,zc,zd,ze]) rfl ⟨ud',um',ul',rfl,HX.out.2.2,HX.out.1,HX.out.2.1⟩
set_option maxRecDepth 100000 in
set_option maxHeartbeats 16000000 in
theorem PI {w0 w : World} {e : Eng} {C : Nat → Page} {B : Nat} {vd vm vl : Value} (tx page table : Int) (hi : Inv e C B) (hB : B + 3 ≤ 150) (hb : Below w0.heap.size w0 w) (hr : AU w w0.heap.size vd vm vl e) : Calls Tryz.prog 68 #[e.ag vd vm vl, .int .i64 tx, .int .i64 page, .int .i64 table] w (GX w0 w vm (Le e tx page table).1 (Le e tx page table).2):=by
  have hFE : Le e tx page table = if ownB e tx page table = true then (e.app (Na e tx page table),true) else (e,false):=Inv.PV (fun hp => hi.Vk hB hp)
  obtain ⟨Ad,cd,Am,cm,Al,cl,rfl,rfl,rfl,hcl,hrd⟩:=hr.reads
  obtain ⟨w1a,hw1a⟩ : ∃ w1a,w.alloc (e.obox (.slice Ad e.disk.length cd) (.slice Am e.mem.length cm) (.slice Al e.log.length cl)) = w1a:=⟨_,rfl⟩
  obtain ⟨w1,hw1⟩ : ∃ w1,w1a.alloc (zE.obox (.slice none 0 0) (.slice none 0 0) (.slice none 0 0)) = w1:=⟨_,rfl⟩
  have hza : w1a.heap.size = w.heap.size + 1:=by rw [← hw1a];exact BF _ _
  have hz1 : w1.heap.size = w.heap.size + 2:=by rw [← hw1,BF,hza]
  have hba : Below w1a.heap.size w1a w1:=by rw [← hw1];exact Ah (Below.refl _ _) _
  have hb1 : Below w.heap.size w w1:=by rw [← hw1, ← hw1a];exact Ah (Ah (Below.refl _ _) _) _
  have HQ1 : Ac (Ai w1 w.heap.size e (.slice Ad e.disk.length cd) (.slice Am e.mem.length cm) (.slice Al e.log.length cl)):=⟨Ai.up (by rw [← hw1a];exact Ai.mk1 _ _ _ _ _) hba⟩
  have HP1 : Ac (Ai w1 (w.heap.size + 1) zE (.slice none 0 0) (.slice none 0 0) (.slice none 0 0)):=⟨by rw [← hw1, ← hza];exact Ai.mk1 _ _ _ _ _⟩
  have HW1 : Ac ((w.alloc (Obj.cells #[Value.slice Ad e.disk.length cd,Value.slice Am e.mem.length cm,Value.slice Al e.log.length cl,Value.int IntKind.i64 e.safe,Value.bool e.down] 28)).alloc (Obj.cells #[Value.slice none 0 0,Value.slice none 0 0,Value.slice none 0 0,Value.int IntKind.i64 0,Value.bool false] 28) = w1):=⟨by rw [← hw1, ← hw1a];rfl⟩
  have HZ1:=As hz1
  have HB1:=As hb1
  have HB:=As hb
  have HO1:=As (hr.below hb1)
  have HC1:=As (hrd.up hb1)
  have HI:=As hi
  have HBB:=As hB
  have x0:=HQ1.out.c0
  have x1:=HQ1.out.c1
  have x2:=HQ1.out.c2
  have x3:=HQ1.out.c3
  have x4:=HQ1.out.c4
  clear hw1a hw1 hza hz1 hba hb1 hb hr hrd hB
  obtain ⟨m,hm⟩ : ∃ m,DJ e tx page = m:=⟨_,rfl⟩
  have HM:=As hm
  have HFE:=As hFE
  clear hm hi hFE
  cases m
  · rw [HFE.out,if_neg (by rw [ownB,HM.out];simp)]
    go_enter Tryz.func68,Tryz.ntmps68
    go_wp2_with (first
      | (go_at_call 124;rw [show (w.alloc (Obj.cells #[Value.slice Ad e.disk.length cd,Value.slice Am e.mem.length cm,Value.slice Al e.log.length cl,Value.int IntKind.i64 e.safe,Value.bool e.down] 28)).alloc (Obj.cells #[Value.slice none 0 0,Value.slice none 0 0,Value.slice none 0 0,Value.int IntKind.i64 0,Value.bool false] 28) = w1 from HW1.out];refine (BN (cd:=cd) (cm:=cm) (cl:=cl) tx page HM.out HI.out.core (Below.refl w1.heap.size w1) HC1.out).mono ?_;rintro x w2 ⟨rfl,hb2⟩;replace x0:=bc hb2 x0;replace x1:=bc hb2 x1;replace x2:=bc hb2 x2;replace x3:=bc hb2 x3;replace x4:=bc hb2 x4;have HO2:=As (HO1.out.below hb2);have HB2:=As (bj HB1.out hb2);have hp:=HP1.out.up hb2;have HP2:=As hp;have y0:=hp.c0;have y1:=hp.c1;have y2:=hp.c2;have y3:=hp.c3;have y4:=hp.c4;have f0:=hp.frz 0;have f1:=hp.frz 1;have f2:=hp.frz 2;have f3:=hp.frz 3;have f4:=hp.frz 4;clear hp hb2))
    have hz:=HZ1.out
    have hs0:=HB.out.size
    have hy:=HP2.out.Az e (.slice Ad e.disk.length cd) (.slice Am e.mem.length cm) (.slice Al e.log.length cl)
    have h1:=HO2.out.Az (f:=e) (xd:=.slice Ad e.disk.length cd) (xm:=.slice Am e.mem.length cm) (xl:=.slice Al e.log.length cl) HP2.out
    have h2:=Ao (g:=w.heap.size + 1) (bj HB.out HB2.out) (by omega) e (.slice Ad e.disk.length cd) (.slice Am e.mem.length cm) (.slice Al e.log.length cl)
    have h3:=CK (g:=w.heap.size + 1) (Kept.of_below HB2.out (fun k => some k = (Value.slice Am e.mem.length cm).ownBlock)) (by omega) e (.slice Ad e.disk.length cd) (.slice Am e.mem.length cm) (.slice Al e.log.length cl)
    have z0:=hy.c0
    have z1:=hy.c1
    have z2:=hy.c2
    have z3:=hy.c3
    have z4:=hy.c4
    exact bodyPost_ret (v:=.tuple #[e.ag (.slice Ad e.disk.length cd) (.slice Am e.mem.length cm) (.slice Al e.log.length cl), .bool false]) (by simp [results,Tryz.results68,go_sem,z0,z1,z2,z3,z4]) rfl ⟨_,_,_,rfl,h1,h2,h3⟩
  have hmp:=(Dw.1 HM.out).2.2.1
  obtain ⟨p,rfl⟩ : ∃ p : Nat,page = (p : Int):=⟨page.toNat,by omega⟩
  have hp5 : p < 5:=by omega
  have hp5i : (p : Int) < 5:=by omega
  have hgm:=Aw HI.out.Fz
  have hmem5:=hgm.1
  obtain ⟨okd,okm, -, -,hpm⟩:=HO1.out.ex
  obtain ⟨gm,capm,hAm, -, -⟩:=Cb hpm (by omega)
  injection hAm with hA1 _ hA3
  subst hA1 hA3
  have hpl : p < e.mem.length:=by omega
  have hpli : (p : Int) < (e.mem.length : Int):=by omega
  obtain ⟨A2,c2,p0,p1,p2,pC, -⟩:=Dz hpm p hpl
  have hv3 : (pg e.mem p).vals.length = 3:=EW hgm hp5
  have HMF:=As (Dw.1 HM.out).1
  have HGM:=As hgm
  have HPC:=As pC
  have HP5:=As hp5
  obtain ⟨P,hP⟩ : ∃ P,pg e.mem p = P:=⟨_,rfl⟩
  have HPP:=As hP
  rw [hP] at p0 p1 p2 HPC hv3
  have HFB : Ac (ownB e tx (p : Int) table = true ↔ inB table 0 3 = true ∧ ((P.owner == 0) != (table == 0)) = true ∧ EG P.vals = true):=⟨by rw [ownB,HM.out,Int.toNat_natCast,hP];simp⟩
  clear hmp hgm hpm pC hP hmem5
  cases h1 : inB table 0 3
  · have H1:=As h1
    rw [HFE.out,if_neg (fun h => by have:=(HFB.out.1 h).1;rw [h1] at this;cases this)]
    clear h1 hv3
    go_enter Tryz.func68,Tryz.ntmps68
    go_wp2_with (first
      | (go_at_call 124;rw [show (w.alloc (Obj.cells #[Value.slice Ad e.disk.length cd,Value.slice (some ⟨gm,0,none⟩) e.mem.length cm,Value.slice Al e.log.length cl,Value.int IntKind.i64 e.safe,Value.bool e.down] 28)).alloc (Obj.cells #[Value.slice none 0 0,Value.slice none 0 0,Value.slice none 0 0,Value.int IntKind.i64 0,Value.bool false] 28) = w1 from HW1.out];refine (BN (cd:=cd) (cm:=cm) (cl:=cl) tx (p : Int) HM.out HI.out.core (Below.refl w1.heap.size w1) HC1.out).mono ?_;rintro x w2 ⟨rfl,hb2⟩;replace x0:=bc hb2 x0;replace x1:=bc hb2 x1;replace x2:=bc hb2 x2;replace x3:=bc hb2 x3;replace x4:=bc hb2 x4;replace p0:=bc hb2 p0;replace p1:=bc hb2 p1;replace p2:=bc hb2 p2;have HO2:=As (HO1.out.below hb2);have HB2:=As (bj HB1.out hb2);have hp:=HP1.out.up hb2;have HP2:=As hp;have y0:=hp.c0;have y1:=hp.c1;have y2:=hp.c2;have y3:=hp.c3;have y4:=hp.c4;have f0:=hp.frz 0;have f1:=hp.frz 1;have f2:=hp.frz 2;have f3:=hp.frz 3;have f4:=hp.frz 4;clear hp hb2)
      | (go_at_call 55;refine (BL _ _ _ _).mono ?_;(first | rw [H1.out]);rintro x w' ⟨rfl,rfl⟩))
    have hz:=HZ1.out
    have hs0:=HB.out.size
    have hy:=HP2.out.Az e (.slice Ad e.disk.length cd) (.slice (some ⟨gm,0,none⟩) e.mem.length cm) (.slice Al e.log.length cl)
    have h1:=HO2.out.Az (f:=e) (xd:=.slice Ad e.disk.length cd) (xm:=.slice (some ⟨gm,0,none⟩) e.mem.length cm) (xl:=.slice Al e.log.length cl) HP2.out
    have h2:=Ao (g:=w.heap.size + 1) (bj HB.out HB2.out) (by omega) e (.slice Ad e.disk.length cd) (.slice (some ⟨gm,0,none⟩) e.mem.length cm) (.slice Al e.log.length cl)
    have h3:=CK (g:=w.heap.size + 1) (Kept.of_below HB2.out (fun k => some k = (Value.slice (some ⟨gm,0,none⟩) e.mem.length cm).ownBlock)) (by omega) e (.slice Ad e.disk.length cd) (.slice (some ⟨gm,0,none⟩) e.mem.length cm) (.slice Al e.log.length cl)
    have z0:=hy.c0
    have z1:=hy.c1
    have z2:=hy.c2
    have z3:=hy.c3
    have z4:=hy.c4
    exact bodyPost_ret (v:=.tuple #[e.ag (.slice Ad e.disk.length cd) (.slice (some ⟨gm,0,none⟩) e.mem.length cm) (.slice Al e.log.length cl), .bool false]) (by simp [results,Tryz.results68,go_sem,z0,z1,z2,z3,z4]) rfl ⟨_,_,_,rfl,h1,h2,h3⟩
  have H1:=As h1
  cases hz : EG P.vals
  · rw [HFE.out,if_neg (fun h => by have:=(HFB.out.1 h).2.2;rw [hz] at this;cases this)]
    have HZE:=As hz
    clear h1 hz hv3
    rcases BO P.owner 0 with ⟨e1,b1,c1⟩ | ⟨e1,b1,c1⟩
    all_goals rcases BO table 0 with ⟨e2,b2,c2_⟩ | ⟨e2,b2,c2_⟩
    all_goals
      go_enter Tryz.func68,Tryz.ntmps68
      go_wp2_with (first
        | (go_at_call 124;rw [show (w.alloc (Obj.cells #[Value.slice Ad e.disk.length cd,Value.slice (some ⟨gm,0,none⟩) e.mem.length cm,Value.slice Al e.log.length cl,Value.int IntKind.i64 e.safe,Value.bool e.down] 28)).alloc (Obj.cells #[Value.slice none 0 0,Value.slice none 0 0,Value.slice none 0 0,Value.int IntKind.i64 0,Value.bool false] 28) = w1 from HW1.out];refine (BN (cd:=cd) (cm:=cm) (cl:=cl) tx (p : Int) HM.out HI.out.core (Below.refl w1.heap.size w1) HC1.out).mono ?_;rintro x w2 ⟨rfl,hb2⟩;replace x0:=bc hb2 x0;replace x1:=bc hb2 x1;replace x2:=bc hb2 x2;replace x3:=bc hb2 x3;replace x4:=bc hb2 x4;replace p0:=bc hb2 p0;replace p1:=bc hb2 p1;replace p2:=bc hb2 p2;have HO2:=As (HO1.out.below hb2);have HBM:=As hb2;have HB2:=As (bj HB1.out hb2);have hp:=HP1.out.up hb2;have HP2:=As hp;have y0:=hp.c0;have y1:=hp.c1;have y2:=hp.c2;have y3:=hp.c3;have y4:=hp.c4;have f0:=hp.frz 0;have f1:=hp.frz 1;have f2:=hp.frz 2;have f3:=hp.frz 3;have f4:=hp.frz 4;clear hp hb2)
        | (go_at_call 55;refine (BL _ _ _ _).mono ?_;(first | rw [H1.out]);rintro x w' ⟨rfl,rfl⟩)
        | (go_at_call 126;refine (EK HZE.out HBM.out HPC.out).mono ?_;rintro x w3 ⟨rfl,hb3⟩;replace x0:=bc hb3 x0;replace x1:=bc hb3 x1;replace x2:=bc hb3 x2;replace x3:=bc hb3 x3;replace x4:=bc hb3 x4;replace p1:=bc hb3 p1;clear y0 y1 y2 y3 y4 f0 f1 f2 f3 f4;replace HO2:=As (HO2.out.below hb3);replace HB2:=As (bj HB2.out hb3);have hp:=HP2.out.up hb3;replace HP2:=As hp;have y0:=hp.c0;have y1:=hp.c1;have y2:=hp.c2;have y3:=hp.c3;have y4:=hp.c4;have f0:=hp.frz 0;have f1:=hp.frz 1;have f2:=hp.frz 2;have f3:=hp.frz 3;have f4:=hp.frz 4;clear hp hb3))
      have hz:=HZ1.out
      have hs0:=HB.out.size
      have hy:=HP2.out.Az e (.slice Ad e.disk.length cd) (.slice (some ⟨gm,0,none⟩) e.mem.length cm) (.slice Al e.log.length cl)
      have h1:=HO2.out.Az (f:=e) (xd:=.slice Ad e.disk.length cd) (xm:=.slice (some ⟨gm,0,none⟩) e.mem.length cm) (xl:=.slice Al e.log.length cl) HP2.out
      have h2:=Ao (g:=w.heap.size + 1) (bj HB.out HB2.out) (by omega) e (.slice Ad e.disk.length cd) (.slice (some ⟨gm,0,none⟩) e.mem.length cm) (.slice Al e.log.length cl)
      have h3:=CK (g:=w.heap.size + 1) (Kept.of_below HB2.out (fun k => some k = (Value.slice (some ⟨gm,0,none⟩) e.mem.length cm).ownBlock)) (by omega) e (.slice Ad e.disk.length cd) (.slice (some ⟨gm,0,none⟩) e.mem.length cm) (.slice Al e.log.length cl)
      have z0:=hy.c0
      have z1:=hy.c1
      have z2:=hy.c2
      have z3:=hy.c3
      have z4:=hy.c4
      exact bodyPost_ret (v:=.tuple #[e.ag (.slice Ad e.disk.length cd) (.slice (some ⟨gm,0,none⟩) e.mem.length cm) (.slice Al e.log.length cl), .bool false]) (by simp [results,Tryz.results68,go_sem,z0,z1,z2,z3,z4]) rfl ⟨_,_,_,rfl,h1,h2,h3⟩
  have HZE:=As hz
  cases hne : ((P.owner == 0) != (table == 0))
  · rw [HFE.out,if_neg (fun h => by have:=(HFB.out.1 h).2.1;rw [hne] at this;cases this)]
    clear h1 hz hv3
    rcases BO P.owner 0 with ⟨e1,b1,c1⟩ | ⟨e1,b1,c1⟩
    all_goals rcases BO table 0 with ⟨e2,b2,c2_⟩ | ⟨e2,b2,c2_⟩
    all_goals first | (exfalso;rw [b1,b2] at hne;cases hne;done) | skip
    all_goals clear hne
    all_goals
      go_enter Tryz.func68,Tryz.ntmps68
      go_wp2_with (first
        | (go_at_call 124;rw [show (w.alloc (Obj.cells #[Value.slice Ad e.disk.length cd,Value.slice (some ⟨gm,0,none⟩) e.mem.length cm,Value.slice Al e.log.length cl,Value.int IntKind.i64 e.safe,Value.bool e.down] 28)).alloc (Obj.cells #[Value.slice none 0 0,Value.slice none 0 0,Value.slice none 0 0,Value.int IntKind.i64 0,Value.bool false] 28) = w1 from HW1.out];refine (BN (cd:=cd) (cm:=cm) (cl:=cl) tx (p : Int) HM.out HI.out.core (Below.refl w1.heap.size w1) HC1.out).mono ?_;rintro x w2 ⟨rfl,hb2⟩;replace x0:=bc hb2 x0;replace x1:=bc hb2 x1;replace x2:=bc hb2 x2;replace x3:=bc hb2 x3;replace x4:=bc hb2 x4;replace p0:=bc hb2 p0;replace p1:=bc hb2 p1;replace p2:=bc hb2 p2;have HO2:=As (HO1.out.below hb2);have HBM:=As hb2;have HB2:=As (bj HB1.out hb2);have hp:=HP1.out.up hb2;have HP2:=As hp;have y0:=hp.c0;have y1:=hp.c1;have y2:=hp.c2;have y3:=hp.c3;have y4:=hp.c4;have f0:=hp.frz 0;have f1:=hp.frz 1;have f2:=hp.frz 2;have f3:=hp.frz 3;have f4:=hp.frz 4;clear hp hb2)
        | (go_at_call 55;refine (BL _ _ _ _).mono ?_;(first | rw [H1.out]);rintro x w' ⟨rfl,rfl⟩))
      have hz:=HZ1.out
      have hs0:=HB.out.size
      have hy:=HP2.out.Az e (.slice Ad e.disk.length cd) (.slice (some ⟨gm,0,none⟩) e.mem.length cm) (.slice Al e.log.length cl)
      have h1:=HO2.out.Az (f:=e) (xd:=.slice Ad e.disk.length cd) (xm:=.slice (some ⟨gm,0,none⟩) e.mem.length cm) (xl:=.slice Al e.log.length cl) HP2.out
      have h2:=Ao (g:=w.heap.size + 1) (bj HB.out HB2.out) (by omega) e (.slice Ad e.disk.length cd) (.slice (some ⟨gm,0,none⟩) e.mem.length cm) (.slice Al e.log.length cl)
      have h3:=CK (g:=w.heap.size + 1) (Kept.of_below HB2.out (fun k => some k = (Value.slice (some ⟨gm,0,none⟩) e.mem.length cm).ownBlock)) (by omega) e (.slice Ad e.disk.length cd) (.slice (some ⟨gm,0,none⟩) e.mem.length cm) (.slice Al e.log.length cl)
      have z0:=hy.c0
      have z1:=hy.c1
      have z2:=hy.c2
      have z3:=hy.c3
      have z4:=hy.c4
      exact bodyPost_ret (v:=.tuple #[e.ag (.slice Ad e.disk.length cd) (.slice (some ⟨gm,0,none⟩) e.mem.length cm) (.slice Al e.log.length cl), .bool false]) (by simp [results,Tryz.results68,go_sem,z0,z1,z2,z3,z4]) rfl ⟨_,_,_,rfl,h1,h2,h3⟩
  have hFBT:=HFB.out.2 ⟨h1,hne,hz⟩
  clear h1 hz hv3
  rcases BO P.owner 0 with ⟨e1,b1,c1⟩ | ⟨e1,b1,c1⟩
  all_goals rcases BO table 0 with ⟨e2,b2,c2_⟩ | ⟨e2,b2,c2_⟩
  all_goals first | (exfalso;rw [b1,b2] at hne;cases hne;done) | skip
  all_goals clear hne
  all_goals
    have hI:=HI.out.Vk HBB.out hFBT
    obtain ⟨E,hE⟩ : ∃ E,e.app (Na e tx (p : Int) table) = E:=⟨_,rfl⟩
    have hHR : (Na e tx (p : Int) table).val = .agg #[.int .i64 2, .int .i64 tx, .int .i64 (p : Int), .int .i64 (-1), .int .i64 P.owner, .int .i64 table, .int .i64 0, .int .i64 0]:=by rw [← HPP.out];rfl
    have HCALL : Ac (∀ wx,AU wx w0.heap.size (.slice Ad e.disk.length cd) (.slice (some ⟨gm,0,none⟩) e.mem.length cm) (.slice Al e.log.length cl) e → Below w0.heap.size w0 wx → Calls Tryz.prog 125 #[e.val Ad (some ⟨gm,0,none⟩) Al cd cm cl, .agg #[.int .i64 2, .int .i64 tx, .int .i64 (p : Int), .int .i64 (-1), .int .i64 P.owner, .int .i64 table, .int .i64 0, .int .i64 0]] wx (GX w0 wx (.slice (some ⟨gm,0,none⟩) e.mem.length cm) E true)):=⟨fun wx ho hb => by
      have h:=Ew (Na e tx (p : Int) table) HGM.out hI.core.log (hI.Tf rfl (IX _ _)) (fun _ => ⟨by show (0 : Int) ≤ (p : Int);omega,by show (p : Int) < 5;omega,by show (-1 : Int) < 3;omega⟩) hb ho
      rw [hHR,hE] at h
      exact h⟩
    rw [HFE.out,if_pos hFBT,hE]
    clear hI hE hHR hFBT
    go_enter Tryz.func68,Tryz.ntmps68
    go_wp2_with (first
      | (go_at_call 124;rw [show (w.alloc (Obj.cells #[Value.slice Ad e.disk.length cd,Value.slice (some ⟨gm,0,none⟩) e.mem.length cm,Value.slice Al e.log.length cl,Value.int IntKind.i64 e.safe,Value.bool e.down] 28)).alloc (Obj.cells #[Value.slice none 0 0,Value.slice none 0 0,Value.slice none 0 0,Value.int IntKind.i64 0,Value.bool false] 28) = w1 from HW1.out];refine (BN (cd:=cd) (cm:=cm) (cl:=cl) tx (p : Int) HM.out HI.out.core (Below.refl w1.heap.size w1) HC1.out).mono ?_;rintro x w2 ⟨rfl,hb2⟩;replace x0:=bc hb2 x0;replace x1:=bc hb2 x1;replace x2:=bc hb2 x2;replace x3:=bc hb2 x3;replace x4:=bc hb2 x4;replace p0:=bc hb2 p0;replace p1:=bc hb2 p1;replace p2:=bc hb2 p2;have HO2:=As (HO1.out.below hb2);have HBM:=As hb2;have HB2:=As (bj HB1.out hb2);have hp:=HP1.out.up hb2;have HP2:=As hp;have y0:=hp.c0;have y1:=hp.c1;have y2:=hp.c2;have y3:=hp.c3;have y4:=hp.c4;have f0:=hp.frz 0;have f1:=hp.frz 1;have f2:=hp.frz 2;have f3:=hp.frz 3;have f4:=hp.frz 4;clear hp hb2)
      | (go_at_call 55;refine (BL _ _ _ _).mono ?_;(first | rw [H1.out]);rintro x w' ⟨rfl,rfl⟩)
      | (go_at_call 126;refine (EK HZE.out HBM.out HPC.out).mono ?_;rintro x w3 ⟨rfl,hb3⟩;replace x0:=bc hb3 x0;replace x1:=bc hb3 x1;replace x2:=bc hb3 x2;replace x3:=bc hb3 x3;replace x4:=bc hb3 x4;replace p1:=bc hb3 p1;clear y0 y1 y2 y3 y4 f0 f1 f2 f3 f4;replace HO2:=As (HO2.out.below hb3);replace HB2:=As (bj HB2.out hb3);have hp:=HP2.out.up hb3;replace HP2:=As hp;have y0:=hp.c0;have y1:=hp.c1;have y2:=hp.c2;have y3:=hp.c3;have y4:=hp.c4;have f0:=hp.frz 0;have f1:=hp.frz 1;have f2:=hp.frz 2;have f3:=hp.frz 3;have f4:=hp.frz 4;clear hp hb3))
    clear y0 y1 y2 y3 y4 f0 f1 f2 f3 f4
    refine AX (fun lx a wx => (Below w0.heap.size w0 wx ∧ Ip w (.slice (some ⟨gm,0,none⟩) e.mem.length cm) wx) ∧ (Un 11 (fun wx => Below w3.heap.size w3 wx) lx a wx ∧ (Un 14 (fun wx => Ip w3 (.slice (some ⟨gm,0,none⟩) e.mem.length cm) wx) lx a wx ∧ (Sl 11 53 (fun v wx => ∃ ud um ul,v = .tuple #[E.ag ud um ul, .bool true] ∧ AU wx w0.heap.size ud um ul E) lx a wx ∧ Ys 14 (fun wx => ∃ ud um ul,Ai wx (w.heap.size + 1) E ud um ul ∧ AU wx w0.heap.size ud um ul E) lx a wx)))) 16 rfl (by kernel_rfl) (⟨⟨Ak (bj HB.out HB2.out),Kept.drew (Kept.of_below HB2.out _)⟩,fun _ => Ak (Below.refl _ _),fun _ => Kept.drew (Kept.refl _ _),Bc,Gx⟩) (fun HT => ?_)
    refine Aq (i:=0) (v:=?_) 11 HT rfl (by kernel_rfl) (by kernel_rfl) rfl (kA Aa (kA (Ag rfl) (kA (Ag rfl) (kA (Ab rfl rfl) (Ap rfl))))) (by rfl) (fun _ _ _ h => h) (fun lx ax wx hK hS => ?_) ?_;rotate_left;(have hbx:=hS.2.1 hK;clear hS;replace x0:=bc hbx x0;replace x1:=bc hbx x1;replace x2:=bc hbx x2;replace x3:=bc hbx x3;replace x4:=bc hbx x4;replace p1:=bc hbx p1;go_simp;with_reducible rfl);rotate_left;simp only [sc0,sc1]
    refine Aq (i:=1) (v:=?_) 11 HT rfl (by kernel_rfl) (by kernel_rfl) rfl (kA Aa (kA (Ag rfl) (kA (Ag rfl) (kA (Ab rfl rfl) (Ap rfl))))) (by rfl) (fun _ _ _ h => h) (fun lx ax wx hK hS => ?_) ?_;rotate_left;(have hbx:=hS.2.1 hK;clear hS;replace x0:=bc hbx x0;replace x1:=bc hbx x1;replace x2:=bc hbx x2;replace x3:=bc hbx x3;replace x4:=bc hbx x4;replace p1:=bc hbx p1;go_simp;with_reducible rfl);rotate_left;simp only [sc0,sc1]
    refine Aq (i:=2) (v:=?_) 11 HT rfl (by kernel_rfl) (by kernel_rfl) rfl (kA Aa (kA (Ag rfl) (kA (Ag rfl) (kA (Ab rfl rfl) (Ap rfl))))) (by rfl) (fun _ _ _ h => h) (fun lx ax wx hK hS => ?_) ?_;rotate_left;(have hbx:=hS.2.1 hK;clear hS;replace x0:=bc hbx x0;replace x1:=bc hbx x1;replace x2:=bc hbx x2;replace x3:=bc hbx x3;replace x4:=bc hbx x4;replace p1:=bc hbx p1;go_simp;with_reducible rfl);rotate_left;simp only [sc0,sc1]
    refine Aq (i:=3) (v:=?_) 11 HT rfl (by kernel_rfl) (by kernel_rfl) rfl (kA Aa (kA (Ag rfl) (kA (Ag rfl) (kA (Ab rfl rfl) (Ap rfl))))) (by rfl) (fun _ _ _ h => h) (fun lx ax wx hK hS => ?_) ?_;rotate_left;(have hbx:=hS.2.1 hK;clear hS;replace x0:=bc hbx x0;replace x1:=bc hbx x1;replace x2:=bc hbx x2;replace x3:=bc hbx x3;replace x4:=bc hbx x4;replace p1:=bc hbx p1;go_simp;with_reducible rfl);rotate_left;simp only [sc0,sc1]
    refine Aq (i:=4) (v:=?_) 11 HT rfl (by kernel_rfl) (by kernel_rfl) rfl (kA Aa (kA (Ag rfl) (kA (Ag rfl) (kA (Ab rfl rfl) (Ap rfl))))) (by rfl) (fun _ _ _ h => h) (fun lx ax wx hK hS => ?_) ?_;rotate_left;(have hbx:=hS.2.1 hK;clear hS;replace x0:=bc hbx x0;replace x1:=bc hbx x1;replace x2:=bc hbx x2;replace x3:=bc hbx x3;replace x4:=bc hbx x4;replace p1:=bc hbx p1;go_simp;with_reducible rfl);rotate_left;simp only [sc0,sc1]
    refine Aq (i:=5) (v:=?_) 11 HT rfl (by kernel_rfl) (by kernel_rfl) rfl (kA Aa (kA (Ag rfl) (kA (Ag rfl) (kA (Ab rfl rfl) (Ap rfl))))) (by rfl) (fun _ _ _ h => h) (fun lx ax wx hK hS => ?_) ?_;rotate_left;(have hbx:=hS.2.1 hK;clear hS;replace x0:=bc hbx x0;replace x1:=bc hbx x1;replace x2:=bc hbx x2;replace x3:=bc hbx x3;replace x4:=bc hbx x4;replace p1:=bc hbx p1;go_simp;with_reducible rfl);rotate_left;simp only [sc0,sc1]
    refine Aq (i:=6) (v:=?_) 11 HT rfl (by kernel_rfl) (by kernel_rfl) rfl (kA Aa (kA (Ag rfl) (kA (Ag rfl) (kA (Ab rfl rfl) (Ap rfl))))) (by rfl) (fun _ _ _ h => h) (fun lx ax wx hK hS => ?_) ?_;rotate_left;(have hbx:=hS.2.1 hK;clear hS;replace x0:=bc hbx x0;replace x1:=bc hbx x1;replace x2:=bc hbx x2;replace x3:=bc hbx x3;replace x4:=bc hbx x4;replace p1:=bc hbx p1;go_simp;with_reducible rfl);rotate_left;simp only [sc0,sc1]
    refine Aq (i:=7) (v:=?_) 11 HT rfl (by kernel_rfl) (by kernel_rfl) rfl (kA Aa (kA (Ag rfl) (kA (Ag rfl) (kA (Ab rfl rfl) (Ap rfl))))) (by rfl) (fun _ _ _ h => h) (fun lx ax wx hK hS => ?_) ?_;rotate_left;(have hbx:=hS.2.1 hK;clear hS;replace x0:=bc hbx x0;replace x1:=bc hbx x1;replace x2:=bc hbx x2;replace x3:=bc hbx x3;replace x4:=bc hbx x4;replace p1:=bc hbx p1;go_simp;with_reducible rfl);rotate_left;simp only [sc0,sc1]
    refine Aq (i:=8) (v:=?_) 11 HT rfl (by kernel_rfl) (by kernel_rfl) rfl (kA Aa (kA (Ag rfl) (kA (Ag rfl) (kA (Ab rfl rfl) (Ap rfl))))) (by rfl) (fun _ _ _ h => h) (fun lx ax wx hK hS => ?_) ?_;rotate_left;(have hbx:=hS.2.1 hK;clear hS;replace x0:=bc hbx x0;replace x1:=bc hbx x1;replace x2:=bc hbx x2;replace x3:=bc hbx x3;replace x4:=bc hbx x4;replace p1:=bc hbx p1;go_simp;with_reducible rfl);rotate_left;simp only [sc0,sc1]
    refine Aq (i:=9) (v:=?_) 11 HT rfl (by kernel_rfl) (by kernel_rfl) rfl (kA Aa (kA (Ag rfl) (kA (Ag rfl) (kA (Ab rfl rfl) (Ap rfl))))) (by rfl) (fun _ _ _ h => h) (fun lx ax wx hK hS => ?_) ?_;rotate_left;(have hbx:=hS.2.1 hK;clear hS;replace x0:=bc hbx x0;replace x1:=bc hbx x1;replace x2:=bc hbx x2;replace x3:=bc hbx x3;replace x4:=bc hbx x4;replace p1:=bc hbx p1;go_simp;with_reducible rfl);rotate_left;simp only [sc0,sc1]
    refine Aq (i:=10) (v:=?_) 11 HT rfl (by kernel_rfl) (by kernel_rfl) rfl (kA Aa (kA (Ag rfl) (kA (Ag rfl) (kA (Ab rfl rfl) (Ap rfl))))) (by rfl) (fun _ _ _ h => h) (fun lx ax wx hK hS => ?_) ?_;rotate_left;(have hbx:=hS.2.1 hK;clear hS;replace x0:=bc hbx x0;replace x1:=bc hbx x1;replace x2:=bc hbx x2;replace x3:=bc hbx x3;replace x4:=bc hbx x4;replace p1:=bc hbx p1;go_simp;with_reducible rfl);rotate_left;simp only [sc0,sc1]
    refine C9 (i:=11) (f:=125) (args:=#[e.val Ad (some ⟨gm,0,none⟩) Al cd cm cl, .agg #[.int .i64 2, .int .i64 tx, .int .i64 (p : Int), .int .i64 (-1), .int .i64 P.owner, .int .i64 table, .int .i64 0, .int .i64 0]]) (fun v => ∃ ud um ul,v = .tuple #[E.ag ud um ul, .bool true]) rfl (by kernel_rfl) rfl Tryz.func125 (by kernel_rfl) rfl rfl (by rfl) (by simp only [List.map_toArray,List.map_cons,List.map_nil];rfl) (fun wx hS => (HCALL.out wx (HO2.out.below (hS.2.1 (by kernel_rfl))) hS.1.1).mono (by rintro x w6 ⟨ud,um,ul,rfl,ho,hb,hk⟩;exact ⟨_,rfl,⟨ud,um,ul,rfl⟩,⟨hb,hS.1.2.D6 hk (fun k hk => .inl hk)⟩,fun h => (AL (by kernel_rfl) h).elim,fun _ => (hS.2.2.1 (by kernel_rfl)).D6 hk (fun k hk => .inl hk),fun _ => ⟨ud,um,ul,rfl,ho⟩,fun h => (AL h (by kernel_rfl)).elim⟩)) (fun vx hg => ?_);simp only [sc0,sc1]
    obtain ⟨ud,um,ul,rfl⟩:=hg
    refine Ae (i:=12) (v:=?_) HT rfl (by kernel_rfl) rfl (kA Aa (kA (Ag rfl) (kA (Ag rfl) (kA (Ab rfl rfl) (Ap rfl))))) (by rfl) (fun _ _ _ h => h) (fun lx ax wx hS => ?_) ?_;rotate_left;(go_simp;with_reducible rfl);rotate_left;simp only [sc0,sc1]
    refine Ae (i:=13) (v:=?_) HT rfl (by kernel_rfl) rfl (kA Aa (kA (Ag rfl) (kA (Ag rfl) (kA (Ab rfl rfl) (Ap rfl))))) (by rfl) (fun _ _ _ h => h) (fun lx ax wx hS => ?_) ?_;rotate_left;(go_simp;with_reducible rfl);rotate_left;simp only [sc0,sc1]
    refine Ba [14] (by kernel_rfl) (fun i hi wx hS => ?_)
    obtain rfl:=List.mem_singleton.1 hi
    clear hi
    obtain ⟨⟨h1,h2⟩, -,h3,h4, -⟩:=hS
    obtain ⟨ud',um',ul',hu',hown⟩:=h4 (by kernel_rfl)
    have hu' : Value.tuple #[E.ag ud um ul, .bool true] = .tuple #[E.ag ud' um' ul', .bool true]:=hu'
    obtain ⟨rfl,rfl,rfl⟩ : ud = ud' ∧ um = um' ∧ ul = ul':=by simpa using hu'
    obtain ⟨Bd,dd,Bm,dm,Bl,dl,rfl,rfl,rfl, -, -⟩:=hown.reads
    have hp:=HP2.out.EC HO2.out (h3 (by kernel_rfl))
    have y0:=hp.c0
    have y1:=hp.c1
    have y2:=hp.c2
    have y3:=hp.c3
    have y4:=hp.c4
    have f0:=hp.frz 0
    have f1:=hp.frz 1
    have f2:=hp.frz 2
    have f3:=hp.frz 3
    have f4:=hp.frz 4
    refine BJ (w1:=Go.Proofs.YtpjmlpmhgfghbaaGreat.Az wx (w.heap.size + 1) E (.slice Bd E.disk.length dd) (.slice Bm E.mem.length dm) (.slice Bl E.log.length dl)) rfl (by rfl) (by go_simp) ?_
    have hs0:=HB.out.size
    refine ⟨⟨⟨Ao (g:=w.heap.size + 1) h1 (by omega) E (.slice Bd E.disk.length dd) (.slice Bm E.mem.length dm) (.slice Bl E.log.length dl),CK (g:=w.heap.size + 1) h2 (by omega) E (.slice Bd E.disk.length dd) (.slice Bm E.mem.length dm) (.slice Bl E.log.length dl)⟩,fun h => (AL (by kernel_rfl) h).elim,fun h => (AL (by kernel_rfl) h).elim,fun _ => ⟨_,_,_,rfl,hown.Az (f:=E) (xd:=.slice Bd E.disk.length dd) (xm:=.slice Bm E.mem.length dm) (xl:=.slice Bl E.log.length dl) hp⟩,fun _ => ⟨_,_,_,hp.Az E (.slice Bd E.disk.length dd) (.slice Bm E.mem.length dm) (.slice Bl E.log.length dl),hown.Az (f:=E) (xd:=.slice Bd E.disk.length dd) (xm:=.slice Bm E.mem.length dm) (xl:=.slice Bl E.log.length dl) hp⟩⟩,?_⟩
    clear h1 h2 h3 h4 hu' hown hp y0 y1 y2 y3 y4 f0 f1 f2 f3 f4 hs0
    refine Ae (i:=15) (v:=?_) HT rfl (by kernel_rfl) rfl (kA Aa (kA (Ag rfl) (kA (Ag rfl) (kA (Ab rfl rfl) (Ap rfl))))) (by rfl) (fun _ _ _ h => h) (fun lx ax wx hS => ?_) ?_;rotate_left;(go_simp;with_reducible rfl);rotate_left;simp only [sc0,sc1]
    refine DV (by kernel_rfl) (fun w8 hS => ?_)
    obtain ⟨⟨h1,h2⟩, -, -, -,h5⟩:=hS
    obtain ⟨ud',um',ul',hq8,ho8⟩:=h5 (by kernel_rfl)
    have HX:=As (And.intro h1 (And.intro h2 ho8))
    have za:=hq8.c0
    have zb:=hq8.c1
    have zc:=hq8.c2
    have zd:=hq8.c3
    have ze:=hq8.c4
    clear h1 h2 h5 ho8 hq8 x0 x1 x2 x3 x4 p1
    go_wp2
    exact bodyPost_ret (v:=.tuple #[E.ag ud' um' ul', .bool true]) (by simp [results,Tryz.results68,go_sem,za,zb,zc,zd,ze]) rfl ⟨ud',um',ul',rfl,HX.out.2.2,HX.out.1,HX.out.2.1⟩
theorem VD {e : Eng} {j : Nat} (h1 : 1 ≤ j) (h3 : j ≤ 3) (hp : ∀ i : Nat,1 ≤ i → i < j → lastT e (i : Int) = 0) (hj : lastT e (j : Int) ≠ 0) : AO e = j:=by
  unfold AO
  have hj' : j = 1 ∨ j = 2 ∨ j = 3:=by omega
  rcases hj' with rfl | rfl | rfl
  · rw [if_pos (show lastT e 1 ≠ 0 from hj)];rfl
  · rw [if_neg (fun h => h (hp 1 (by omega) (by omega))),if_pos (show lastT e 2 ≠ 0 from hj)];rfl
  · rw [if_neg (fun h => h (hp 1 (by omega) (by omega))),if_neg (fun h => h (hp 2 (by omega) (by omega))),if_pos (show lastT e 3 ≠ 0 from hj)];rfl
theorem VB {e : Eng} (hp : ∀ i : Nat,1 ≤ i → i < 4 → lastT e (i : Int) = 0) : AO e = 0:=by
  unfold AO
  rw [if_neg (fun h => h (hp 1 (by omega) (by omega))),if_neg (fun h => h (hp 2 (by omega) (by omega))),if_neg (fun h => h (hp 3 (by omega) (by omega)))]
set_option maxHeartbeats 4000000 in
theorem NS {w0 w : World} {A : Option Addr} {c : Nat} {e : Eng} (hb : Below w0.heap.size w0 w) (hr : Kd.C Ca w0 A e.log.length e.log) : Calls Tryz.prog 101 #[.slice A e.log.length c] w fun x w' => x = .returned (.int .i64 (AO e)) ∧ w = w':=by
  have HR:=As (Bu hr hb)
  obtain ⟨f,hf⟩ : ∃ f,AO e = f:=⟨_,rfl⟩
  rw [hf]
  have HF:=As hf
  clear hr hb hf
  go_enter Tryz.func101,Tryz.ntmps101
  go_wp2
  go_loopw [3] (fun t wr => ∃ j : Nat,1 ≤ j ∧ j ≤ 4 ∧ t = .int .i64 (j : Int) ∧ Ac (∀ i : Nat,1 ≤ i → i < j → lastT e (i : Int) = 0) ∧ wr = w) (fun t _ => (4 - intOf t).toNat)
  case atStart => exact ⟨1,by omega,by omega,rfl,⟨fun i h1 h2 => by omega⟩,by first | rfl | trivial⟩
  case round =>
    obtain ⟨j,hj1,hj4,rfl,HP,rfl⟩:=hrel
    by_cases h3 : j ≤ 3
    · obtain ⟨m,hm⟩ : ∃ m : Nat,Aj e.log (j : Int) e.log.length = m:=⟨_,rfl⟩
      have HM:=As hm
      clear hm
      rcases m with _ | m
      · go_wp2_with (go_at_call 115;refine (Du (c:=c) HM.out (Below.refl _ _) HR.out).mono ?_;rintro x w' ⟨rfl,rfl⟩)
        go_roundw
        case rel => exact ⟨j + 1,by omega,by omega,by go_num,⟨fun i h1 h2 => by
          by_cases hij : i = j
          · rw [hij];exact HM.out
          · exact HP.out i h1 (by omega)⟩,by first | rfl | trivial⟩
        case measure => simp [intOf];omega
      · have HE:=As (show f = (j : Int) by rw [← HF.out];exact VD hj1 h3 HP.out (by rw [show lastT e (j : Int) = m + 1 from HM.out];exact Nat.succ_ne_zero m))
        have hpos : decide ((0 : Int) < ((m + 1 : Nat) : Int)) = true:=by simp
        go_wp2_with (go_at_call 115;refine (Du (c:=c) HM.out (Below.refl _ _) HR.out).mono ?_;rintro x w' ⟨rfl,rfl⟩)
        go_ret
        exact ⟨Cs HE.out.symm,rfl⟩
    · have HE:=As (show f = 0 by rw [← HF.out];exact VB (fun i h1 h2 => HP.out i h1 (by omega)))
      go_wp2
      go_ret
      exact ⟨Cs HE.out.symm,rfl⟩
theorem VA {e : Eng} (h : AO e ≠ 0) : 0 < AO e:=by
  have:=(Hl h).1
  omega
/-- What a writing by value hands back: the engine behind it, in the rows that it had; all is kept but its row of pages on the disk. -/
def X8 (w0 w : World) (vd vm vl : Value) (e : Eng) (x : Ending) (w' : World) : Prop:=x = .returned (e.ag vd vm vl) ∧ AU w' w0.heap.size vd vm vl e ∧ Below w0.heap.size w0 w' ∧ Kept w w' (fun k => some k = vd.ownBlock)
set_option maxRecDepth 100000 in
set_option maxHeartbeats 16000000 in
theorem JD {w0 w : World} {vd vm vl : Value} {e : Eng} {p : Nat} (hp : p < 5) (hgd : geo e.disk) (hgm : geo e.mem) (hb : Below w0.heap.size w0 w) (ho : AU w w0.heap.size vd vm vl e) : Calls Tryz.prog 72 #[e.ag vd vm vl, .int .i64 (p : Int)] w (X8 w0 w vd vm vl (CQ e p)):=by
  obtain ⟨Ad,cd,Am,cm,Al,cl,rfl,rfl,rfl, -, -⟩:=ho.reads
  obtain ⟨w1a,hw1a⟩ : ∃ w1a,w.alloc (e.obox (.slice Ad e.disk.length cd) (.slice Am e.mem.length cm) (.slice Al e.log.length cl)) = w1a:=⟨_,rfl⟩
  obtain ⟨w1,hw1⟩ : ∃ w1,w1a.alloc (zE.obox (.slice none 0 0) (.slice none 0 0) (.slice none 0 0)) = w1:=⟨_,rfl⟩
  have hza : w1a.heap.size = w.heap.size + 1:=by rw [← hw1a];exact BF _ _
  have hz1 : w1.heap.size = w.heap.size + 2:=by rw [← hw1,BF,hza]
  have hba : Below w1a.heap.size w1a w1:=by rw [← hw1];exact Ah (Below.refl _ _) _
  have hb1 : Below w.heap.size w w1:=by rw [← hw1, ← hw1a];exact Ah (Ah (Below.refl _ _) _) _
  have hq : Ai w1 w.heap.size e (.slice Ad e.disk.length cd) (.slice Am e.mem.length cm) (.slice Al e.log.length cl):=Ai.up (by rw [← hw1a];exact Ai.mk1 _ _ _ _ _) hba
  have HP1 : Ac (Ai w1 (w.heap.size + 1) zE (.slice none 0 0) (.slice none 0 0) (.slice none 0 0)):=⟨by rw [← hw1, ← hza];exact Ai.mk1 _ _ _ _ _⟩
  have HW1 : Ac ((w.alloc (Obj.cells #[Value.slice Ad e.disk.length cd,Value.slice Am e.mem.length cm,Value.slice Al e.log.length cl,Value.int IntKind.i64 e.safe,Value.bool e.down] 28)).alloc (Obj.cells #[Value.slice none 0 0,Value.slice none 0 0,Value.slice none 0 0,Value.int IntKind.i64 0,Value.bool false] 28) = w1):=⟨by rw [← hw1, ← hw1a];rfl⟩
  have ho1:=ho.below hb1
  have HB1:=As hb1
  have HB:=As hb
  have HZ1:=As hz1
  have hgm5:=hgm.1
  obtain ⟨okd,okm, -, -,hpm⟩:=ho1.ex
  obtain ⟨gm,capm,hAm, -, -⟩:=Cb hpm (by omega)
  injection hAm with hA1 _ hA3
  subst hA1 hA3
  have hpl : p < e.mem.length:=by omega
  have hpli : (p : Int) < (e.mem.length : Int):=by omega
  obtain ⟨A2,c2,p0,p1,p2,pC, -⟩:=Dz hpm p hpl
  have x1:=hq.c1
  have x3:=hq.c3
  have HQ:=As hq
  have HO:=As ho1
  have HGD:=As hgd
  have HGM:=As hgm
  clear hw1a hw1 hza hz1 hba hb1 hb hpm hq ho ho1 hgd p1 p2 pC hgm5 hgm
  go_enter Tryz.func72,Tryz.ntmps72
  go_wp2
  rw [HW1.out]
  refine AX (fun lx a wx => Un 10 (fun wx => Below w1.heap.size w1 wx) lx a wx ∧ Ys 10 (fun wx => ∃ wy,Below w1.heap.size w1 wy ∧ wx = wy.setCell ⟨w.heap.size,3,none⟩ (.int .i64 (max e.safe (pg e.mem p).lsn))) lx a wx) 11 rfl (by kernel_rfl) (⟨fun _ => Ak (Below.refl _ _),Gx⟩) (fun HT => ?_)
  refine Aq (i:=0) (v:=?_) 10 HT rfl (by kernel_rfl) (by kernel_rfl) rfl (kA (Ag rfl) (Ap rfl)) (by rfl) (fun _ _ _ h => h) (fun lx ax wx hK hS => ?_) ?_;rotate_left;(have hbx:=hS.1 hK;clear hS;replace x1:=bc hbx x1;replace x3:=bc hbx x3;replace p0:=bc hbx p0;go_simp;with_reducible rfl);rotate_left;simp only [sc0,sc1]
  refine Aq (i:=1) (v:=?_) 10 HT rfl (by kernel_rfl) (by kernel_rfl) rfl (kA (Ag rfl) (Ap rfl)) (by rfl) (fun _ _ _ h => h) (fun lx ax wx hK hS => ?_) ?_;rotate_left;(have hbx:=hS.1 hK;clear hS;replace x1:=bc hbx x1;replace x3:=bc hbx x3;replace p0:=bc hbx p0;go_simp;with_reducible rfl);rotate_left;simp only [sc0,sc1]
  refine Aq (i:=2) (v:=?_) 10 HT rfl (by kernel_rfl) (by kernel_rfl) rfl (kA (Ag rfl) (Ap rfl)) (by rfl) (fun _ _ _ h => h) (fun lx ax wx hK hS => ?_) ?_;rotate_left;(have hbx:=hS.1 hK;clear hS;replace x1:=bc hbx x1;replace x3:=bc hbx x3;replace p0:=bc hbx p0;go_simp;with_reducible rfl);rotate_left;simp only [sc0,sc1]
  refine Aq (i:=3) (v:=?_) 10 HT rfl (by kernel_rfl) (by kernel_rfl) rfl (kA (Ag rfl) (Ap rfl)) (by rfl) (fun _ _ _ h => h) (fun lx ax wx hK hS => ?_) ?_;rotate_left;(have hbx:=hS.1 hK;clear hS;replace x1:=bc hbx x1;replace x3:=bc hbx x3;replace p0:=bc hbx p0;go_simp;with_reducible rfl);rotate_left;simp only [sc0,sc1]
  refine Aq (i:=4) (v:=?_) 10 HT rfl (by kernel_rfl) (by kernel_rfl) rfl (kA (Ag rfl) (Ap rfl)) (by rfl) (fun _ _ _ h => h) (fun lx ax wx hK hS => ?_) ?_;rotate_left;(have hbx:=hS.1 hK;clear hS;replace x1:=bc hbx x1;replace x3:=bc hbx x3;replace p0:=bc hbx p0;go_simp;with_reducible rfl);rotate_left;simp only [sc0,sc1]
  refine Aq (i:=5) (v:=?_) 10 HT rfl (by kernel_rfl) (by kernel_rfl) rfl (kA (Ag rfl) (Ap rfl)) (by rfl) (fun _ _ _ h => h) (fun lx ax wx hK hS => ?_) ?_;rotate_left;(have hbx:=hS.1 hK;clear hS;replace x1:=bc hbx x1;replace x3:=bc hbx x3;replace p0:=bc hbx p0;go_simp;with_reducible rfl);rotate_left;simp only [sc0,sc1]
  refine Aq (i:=6) (v:=?_) 10 HT rfl (by kernel_rfl) (by kernel_rfl) rfl (kA (Ag rfl) (Ap rfl)) (by rfl) (fun _ _ _ h => h) (fun lx ax wx hK hS => ?_) ?_;rotate_left;(have hbx:=hS.1 hK;clear hS;replace x1:=bc hbx x1;replace x3:=bc hbx x3;replace p0:=bc hbx p0;go_simp;with_reducible rfl);rotate_left;simp only [sc0,sc1]
  refine Aq (i:=7) (v:=?_) 10 HT rfl (by kernel_rfl) (by kernel_rfl) rfl (kA (Ag rfl) (Ap rfl)) (by rfl) (fun _ _ _ h => h) (fun lx ax wx hK hS => ?_) ?_;rotate_left;(have hbx:=hS.1 hK;clear hS;replace x1:=bc hbx x1;replace x3:=bc hbx x3;replace p0:=bc hbx p0;go_simp;with_reducible rfl);rotate_left;simp only [sc0,sc1]
  refine Aq (i:=8) (v:=?_) 10 HT rfl (by kernel_rfl) (by kernel_rfl) rfl (kA (Ag rfl) (Ap rfl)) (by rfl) (fun _ _ _ h => h) (fun lx ax wx hK hS => ?_) ?_;rotate_left;(have hbx:=hS.1 hK;clear hS;replace x1:=bc hbx x1;replace x3:=bc hbx x3;replace p0:=bc hbx p0;go_simp;with_reducible rfl);rotate_left;simp only [sc0,sc1]
  refine Aq (i:=9) (v:=?_) 10 HT rfl (by kernel_rfl) (by kernel_rfl) rfl (kA (Ag rfl) (Ap rfl)) (by rfl) (fun _ _ _ h => h) (fun lx ax wx hK hS => ?_) ?_;rotate_left;(have hbx:=hS.1 hK;clear hS;replace x1:=bc hbx x1;replace x3:=bc hbx x3;replace p0:=bc hbx p0;go_simp;with_reducible rfl);rotate_left;simp only [sc0,sc1]
  refine Ba [10] (by kernel_rfl) (fun i hi wx hS => ?_)
  obtain rfl:=List.mem_singleton.1 hi
  clear hi
  have hbx:=hS.1 (by kernel_rfl)
  have q3:=bc hbx x3
  have f3':=(HQ.out.up hbx).frz 3
  refine BJ (w1:=wx.setCell ⟨w.heap.size,3,none⟩ (.int .i64 (max e.safe (pg e.mem p).lsn))) rfl (by rfl) (by go_simp) ?_
  refine ⟨⟨fun h => (AL (by kernel_rfl) h).elim,fun _ => ⟨wx,hbx,rfl⟩⟩,?_⟩
  clear hS hbx q3 f3'
  refine DV (by kernel_rfl) (fun w3 hS => ?_)
  obtain ⟨wy,hbx,rfl⟩:=hS.2 (by kernel_rfl)
  obtain ⟨E,hE⟩ : ∃ E : Eng,{ e with safe:=max e.safe (pg e.mem p).lsn } = E:=⟨_,rfl⟩
  obtain ⟨w3,hw3⟩ : ∃ w3,wy.setCell ⟨w.heap.size,3,none⟩ (.int .i64 (max e.safe (pg e.mem p).lsn)) = w3:=⟨_,rfl⟩
  have hs0:=HB.out.size
  have HQ3 : Ac (Ai w3 w.heap.size E (.slice Ad e.disk.length cd) (.slice (some ⟨gm,0,none⟩) e.mem.length cm) (.slice Al e.log.length cl)):=⟨by rw [← hw3, ← hE];exact (HQ.out.up hbx).Cu _⟩
  have HP3 : Ac (Ai w3 (w.heap.size + 1) zE (.slice none 0 0) (.slice none 0 0) (.slice none 0 0)):=⟨by rw [← hw3];exact (HP1.out.up hbx).far (by omega) 3 _⟩
  have ho3 : AU w3 w0.heap.size (.slice Ad e.disk.length cd) (.slice (some ⟨gm,0,none⟩) e.mem.length cm) (.slice Al e.log.length cl) e:=by rw [← hw3];exact (HO.out.below hbx).Gc (HQ.out.up hbx) 3 _
  have HO3 : Ac (AU w3 w0.heap.size (.slice Ad e.disk.length cd) (.slice (some ⟨gm,0,none⟩) e.mem.length cm) (.slice Al e.log.length cl) E):=⟨by rw [← hE];exact ⟨ho3.ex,ho3.l⟩⟩
  have HB3 : Ac (Below w0.heap.size w0 w3):=⟨by rw [← hw3];exact (bj HB.out (bj HB1.out hbx)).setCell (p:=⟨w.heap.size,3,none⟩) hs0 _⟩
  have HK3 : Ac (Kept w w3 (fun k => some k = (Value.slice Ad e.disk.length cd).ownBlock)):=⟨by rw [← hw3];exact (Kept.of_below (bj HB1.out hbx) _).setCell (p:=⟨w.heap.size,3,none⟩) (.inr (Nat.le_refl _)) _⟩
  have HED : Ac (E.disk = e.disk ∧ E.mem = e.mem ∧ E.log = e.log):=⟨by rw [← hE];exact ⟨rfl,rfl,rfl⟩⟩
  have HEL : Ac (CQ e p = { E with disk:=E.disk.set p (pg E.mem p) }):=⟨by rw [← hE];rfl⟩
  rw [hw3]
  clear hS hbx x1 x3 p0 ho3 hw3 hE HQ HO HB1 hpl hpli hs0
  have hgm:=HGM.out
  have hgd:=HGD.out
  rw [← HED.out.2.1] at hgm
  rw [← HED.out.1] at hgd
  obtain ⟨okd,okm,hap,hpd,hpm⟩:=HO3.out.ex
  have hpl : p < E.mem.length:=by rw [hgm.1];exact hp
  have hpli : (p : Int) < (e.mem.length : Int):=by rw [HGM.out.1];omega
  have hpd5 : p < E.disk.length:=by rw [hgd.1];exact hp
  have hpdi : (p : Int) < (e.disk.length : Int):=by rw [HGD.out.1];omega
  obtain ⟨gd,capd,hAd, -,hgdl⟩:=Cb hpd (by omega)
  injection hAd with hA1 hA2 hA3
  subst hA1 hA3
  rw [hA2] at hpd
  obtain ⟨A2,c2,p0,p1,p2,pC, -⟩:=Dz hpm p (by rw [HGM.out.1];exact hp)
  have x0:=HQ3.out.c0
  have x1:=HQ3.out.c1
  have HPM:=As hpm
  have HPD:=As hpd
  have HAP:=As hap
  have HC:=As pC
  have HA2:=As hA2
  have HV3:=As (show (pg E.mem p).vals.length ≤ 17592186044416 by rw [EW hgm hp];omega)
  obtain ⟨q,hqq⟩ : ∃ q,pg E.mem p = q:=⟨_,rfl⟩
  rw [hqq] at p0 p1 p2 HC HV3
  have HEL2 : Ac (CQ e p = { E with disk:=E.disk.set p q }):=⟨by rw [HEL.out,hqq]⟩
  clear hap hpd hpm pC hgdl hqq HEL hgm hgd hA2
  go_wp2
  refine AX (fun lx a wx => Below w3.heap.size w3 wx ∧ Sl 8 23 (fun v wx => ∃ u,v = q.own u ∧ AV wx w3.heap.size u q.vals) lx a wx) 10 rfl (by kernel_rfl) (⟨Ak (Below.refl _ _),Bc⟩) (fun HT => ?_)
  refine Ae (i:=0) (v:=?_) HT rfl (by kernel_rfl) rfl (kA Aa (Ab rfl rfl)) (by rfl) (fun _ _ _ h => h) (fun lx ax wx hS => ?_) ?_;rotate_left;(have hbx:=hS.1;clear hS;replace x0:=bc hbx x0;replace x1:=bc hbx x1;replace p0:=bc hbx p0;replace p1:=bc hbx p1;replace p2:=bc hbx p2;go_simp;with_reducible rfl);rotate_left;simp only [sc0,sc1]
  refine Ae (i:=1) (v:=?_) HT rfl (by kernel_rfl) rfl (kA Aa (Ab rfl rfl)) (by rfl) (fun _ _ _ h => h) (fun lx ax wx hS => ?_) ?_;rotate_left;(have hbx:=hS.1;clear hS;replace x0:=bc hbx x0;replace x1:=bc hbx x1;replace p0:=bc hbx p0;replace p1:=bc hbx p1;replace p2:=bc hbx p2;go_simp;with_reducible rfl);rotate_left;simp only [sc0,sc1]
  refine Ae (i:=2) (v:=?_) HT rfl (by kernel_rfl) rfl (kA Aa (Ab rfl rfl)) (by rfl) (fun _ _ _ h => h) (fun lx ax wx hS => ?_) ?_;rotate_left;(have hbx:=hS.1;clear hS;replace x0:=bc hbx x0;replace x1:=bc hbx x1;replace p0:=bc hbx p0;replace p1:=bc hbx p1;replace p2:=bc hbx p2;go_simp;with_reducible rfl);rotate_left;simp only [sc0,sc1]
  refine Ae (i:=3) (v:=?_) HT rfl (by kernel_rfl) rfl (kA Aa (Ab rfl rfl)) (by rfl) (fun _ _ _ h => h) (fun lx ax wx hS => ?_) ?_;rotate_left;(have hbx:=hS.1;clear hS;replace x0:=bc hbx x0;replace x1:=bc hbx x1;replace p0:=bc hbx p0;replace p1:=bc hbx p1;replace p2:=bc hbx p2;go_simp;with_reducible rfl);rotate_left;simp only [sc0,sc1]
  refine Ae (i:=4) (v:=?_) HT rfl (by kernel_rfl) rfl (kA Aa (Ab rfl rfl)) (by rfl) (fun _ _ _ h => h) (fun lx ax wx hS => ?_) ?_;rotate_left;(have hbx:=hS.1;clear hS;replace x0:=bc hbx x0;replace x1:=bc hbx x1;replace p0:=bc hbx p0;replace p1:=bc hbx p1;replace p2:=bc hbx p2;go_simp;with_reducible rfl);rotate_left;simp only [sc0,sc1]
  refine Ae (i:=5) (v:=?_) HT rfl (by kernel_rfl) rfl (kA Aa (Ab rfl rfl)) (by rfl) (fun _ _ _ h => h) (fun lx ax wx hS => ?_) ?_;rotate_left;(have hbx:=hS.1;clear hS;replace x0:=bc hbx x0;replace x1:=bc hbx x1;replace p0:=bc hbx p0;replace p1:=bc hbx p1;replace p2:=bc hbx p2;go_simp;with_reducible rfl);rotate_left;simp only [sc0,sc1]
  refine Ae (i:=6) (v:=?_) HT rfl (by kernel_rfl) rfl (kA Aa (Ab rfl rfl)) (by rfl) (fun _ _ _ h => h) (fun lx ax wx hS => ?_) ?_;rotate_left;(have hbx:=hS.1;clear hS;replace x0:=bc hbx x0;replace x1:=bc hbx x1;replace p0:=bc hbx p0;replace p1:=bc hbx p1;replace p2:=bc hbx p2;go_simp;with_reducible rfl);rotate_left;simp only [sc0,sc1]
  refine Ae (i:=7) (v:=?_) HT rfl (by kernel_rfl) rfl (kA Aa (Ab rfl rfl)) (by rfl) (fun _ _ _ h => h) (fun lx ax wx hS => ?_) ?_;rotate_left;(have hbx:=hS.1;clear hS;replace x0:=bc hbx x0;replace x1:=bc hbx x1;replace p0:=bc hbx p0;replace p1:=bc hbx p1;replace p2:=bc hbx p2;go_simp;with_reducible rfl);rotate_left;simp only [sc0,sc1]
  refine C9 (i:=8) (f:=57) (args:=#[q.val A2 c2]) (fun v => ∃ u,v = q.own u) rfl (by kernel_rfl) rfl Tryz.func57 (by kernel_rfl) rfl rfl (by rfl) (by simp only [List.map_toArray,List.map_cons,List.map_nil];rfl) (fun wx hS => (Eu HV3.out hS.1 HC.out).mono (by rintro x w6 ⟨u,rfl,ho,hb⟩;exact ⟨_,rfl,⟨u,rfl⟩,bj hS.1 hb,fun _ => ⟨u,rfl,ho.lower hS.1.size⟩⟩)) (fun vx hg => ?_);simp only [sc0,sc1]
  obtain ⟨u,rfl⟩:=hg
  refine Ae (i:=9) (v:=?_) HT rfl (by kernel_rfl) rfl (kA Aa (Ab rfl rfl)) (by rfl) (fun _ _ _ h => h) (fun lx ax wx hS => ?_) ?_;rotate_left;(go_simp;with_reducible rfl);rotate_left;simp only [sc0,sc1]
  refine Cg (i:=10) (by kernel_rfl) rfl (fun wx hS => ?_)
  obtain ⟨h5x,h2⟩:=hS
  obtain ⟨u1,hu1,hown⟩:=h2 (by kernel_rfl)
  have hu1 : q.own u = q.own u1:=hu1
  obtain rfl : u = u1:=by simpa using hu1
  refine Ej (ok:=okd) (w0:=w0) (N:=w3.heap.size) (q:=q) p HA2.out.symm (.tmp 24) (.tmp 23) rfl (by rfl) rfl rfl rfl hown HB3.out.size (by rw [HA2.out];exact Kd.DC HPD.out h5x) (by rw [HA2.out];exact hpd5) (bj HB3.out h5x) (fun w8 hO8 hB8 hg8 => ?_)
  refine BQ (by kernel_rfl) ?_
  rw [HA2.out] at hO8
  have hm8 : OwnPk _ _ (fun k => okm k ∧ k < w3.heap.size) (.slice (some ⟨gm,0,none⟩) e.mem.length cm) E.mem:=Kd.DC HPM.out h5x
  have hty:=Kd.Fu (Kd.Br HPD.out h5x) gd (by simp [Value.ownBlock])
  have he8:=AU.TM (e:=E) HAP.out hm8 (Kd.CG HO3.out.l h5x) hown hO8 (L8 HPD.out gd (by simp [Value.ownBlock])) hg8 hty
  have hq8 : Ai w8 w.heap.size E (.slice (some ⟨gd,0,none⟩) e.disk.length cd) (.slice (some ⟨gm,0,none⟩) e.mem.length cm) (.slice Al e.log.length cl):=(hg8.block w.heap.size (by have:=HQ3.out.lt;have:=h5x.size;omega) (fun e2 => by injection e2 with e2;exact Fq HQ3.out HPD.out e2)).trans (HQ3.out.up h5x)
  have hp8 : Ai w8 (w.heap.size + 1) zE (.slice none 0 0) (.slice none 0 0) (.slice none 0 0):=(hg8.block (w.heap.size + 1) (by have:=HP3.out.lt;have:=h5x.size;omega) (fun e2 => by injection e2 with e2;exact Fq HP3.out HPD.out e2)).trans (HP3.out.up h5x)
  have hk8:=Kept.Jy hg8 (HK3.out.below h5x) (fun k hk => .inl (by rw [← hk];rfl))
  have HX8:=As (And.intro hB8 (And.intro he8 hk8))
  have HP8:=As hp8
  have z0:=hq8.c0
  have z1:=hq8.c1
  have z2:=hq8.c2
  have z3:=hq8.c3
  have z4:=hq8.c4
  have y0:=hp8.c0
  have y1:=hp8.c1
  have y2:=hp8.c2
  have y3:=hp8.c3
  have y4:=hp8.c4
  have f0:=hp8.frz 0
  have f1:=hp8.frz 1
  have f2:=hp8.frz 2
  have f3:=hp8.frz 3
  have f4:=hp8.frz 4
  clear h5x h2 hu1 hown hO8 hB8 hg8 hm8 hty he8 hq8 hp8 hk8 x0 x1 p0 p1 p2 hpl hpli hpd5 hpdi
  go_wp2
  have hs0:=HB.out.size
  have hy:=HP8.out.Az E (.slice (some ⟨gd,0,none⟩) e.disk.length cd) (.slice (some ⟨gm,0,none⟩) e.mem.length cm) (.slice Al e.log.length cl)
  have h1:=HX8.out.2.1.Az (f:=E) (xd:=.slice (some ⟨gd,0,none⟩) e.disk.length cd) (xm:=.slice (some ⟨gm,0,none⟩) e.mem.length cm) (xl:=.slice Al e.log.length cl) HP8.out
  have h2:=Ao (g:=w.heap.size + 1) HX8.out.1 (by omega) E (.slice (some ⟨gd,0,none⟩) e.disk.length cd) (.slice (some ⟨gm,0,none⟩) e.mem.length cm) (.slice Al e.log.length cl)
  have h3:=CK (g:=w.heap.size + 1) HX8.out.2.2 (by omega) E (.slice (some ⟨gd,0,none⟩) e.disk.length cd) (.slice (some ⟨gm,0,none⟩) e.mem.length cm) (.slice Al e.log.length cl)
  have u0:=hy.c0
  have u1:=hy.c1
  have u2:=hy.c2
  have u3:=hy.c3
  have u4:=hy.c4
  rw [← HA2.out] at h1
  exact bodyPost_ret (v:=E.ag (.slice (some ⟨gd,0,none⟩) e.disk.length cd) (.slice (some ⟨gm,0,none⟩) e.mem.length cm) (.slice Al e.log.length cl)) (by simp [results,Tryz.results72,go_sem,u0,u1,u2,u3,u4]) rfl (by rw [HEL2.out];exact ⟨rfl,h1,h2,h3⟩)
/-- Whatever stood, but rows of pages, stands as it was. -/
def Bf (w w' : World) : Prop:=w.heap.size ≤ w'.heap.size ∧ ∀ (g : Nat) (cells : Array Value) (t : TypeId),t ≠ 81 → w.heap[g]? = some (.cells cells t (0,0)) → w'.heap[g]? = some (.cells cells t (0,0))
theorem Bf.refl (w : World) : Bf w w:=⟨Nat.le_refl _,fun _ _ _ _ h => h⟩
theorem Bf.of_below {w w' : World} (h : Below w.heap.size w w') : Bf w w':=⟨h.size,fun g _ _ _ hc => (h.block g (Array.getElem?_eq_some_iff.1 hc).1).trans hc⟩
theorem Bf.D6 {w w1 w2 : World} (h : Bf w w1) (k : Bf w1 w2) : Bf w w2:=⟨Nat.le_trans h.1 k.1,fun g c t ht hc => k.2 g c t ht (h.2 g c t ht hc)⟩
theorem Bf.setCell {w w1 : World} (h : Bf w w1) {p : Addr} (hp : w.heap.size ≤ p.block) (u : Value) : Bf w (w1.setCell p u):=⟨by have:=h.1;simp;omega,fun g c t ht hc => by
  have hg:=(Array.getElem?_eq_some_iff.1 hc).1
  exact (Below.heap_setCell w1 p u g (by omega)).trans (h.2 g c t ht hc)⟩
theorem Bf.Az {w w1 : World} {g : Nat} (h : Bf w w1) (hg : w.heap.size ≤ g) (e : Eng) (a b c : Value) : Bf w (Go.Proofs.YtpjmlpmhgfghbaaGreat.Az w1 g e a b c):=((((h.setCell (p:=⟨g,0,none⟩) hg _).setCell (p:=⟨g,1,none⟩) hg _).setCell (p:=⟨g,2,none⟩) hg _).setCell (p:=⟨g,3,none⟩) hg _).setCell (p:=⟨g,4,none⟩) hg _
theorem Bf.Pq {w w1 : World} {S : Nat → Prop} (hk : Kept w w1 S) (hS : ∀ k,S k → ∃ cells,w.heap[k]? = some (.cells cells 81 (0,0))) : Bf w w1:=⟨hk.1,fun g c t ht hc => by
  refine (hk.2 g (Array.getElem?_eq_some_iff.1 hc).1 (fun hs => ?_)).trans hc
  obtain ⟨cells,h2⟩:=hS g hs
  rw [hc] at h2
  injection h2 with h2
  injection h2 with _ h3
  exact ht h3⟩
theorem Bf.Jw {w w1 : World} {b : Nat} {vd vm vl : Value} {e : Eng} (ho : AU w b vd vm vl e) (hk : Ip w vm w1) : Bf w w1:=.Pq hk (fun k h => by
  obtain ⟨okd,okm, -, -,hm⟩:=ho.ex
  exact Kd.Fu hm k h.symm)
theorem Bf.QE {w w1 : World} {b : Nat} {vd vm vl : Value} {e : Eng} (ho : AU w b vd vm vl e) (hk : Kept w w1 (fun k => some k = vd.ownBlock)) : Bf w w1:=.Pq hk (fun k h => by
  obtain ⟨okd,okm, -,hd, -⟩:=ho.ex
  exact Kd.Fu hd k h.symm)
theorem Ai.R8 {w w1 : World} {g : Nat} {q : Eng} {ud um ul : Value} (h : Ai w g q ud um ul) (hk : Bf w w1) : Ai w1 g q ud um ul:=hk.2 g _ _ (by decide) h
/-- An engine of the call's own; every engine's box is kept. -/
def U0 (w0 w : World) (e : Eng) (x : Ending) (w' : World) : Prop := ∃ vd vm vl,x = .returned (e.ag vd vm vl) ∧ AU w' w0.heap.size vd vm vl e ∧ Below w0.heap.size w0 w' ∧ Bf w w'
def Hz (w0 w : World) (e : Eng) (b : Bool) (x : Ending) (w' : World) : Prop := ∃ vd vm vl,x = .returned (.tuple #[e.ag vd vm vl, .bool b]) ∧ AU w' w0.heap.size vd vm vl e ∧ Below w0.heap.size w0 w' ∧ Bf w w'
def Xz (w0 w : World) (X : Eng) (x : Ending) (w' : World) : Prop := ∃ vd vm vl,x = .returned (.tuple #[(upE X).ag vd vm vl, .bool (decide (AO X = 0))]) ∧ AU w' w0.heap.size vd vm vl (upE X) ∧ Below w0.heap.size w0 w' ∧ Bf w w'
theorem GX.t {w0 w : World} {vd vm vl : Value} {e q : Eng} {b : Bool} {x : Ending} {w' : World} (ho : AU w w0.heap.size vd vm vl q) (h : GX w0 w vm e b x w') : Hz w0 w e b x w':=by
  obtain ⟨ud,um,ul,h1,h2,h3,h4⟩:=h
  exact ⟨ud,um,ul,h1,h2,h3,Bf.Jw ho h4⟩
set_option maxRecDepth 100000 in
set_option maxHeartbeats 8000000 in
theorem PE {w0 w : World} {e : Eng} {vd vm vl : Value} (left : Int) (hgd : geo e.disk) (hs0 : 0 ≤ e.safe) (hs1 : e.safe ≤ e.log.length) (hl : e.log.length ≤ 150) (hb : Below w0.heap.size w0 w) (hr : AU w w0.heap.size vd vm vl e) : Calls Tryz.prog 73 #[e.ag vd vm vl, .int .i64 left] w (U0 w0 w (JF e left)):=by
  obtain ⟨Ad,cd,Am,cm,Al,cl,rfl,rfl,rfl,hcl,hrd⟩:=hr.reads
  obtain ⟨okd,okm, -,hpd, -⟩:=hr.ex
  obtain ⟨w1,hw1⟩ : ∃ w1,w.alloc (e.obox (.slice Ad e.disk.length cd) (.slice Am e.mem.length cm) (.slice Al e.log.length cl)) = w1:=⟨_,rfl⟩
  obtain ⟨w2,hw2⟩ : ∃ w2,w1.alloc (zE.obox (.slice none 0 0) (.slice none 0 0) (.slice none 0 0)) = w2:=⟨_,rfl⟩
  have hz1 : w1.heap.size = w.heap.size + 1:=by rw [← hw1];exact BF _ _
  have hz2 : w2.heap.size = w.heap.size + 1 + 1:=by rw [← hw2,BF,hz1]
  have hb12 : Below w1.heap.size w1 w2:=by rw [← hw2];exact Ah (Below.refl _ _) _
  have hb02 : Below w.heap.size w w2:=by rw [← hw2, ← hw1];exact Ah (Ah (Below.refl _ _) _) _
  have HB2:=As hb02
  have HB:=As hb
  have HQ2 : Ac (Ai w2 w.heap.size e (.slice Ad e.disk.length cd) (.slice Am e.mem.length cm) (.slice Al e.log.length cl)):=⟨Ai.up (by rw [← hw1];exact Ai.mk1 _ _ _ _ _) hb12⟩
  have HP2 : Ac (Ai w2 (w.heap.size + 1) zE (.slice none 0 0) (.slice none 0 0) (.slice none 0 0)):=⟨by rw [← hw2, ← hz1];exact Ai.mk1 _ _ _ _ _⟩
  have HW2 : Ac ((w.alloc (e.obox (.slice Ad e.disk.length cd) (.slice Am e.mem.length cm) (.slice Al e.log.length cl))).alloc (zE.obox (.slice none 0 0) (.slice none 0 0) (.slice none 0 0)) = w2):=⟨by rw [hw1,hw2]⟩
  have HZ2:=As hz2
  have HD2:=As (Kd.Br hpd hb02)
  have HL2:=As (Bu hrd.l hb02)
  have HGD:=As hgd
  have hle:=NN (left:=left) hs0 hs1
  obtain ⟨n,hn⟩ : ∃ n : Nat,ML e left = n:=⟨_,rfl⟩
  rw [hn] at hle
  have hmax : max e.safe (min left (e.log.length : Int)) = (n : Int):=by rw [← hn];unfold ML;omega
  have hncl : n ≤ cl:=by omega
  have hln : (e.log.take n).length = n:=by rw [List.length_take];omega
  have HLn:=As hln
  have HE:=As (show JF e left = ⟨e.disk,e.disk,e.log.take n,e.safe,true⟩ by rw [JF,hn])
  have HTK : Ac (Kd.C Ca w2 Al (e.log.take n).length (e.log.take n)):=⟨Pm HL2.out (by omega)⟩
  have HN:=As (show n ≤ 150 by omega)
  have HWB:=As (bj hb hb02)
  have x0:=HQ2.out.c0
  have x2:=HQ2.out.c2
  have x3:=HQ2.out.c3
  clear hw1 hw2 hz1 hz2 hb12 hb02 hb hr hpd hrd hgd hle hn hln hs0 hs1 hl
  go_enter Tryz.func73,Tryz.ntmps73
  go_wp2_with (first
    | ((with_reducible refine MP (.call { callee:=.builtin .append,args:=#[.tmp 5, .tmp 16],argTypes:=#[26,26] }) rfl ?_);go_loud (rw [show (w.alloc (Obj.cells #[Value.slice Ad e.disk.length cd,Value.slice Am e.mem.length cm,Value.slice Al e.log.length cl,Value.int IntKind.i64 e.safe,Value.bool e.down] 28)).alloc (Obj.cells #[Value.slice none 0 0,Value.slice none 0 0,Value.slice none 0 0,Value.int IntKind.i64 0,Value.bool false] 28) = w2 from HW2.out]);go_loud (refine J6 (w0:=w2) (xs := []) (ys:=e.log.take n) (A:=Al) (c:=cl) rfl (.tmp 5) (.tmp 16) rfl rfl (by rw [HLn.out];rfl) (rs_empty HZ2.out.symm (Nat.le_refl _)) (Bu HTK.out (Ah (Below.refl _ _) _)) (Ah (Below.refl _ _) _) (by rw [HLn.out];have:=HN.out;simp;omega) ?_);intro v1 w3 hO hb3 _;have hO : OwnRs w3 w2.heap.size v1 (e.log.take n):=hO;obtain ⟨Bl,dl,hv, -, -⟩:=Kd.DI hO;rw [HLn.out] at hv;subst hv;have HO3:=As hO;have HB3:=As hb3;have hq3:=HQ2.out.up hb3;have hp3:=HP2.out.up hb3;have HQ3:=As hq3;have HP3:=As hp3;have f2:=hq3.frz 2;have x0':=hq3.c0;have x2':=hq3.c2;clear hO hb3 hq3 hp3 x0 x2 x3)
    | (go_at_call 100;obtain ⟨w4,hw4⟩ : ∃ w4,w3.setCell ⟨w.heap.size,2,none⟩ (.slice Bl n dl) = w4:=⟨_,rfl⟩;have hz2:=HZ2.out;have hn3:=HB3.out.size;have hq4 : Ai w4 w.heap.size e (.slice Ad e.disk.length cd) (.slice Am e.mem.length cm) (.slice Bl n dl):=(by rw [← hw4];exact HQ3.out.set2 _);have hp4 : Ai w4 (w.heap.size + 1) zE (.slice none 0 0) (.slice none 0 0) (.slice none 0 0):=(by rw [← hw4];exact HP3.out.far (by omega) _ _);have hd4 : OwnPk w4 w0.heap.size okd (.slice Ad e.disk.length cd) e.disk:=(by rw [← hw4];exact FX (Kd.Br HD2.out HB3.out) HQ3.out 2 _);have hl4 : OwnRs w4 w2.heap.size (.slice Bl n dl) (e.log.take n):=(by rw [← hw4];exact NA HO3.out HQ3.out 2 _);have hb4 : Below w0.heap.size w0 w4:=(by rw [← hw4];exact (bj HWB.out HB3.out).setCell (p:=⟨w.heap.size,2,none⟩) HB.out.size _);have hbk4 : Below w.heap.size w w4:=(by rw [← hw4];exact (bj HB2.out HB3.out).setCell (p:=⟨w.heap.size,2,none⟩) (Nat.le_refl _) _);rw [hw4];refine (EU (w0:=w4) (c:=cd) (Gr HGD.out) (by have:=HGD.out.1;omega) (Below.refl _ _) (Kd.Rp hd4).2.2).mono ?_;rintro x w5 ⟨v,rfl,ho,hb5⟩;obtain ⟨Bm,dm,rfl, -, -⟩:=Kd.Cn ho;have HO5:=As (AU.Vm (s:=e.safe) (d:=true) hd4 ho hb5 hl4 hb4.size (Nat.le_trans (by rw [hz2];have:=HB.out.size;omega) (Nat.le_refl _)));have HB5:=As (bj hb4 hb5);have HBK5:=As (bj hbk4 hb5);have hq5:=hq4.up hb5;have hp5:=hp4.up hb5;have HQ5:=As hq5;have HP5:=As hp5;have x0:=hq5.c0;have x1:=hq5.c1;have x2:=hq5.c2;have x3:=hq5.c3;have x4:=hq5.c4;have g1:=hq5.frz 1;have g4:=hq5.frz 4;have y0:=hp5.c0;have y1:=hp5.c1;have y2:=hp5.c2;have y3:=hp5.c3;have y4:=hp5.c4;have f0:=hp5.frz 0;have f1:=hp5.frz 1;have f2:=hp5.frz 2;have f3:=hp5.frz 3;have f4:=hp5.frz 4;clear hw4 hz2 hn3 hq4 hp4 hd4 hl4 hb4 hbk4 ho hb5 hq5 hp5 x0' x2'))
  have hgw:=HB.out.size
  have q1:=HQ5.out.set1 (.slice Bm e.disk.length dm)
  have r1:=(HO5.out.Gc HQ5.out 1 (.slice Bm e.disk.length dm)).Gc q1 4 (.bool true)
  have p1:=(HP5.out.far (b:=w.heap.size) (by omega) 1 (.slice Bm e.disk.length dm)).far (b:=w.heap.size) (by omega) 4 (.bool true)
  have b1:=(HB5.out.setCell (p:=⟨w.heap.size,1,none⟩) hgw (.slice Bm e.disk.length dm)).setCell (p:=⟨w.heap.size,4,none⟩) hgw (.bool true)
  have b2:=(HBK5.out.setCell (p:=⟨w.heap.size,1,none⟩) (Nat.le_refl _) (.slice Bm e.disk.length dm)).setCell (p:=⟨w.heap.size,4,none⟩) (Nat.le_refl _) (.bool true)
  have h3:=Ao (g:=w.heap.size + 1) b2 (by omega) ⟨e.disk,e.disk,e.log.take n,e.safe,true⟩ (.slice Ad e.disk.length cd) (.slice Bm e.disk.length dm) (.slice Bl n dl)
  have h1:=r1.Az (f:=⟨e.disk,e.disk,e.log.take n,e.safe,true⟩) (xd:=.slice Ad e.disk.length cd) (xm:=.slice Bm e.disk.length dm) (xl:=.slice Bl n dl) p1
  have h2:=Ao (g:=w.heap.size + 1) b1 (by omega) ⟨e.disk,e.disk,e.log.take n,e.safe,true⟩ (.slice Ad e.disk.length cd) (.slice Bm e.disk.length dm) (.slice Bl n dl)
  have hy:=p1.Az ⟨e.disk,e.disk,e.log.take n,e.safe,true⟩ (.slice Ad e.disk.length cd) (.slice Bm e.disk.length dm) (.slice Bl n dl)
  have z0:=hy.c0
  have z1:=hy.c1
  have z2:=hy.c2
  have z3:=hy.c3
  have z4:=hy.c4
  simp only at z0 z1 z2 z3 z4
  exact bodyPost_ret (v:=.agg #[.slice Ad e.disk.length cd, .slice Bm e.disk.length dm, .slice Bl n dl, .int .i64 e.safe, .bool true]) (by simp [results,Tryz.results73,go_sem,z0,z1,z2,z3,z4]) rfl ⟨_,_,_,by rw [HE.out],by rw [HE.out];exact h1,h2,Bf.of_below h3⟩
set_option maxRecDepth 100000 in
set_option maxHeartbeats 16000000 in
theorem RZ {w0 w : World} {e : Eng} {vd vm vl : Value} (n : Nat) (hgd : geo e.disk) (hlog : AP e.log = true) (hro : EY (ES e)) (hb : Below w0.heap.size w0 w) (hr : AU w w0.heap.size vd vm vl e) : Calls Tryz.prog 43 #[e.ag vd vm vl, .int .i64 (n : Int)] w (Xz w0 w (CW n (ES e))):=by
  obtain ⟨Ad,cd,Am,cm,Al,cl,rfl,rfl,rfl,hcl,hrd⟩:=hr.reads
  obtain ⟨w1a,hw1a⟩ : ∃ w1a,w.alloc (e.obox (.slice Ad e.disk.length cd) (.slice Am e.mem.length cm) (.slice Al e.log.length cl)) = w1a:=⟨_,rfl⟩
  obtain ⟨w1,hw1⟩ : ∃ w1,w1a.alloc (zE.obox (.slice none 0 0) (.slice none 0 0) (.slice none 0 0)) = w1:=⟨_,rfl⟩
  have hza : w1a.heap.size = w.heap.size + 1:=by rw [← hw1a];exact BF _ _
  have hz1 : w1.heap.size = w.heap.size + 2:=by rw [← hw1,BF,hza]
  have hba : Below w1a.heap.size w1a w1:=by rw [← hw1];exact Ah (Below.refl _ _) _
  have hb1 : Below w.heap.size w w1:=by rw [← hw1, ← hw1a];exact Ah (Ah (Below.refl _ _) _) _
  have HQ1 : Ac (Ai w1 w.heap.size e (.slice Ad e.disk.length cd) (.slice Am e.mem.length cm) (.slice Al e.log.length cl)):=⟨Ai.up (by rw [← hw1a];exact Ai.mk1 _ _ _ _ _) hba⟩
  have HP1 : Ac (Ai w1 (w.heap.size + 1) zE (.slice none 0 0) (.slice none 0 0) (.slice none 0 0)):=⟨by rw [← hw1, ← hza];exact Ai.mk1 _ _ _ _ _⟩
  have HW1 : Ac ((w.alloc (e.obox (.slice Ad e.disk.length cd) (.slice Am e.mem.length cm) (.slice Al e.log.length cl))).alloc (zE.obox (.slice none 0 0) (.slice none 0 0) (.slice none 0 0)) = w1):=⟨by rw [hw1a,hw1]⟩
  have HZ1:=As hz1
  have HB1:=As hb1
  have HB:=As hb
  have HO1:=As (hr.below hb1)
  have HC1:=As (hrd.up hb1)
  obtain ⟨X,hX⟩ : ∃ X,CW n (ES e) = X:=⟨_,rfl⟩
  obtain ⟨R,hR⟩ : ∃ R,Ck e.disk e.log e.log.length = R:=⟨_,rfl⟩
  have hst : ES e = { e with mem:=R }:=by rw [ES,hR]
  rw [hX]
  rw [hst] at hro hX
  have HRR:=As hR
  have HRO:=As hro
  have HRX:=As hX
  have HGD:=As hgd
  have HLOG:=As hlog
  have HLG:=As (Be hlog)
  have x0:=HQ1.out.c0
  have x2:=HQ1.out.c2
  clear hw1a hw1 hza hz1 hba hb1 hb hr hrd hX hR hst hro hgd hlog
  go_enter Tryz.func43,Tryz.ntmps43
  go_wp2_with (first
    | (go_at_call 94;rw [show (w.alloc (Obj.cells #[Value.slice Ad e.disk.length cd,Value.slice Am e.mem.length cm,Value.slice Al e.log.length cl,Value.int IntKind.i64 e.safe,Value.bool e.down] 28)).alloc (Obj.cells #[Value.slice none 0 0,Value.slice none 0 0,Value.slice none 0 0,Value.int IntKind.i64 0,Value.bool false] 28) = w1 from HW1.out];refine (Ol (c:=cd) (d:=cl) HGD.out (fun k hk => (AA HLOG.out hk).ok) HLG.out (Below.refl w1.heap.size w1) HC1.out.d HC1.out.l).mono ?_;rw [HRR.out];rintro x w2 ⟨v,rfl,ho,hb2⟩;obtain ⟨Bn,dn,rfl, -, -⟩:=Kd.Cn ho;have HO2:=As (IC HO1.out hb2 ho (by have:=HB.out.size;have:=HB1.out.size;omega));have hq2:=HQ1.out.up hb2;have HQ2:=As hq2;have HP2:=As (HP1.out.up hb2);have HX2:=As (bj HB1.out hb2);have HN2:=As hb2.size;have g1:=hq2.frz 1;have x1':=hq2.c1;clear ho hb2 hq2 x0 x2))
  obtain ⟨w3,hw3⟩ : ∃ w3,w2.setCell ⟨w.heap.size,1,none⟩ (.slice Bn R.length dn) = w3:=⟨_,rfl⟩
  have hq3 : Ai w3 w.heap.size { e with mem:=R } (.slice Ad e.disk.length cd) (.slice Bn R.length dn) (.slice Al e.log.length cl):=by rw [← hw3];exact HQ2.out.set1 _
  have hp3 : Ai w3 (w.heap.size + 1) zE (.slice none 0 0) (.slice none 0 0) (.slice none 0 0):=by rw [← hw3];exact HP2.out.far (by omega) _ _
  have ho3 : AU w3 w0.heap.size (.slice Ad e.disk.length cd) (.slice Bn R.length dn) (.slice Al e.log.length cl) { e with mem:=R }:=by rw [← hw3];exact HO2.out.Gc HQ2.out 1 _
  have hb3 : Below w0.heap.size w0 w3:=by rw [← hw3];exact (bj HB.out HX2.out).setCell (p:=⟨w.heap.size,1,none⟩) HB.out.size _
  have hn3 : w.heap.size + 2 ≤ w3.heap.size:=by
    have h1:=HZ1.out
    have h2:=HN2.out
    have h3 : w3.heap.size = w2.heap.size:=by rw [← hw3];simp
    omega
  have hk3 : Bf w w3:=Bf.of_below (by rw [← hw3];exact HX2.out.setCell (p:=⟨w.heap.size,1,none⟩) (Nat.le_refl _) _)
  rw [hw3]
  have HE3 : Ac (∃ vd vm vl,Ai w3 w.heap.size { e with mem:=R } vd vm vl ∧ AU w3 w0.heap.size vd vm vl { e with mem:=R }):=⟨⟨_,_,_,hq3,ho3⟩⟩
  have HP3:=As hp3
  have HB3 : Ac (Below w0.heap.size w0 w3 ∧ w.heap.size + 2 ≤ w3.heap.size ∧ Bf w w3):=⟨⟨hb3,hn3,hk3⟩⟩
  have hroom:=HRO.out.room'
  clear hw3 hq3 hp3 ho3 hb3 hn3 hk3 g1 x1'
  go_loopw [6] (fun i wr => ∃ (k : Nat) (x : Eng),k ≤ n ∧ i = .int .i64 (k : Int) ∧ Ac (∃ vd vm vl,Ai wr w.heap.size x vd vm vl ∧ AU wr w0.heap.size vd vm vl x) ∧ Ac (Ai wr (w.heap.size + 1) zE (.slice none 0 0) (.slice none 0 0) (.slice none 0 0)) ∧ Ac (Below w0.heap.size w0 wr ∧ w.heap.size + 2 ≤ wr.heap.size ∧ Bf w wr) ∧ Ac (EY x ∧ CW (n - k) x = X) ∧ k + Bp x.log x.log.length ≤ 150) (fun i _ => (n - intOf i).toNat)
  case atStart => exact ⟨0,{ e with mem:=R },Nat.zero_le _,rfl,HE3,HP3,HB3,⟨HRO.out,HRX.out⟩,by show 0 + Bp e.log e.log.length ≤ 150;have : e.log.length + Bp e.log e.log.length ≤ 150:=hroom;omega⟩
  case round =>
    obtain ⟨k,x,hk,rfl,HEG,HPr,HBr,HRK,hkn⟩:=hrel
    obtain ⟨vd,vm,vl,hq,ho⟩:=HEG.out
    obtain ⟨Ed,n1,Em,n2,El,n3,rfl,rfl,rfl, -,hc⟩:=ho.reads
    have HQ:=As hq
    have HO:=As ho
    have HC:=As hc
    obtain ⟨t,ht⟩ : ∃ t,AO x = t:=⟨_,rfl⟩
    have hfirst : ∀ wx,Kd.C Ca wx El x.log.length x.log → Calls Tryz.prog 101 #[.slice El x.log.length n3] wx fun y w' => y = .returned (.int .i64 t) ∧ wx = w':=fun wx hc => ht ▸ NS (c:=n3) (Below.refl _ _) hc
    have HFI:=As hfirst
    have hx2:=hq.c2
    clear hq ho hc hfirst
    by_cases h0 : t = 0
    · subst h0
      have hXx : X = x:=by rw [← HRK.out.2,NC ht]
      have HU:=As (show upE X = { x with down:=false } ∧ decide (AO X = 0) = true from ⟨by rw [hXx,upE,if_pos ht],by rw [hXx];simp [ht]⟩)
      clear hXx ht hkn hroom
      have q0:=HQ.out.c0
      have q1:=HQ.out.c1
      have q3:=HQ.out.c3
      have q4:=HQ.out.c4
      have g4:=HQ.out.frz 4
      have hp:=HPr.out
      have y0:=hp.c0
      have y1:=hp.c1
      have y2:=hp.c2
      have y3:=hp.c3
      have y4:=hp.c4
      have f0:=hp.frz 0
      have f1:=hp.frz 1
      have f2:=hp.frz 2
      have f3:=hp.frz 3
      have f4:=hp.frz 4
      clear hp
      by_cases hlt : k < n
      all_goals
        go_wp2_with (go_at_call 101;refine (HFI.out _ HC.out.l).mono ?_;rintro y w' ⟨rfl,rfl⟩)
        have r1:=HO.out.Gc HQ.out 4 (.bool false)
        have p1:=HPr.out.far (b:=w.heap.size) (by omega) 4 (.bool false)
        have b1:=HBr.out.1.setCell (p:=⟨w.heap.size,4,none⟩) HB.out.size (.bool false)
        have hy:=p1.Az { x with down:=false } (.slice Ed x.disk.length n1) (.slice Em x.mem.length n2) (.slice El x.log.length n3)
        have h1:=r1.Az (f:={ x with down:=false }) (xd:=.slice Ed x.disk.length n1) (xm:=(.slice Em x.mem.length n2)) (xl:=.slice El x.log.length n3) p1
        have h2:=Ao (g:=w.heap.size + 1) b1 (by have:=HB.out.size;omega) { x with down:=false } (.slice Ed x.disk.length n1) (.slice Em x.mem.length n2) (.slice El x.log.length n3)
        have k3:=(HBr.out.2.2.setCell (p:=⟨w.heap.size,4,none⟩) (Nat.le_refl _) (.bool false)).Az (g:=w.heap.size + 1) (Nat.le_succ _) { x with down:=false } (.slice Ed x.disk.length n1) (.slice Em x.mem.length n2) (.slice El x.log.length n3)
        have z0:=hy.c0
        have z1:=hy.c1
        have z2:=hy.c2
        have z3:=hy.c3
        have z4:=hy.c4
        simp only at z0 z1 z2 z3 z4
        exact bodyPost_ret (v:=.tuple #[.agg #[.slice Ed x.disk.length n1, .slice Em x.mem.length n2, .slice El x.log.length n3, .int .i64 x.safe, .bool false], .bool true]) (by simp [results,Tryz.results43,go_sem,z0,z1,z2,z3,z4]) rfl ⟨.slice Ed x.disk.length n1, .slice Em x.mem.length n2, .slice El x.log.length n3,by rw [HU.out.1,HU.out.2],by rw [HU.out.1];exact ⟨h1.ex,h1.l⟩,h2,k3⟩
    · have hne : AO x ≠ 0:=by rw [ht];exact h0
      have htp : decide (0 < t) = true:=by
        have:=VA hne
        rw [ht] at this
        exact decide_eq_true this
      by_cases hlt : k < n
      · obtain ⟨hso,hro',hnd⟩:=HRK.out.1.step hne
        have hrk : CW (n - (k + 1)) (Bg x (AO x)) = X:=by
          have h:=HRK.out.2
          rw [show n - k = (n - (k + 1)) + 1 by omega,CW,if_neg hne] at h
          exact h
        rw [ht] at hso hro' hnd hrk
        obtain ⟨E,hEE⟩ : ∃ E,Bg x t = E:=⟨_,rfl⟩
        have hstep : ∀ wx,Below w0.heap.size w0 wx → AU wx w0.heap.size (.slice Ed x.disk.length n1) (.slice Em x.mem.length n2) (.slice El x.log.length n3) x → Calls Tryz.prog 102 #[x.val Ed Em El n1 n2 n3, .int .i64 t] wx (X7 w0 wx (.slice Em x.mem.length n2) E):=fun wx hb ho => hEE ▸ Kj hso hb ho
        rw [hEE] at hro' hnd hrk
        have HST:=As hstep
        have HNX:=As (And.intro hro' hrk)
        have HND:=As (show k + 1 + Bp E.log E.log.length ≤ 150 by omega)
        have hk150 : k ≤ 150:=by omega
        have hwr : IntKind.i64.wrap ((k : Int) + 1) = (k : Int) + 1:=by simp (disch:=omega) only [IntWalk.i64_in]
        clear hso hro' hnd hrk hEE hstep ht h0 hne hkn hroom
        go_wp2_with (go_at_call 101;refine (HFI.out _ HC.out.l).mono ?_;rintro y w' ⟨rfl,rfl⟩)
        refine AX (fun lx a wx => (Below w0.heap.size w0 wx ∧ Ip wr (.slice Em x.mem.length n2) wx) ∧ (Un 4 (fun wx => Below wr.heap.size wr wx) lx a wx ∧ Sl 4 28 (fun v wx => ∃ ud um ul,v = E.ag ud um ul ∧ AU wx w0.heap.size ud um ul E) lx a wx)) 5 rfl (by kernel_rfl) (⟨⟨Ak HBr.out.1,Kept.drew (Kept.refl _ _)⟩,fun _ => Ak (Below.refl _ _),Bc⟩) (fun HT => ?_)
        refine Ae (i:=0) (v:=?_) HT rfl (by kernel_rfl) rfl (kA Aa (kA (Ag rfl) (Ab rfl rfl))) (by rfl) (fun _ _ _ h => h) (fun lx ax wx hS => ?_) ?_;rotate_left;(have hk':=hS.1.2;clear hS;have hq:=HQ.out.EC HO.out hk';have x0:=hq.c0;have x1:=hq.c1;have x2:=hq.c2;have x3:=hq.c3;have x4:=hq.c4;clear hq;go_simp;with_reducible rfl);rotate_left;simp only [sc0,sc1]
        refine Ae (i:=1) (v:=?_) HT rfl (by kernel_rfl) rfl (kA Aa (kA (Ag rfl) (Ab rfl rfl))) (by rfl) (fun _ _ _ h => h) (fun lx ax wx hS => ?_) ?_;rotate_left;(have hk':=hS.1.2;clear hS;have hq:=HQ.out.EC HO.out hk';have x0:=hq.c0;have x1:=hq.c1;have x2:=hq.c2;have x3:=hq.c3;have x4:=hq.c4;clear hq;go_simp;with_reducible rfl);rotate_left;simp only [sc0,sc1]
        refine Ae (i:=2) (v:=?_) HT rfl (by kernel_rfl) rfl (kA Aa (kA (Ag rfl) (Ab rfl rfl))) (by rfl) (fun _ _ _ h => h) (fun lx ax wx hS => ?_) ?_;rotate_left;(have hk':=hS.1.2;clear hS;have hq:=HQ.out.EC HO.out hk';have x0:=hq.c0;have x1:=hq.c1;have x2:=hq.c2;have x3:=hq.c3;have x4:=hq.c4;clear hq;go_simp;with_reducible rfl);rotate_left;simp only [sc0,sc1]
        refine Jq (i:=3) (f:=101) (v:=.int .i64 t) (args:=#[.slice El x.log.length n3]) HT rfl (by kernel_rfl) rfl Tryz.func101 (by kernel_rfl) rfl rfl (kA Aa (kA (Ag rfl) (Ab rfl rfl))) (by rfl) (fun _ _ _ h => h) (by simp only [List.map_toArray,List.map_cons,List.map_nil];rfl) (fun lx ax wx hS => (HFI.out wx (HO.out.Pw hS.1.2)).mono fun _ w' h => ⟨h.1,h.2 ▸ hS⟩) ?_;simp only [sc0,sc1]
        refine C9 (i:=4) (f:=102) (args:=#[x.val Ed Em El n1 n2 n3, .int .i64 t]) (fun v => ∃ ud um ul,v = E.ag ud um ul) rfl (by kernel_rfl) rfl Tryz.func102 (by kernel_rfl) rfl rfl (by rfl) (by simp only [List.map_toArray,List.map_cons,List.map_nil];rfl) (fun wx hS => (HST.out wx hS.1.1 (HO.out.below (hS.2.1 (by kernel_rfl)))).mono (by rintro y w6 ⟨ud,um,ul,rfl,ho,hb,hk6⟩;exact ⟨_,rfl,⟨ud,um,ul,rfl⟩,⟨hb,hS.1.2.D6 hk6 (fun k hk => .inl hk)⟩,fun h => (AL (by kernel_rfl) h).elim,fun _ => ⟨ud,um,ul,rfl,ho⟩⟩)) (fun vx hg => ?_);simp only [sc0,sc1]
        obtain ⟨ud,um,ul,rfl⟩:=hg
        refine Cg (i:=5) (by kernel_rfl) rfl (fun wx hS => ?_)
        obtain ⟨⟨h1,h2⟩, -,h3⟩:=hS
        obtain ⟨ud',um',ul',hu',hown⟩:=h3 (by kernel_rfl)
        have hu' : E.ag ud um ul = E.ag ud' um' ul':=hu'
        obtain ⟨rfl,rfl,rfl⟩ : ud = ud' ∧ um = um' ∧ ul = ul':=by simpa using hu'
        obtain ⟨Bd,dd,Bm,dm,Bl,dl,rfl,rfl,rfl, -, -⟩:=hown.reads
        have hq5:=HQ.out.EC HO.out h2
        have hp5:=HPr.out.EC HO.out h2
        have x0:=hq5.c0
        have x1:=hq5.c1
        have x2:=hq5.c2
        have x3:=hq5.c3
        have x4:=hq5.c4
        have f0:=hq5.frz 0
        have f1:=hq5.frz 1
        have f2:=hq5.frz 2
        have f3:=hq5.frz 3
        have f4:=hq5.frz 4
        refine BJ (w1:=Go.Proofs.YtpjmlpmhgfghbaaGreat.Az wx w.heap.size E (.slice Bd E.disk.length dd) (.slice Bm E.mem.length dm) (.slice Bl E.log.length dl)) rfl (by rfl) (by go_simp) ?_
        have hq6:=hq5.Az E (.slice Bd E.disk.length dd) (.slice Bm E.mem.length dm) (.slice Bl E.log.length dl)
        have ho6:=hown.Az (f:=E) (xd:=.slice Bd E.disk.length dd) (xm:=.slice Bm E.mem.length dm) (xl:=.slice Bl E.log.length dl) hq5
        have hp6 : Ai (Go.Proofs.YtpjmlpmhgfghbaaGreat.Az wx w.heap.size E (.slice Bd E.disk.length dd) (.slice Bm E.mem.length dm) (.slice Bl E.log.length dl)) (w.heap.size + 1) zE (.slice none 0 0) (.slice none 0 0) (.slice none 0 0):=((((hp5.far (b:=w.heap.size) (by omega) 0 _).far (b:=w.heap.size) (by omega) 1 _).far (b:=w.heap.size) (by omega) 2 _).far (b:=w.heap.size) (by omega) 3 _).far (b:=w.heap.size) (by omega) 4 _
        have hb6:=Ao (g:=w.heap.size) h1 HB.out.size E (.slice Bd E.disk.length dd) (.slice Bm E.mem.length dm) (.slice Bl E.log.length dl)
        obtain ⟨w9,hw9⟩ : ∃ w9,Go.Proofs.YtpjmlpmhgfghbaaGreat.Az wx w.heap.size E (.slice Bd E.disk.length dd) (.slice Bm E.mem.length dm) (.slice Bl E.log.length dl) = w9:=⟨_,rfl⟩
        have hs9 : w.heap.size + 2 ≤ w9.heap.size:=by
          have h4:=h2.1
          have h5:=HBr.out.2.1
          rw [← hw9]
          simp
          omega
        have hk9 : Bf w w9:=by rw [← hw9];exact (HBr.out.2.2.D6 (Bf.Jw HO.out h2)).Az (Nat.le_refl _) E _ _ _
        rw [hw9] at hq6 ho6 hp6 hb6 ⊢
        have HE9 : Ac (∃ vd vm vl,Ai w9 w.heap.size E vd vm vl ∧ AU w9 w0.heap.size vd vm vl E):=⟨⟨_,_,_,hq6,ho6⟩⟩
        have HP9:=As hp6
        have HB9 : Ac (Below w0.heap.size w0 w9 ∧ w.heap.size + 2 ≤ w9.heap.size ∧ Bf w w9):=⟨⟨hb6,hs9,hk9⟩⟩
        clear h1 h2 h3 hu' hown hq5 hp5 hq6 ho6 hp6 hb6 hs9 hk9 hw9 x0 x1 x2 x3 x4 f0 f1 f2 f3 f4 hx2
        refine BQ (by kernel_rfl) ?_
        go_wp2
        go_roundw
        case rel => exact ⟨k + 1,E,by omega,by go_num,HE9,HP9,HB9,HNX,HND.out⟩
        case measure => simp [intOf];omega
      · have hkn' : k = n:=by omega
        have hXx : X = x:=by
          have h:=HRK.out.2
          rw [hkn',Nat.sub_self] at h
          exact h.symm
        have HU:=As (show upE X = { x with mem:=x.disk } ∧ decide (AO X = 0) = false from ⟨by rw [hXx,upE,if_neg hne],by rw [hXx];simp [hne]⟩)
        have HGX:=As (show geo x.disk from by
          have h1:=(Jp n { e with mem:=R }).1
          rw [HRX.out,hXx] at h1
          rw [h1]
          exact HGD.out)
        have q0:=HQ.out.c0
        clear hXx hne h0 ht hkn hroom hkn'
        go_wp2_with (first
          | (go_at_call 101;refine (HFI.out _ HC.out.l).mono ?_;rintro y w' ⟨rfl,rfl⟩)
          | (go_at_call 100;refine (EU (w0:=wr) (c:=n1) (Gr HGX.out) (by have:=HGX.out.1;omega) (Below.refl _ _) HC.out.d).mono ?_;rintro x1 w9 ⟨v1,rfl,ho9,hb9⟩;obtain ⟨Cd,k1,rfl, -, -⟩:=Kd.Cn ho9;have HO9:=As (IC HO.out hb9 ho9 HBr.out.1.size);have hq9:=HQ.out.up hb9;have HQ9:=As hq9;have HB9:=As (bj HBr.out.1 hb9);have HB9K:=As hb9;have HP9:=As (HPr.out.up hb9);have g1:=hq9.frz 1;have q0':=hq9.c0;have q1':=hq9.c1;have q2':=hq9.c2;have q3':=hq9.c3;have q4':=hq9.c4;have hp:=HP9.out;have y0:=hp.c0;have y1:=hp.c1;have y2:=hp.c2;have y3:=hp.c3;have y4:=hp.c4;have f0:=hp.frz 0;have f1:=hp.frz 1;have f2:=hp.frz 2;have f3:=hp.frz 3;have f4:=hp.frz 4;clear hp ho9 hb9 hq9 q0))
        have r1:=HO9.out.Gc HQ9.out 1 (.slice Cd x.disk.length k1)
        have p1:=HP9.out.far (b:=w.heap.size) (by omega) 1 (.slice Cd x.disk.length k1)
        have b1:=HB9.out.setCell (p:=⟨w.heap.size,1,none⟩) HB.out.size (.slice Cd x.disk.length k1)
        have hy:=p1.Az { x with mem:=x.disk } (.slice Ed x.disk.length n1) (.slice Cd x.disk.length k1) (.slice El x.log.length n3)
        have h1:=r1.Az (f:={ x with mem:=x.disk }) (xd:=.slice Ed x.disk.length n1) (xm:=(.slice Cd x.disk.length k1)) (xl:=.slice El x.log.length n3) p1
        have h2:=Ao (g:=w.heap.size + 1) b1 (by have:=HB.out.size;omega) { x with mem:=x.disk } (.slice Ed x.disk.length n1) (.slice Cd x.disk.length k1) (.slice El x.log.length n3)
        have k3:=(((HBr.out.2.2.D6 (Bf.of_below HB9K.out)).setCell (p:=⟨w.heap.size,1,none⟩) (Nat.le_refl _) (.slice Cd x.disk.length k1))).Az (g:=w.heap.size + 1) (Nat.le_succ _) { x with mem:=x.disk } (.slice Ed x.disk.length n1) (.slice Cd x.disk.length k1) (.slice El x.log.length n3)
        have z0:=hy.c0
        have z1:=hy.c1
        have z2:=hy.c2
        have z3:=hy.c3
        have z4:=hy.c4
        simp only at z0 z1 z2 z3 z4
        exact bodyPost_ret (v:=.tuple #[.agg #[.slice Ed x.disk.length n1, .slice Cd x.disk.length k1, .slice El x.log.length n3, .int .i64 x.safe, .bool x.down], .bool false]) (by simp [results,Tryz.results43,go_sem,z0,z1,z2,z3,z4]) rfl ⟨.slice Ed x.disk.length n1, .slice Cd x.disk.length k1, .slice El x.log.length n3,by rw [HU.out.1,HU.out.2],by rw [HU.out.1];exact h1,h2,k3⟩
theorem Ai.Gd {w : World} {g n c : Nat} {e : Eng} {vd vm : Value} {A : Option Addr} (h : Ai w g e vd vm (.slice A n c)) : Go.Proofs.YtpjmlpmhgfghbaaGreat.Gd w g = n:=by
  unfold Go.Proofs.YtpjmlpmhgfghbaaGreat.Gd
  rw [h.c2]
set_option maxRecDepth 100000 in
set_option maxHeartbeats 16000000 in
theorem Oh {w0 w : World} {e : Eng} {C : Nat → Page} {B : Nat} {vd vm vl : Value} (tx : Int) (hi : Inv e C B) (hb : Below w0.heap.size w0 w) (hr : AU w w0.heap.size vd vm vl e) : Calls Tryz.prog 71 #[e.ag vd vm vl, .int .i64 tx] w (Hz w0 w (Cz e tx (DT e tx)).1 (Cz e tx (DT e tx)).2):=by
  obtain ⟨Ad,cd,Am,cm,Al,cl,rfl,rfl,rfl,hcl,hrd⟩:=hr.reads
  obtain ⟨w1a,hw1a⟩ : ∃ w1a,w.alloc (e.obox (.slice Ad e.disk.length cd) (.slice Am e.mem.length cm) (.slice Al e.log.length cl)) = w1a:=⟨_,rfl⟩
  obtain ⟨w1,hw1⟩ : ∃ w1,w1a.alloc (zE.obox (.slice none 0 0) (.slice none 0 0) (.slice none 0 0)) = w1:=⟨_,rfl⟩
  have hza : w1a.heap.size = w.heap.size + 1:=by rw [← hw1a];exact BF _ _
  have hz1 : w1.heap.size = w.heap.size + 2:=by rw [← hw1,BF,hza]
  have hba : Below w1a.heap.size w1a w1:=by rw [← hw1];exact Ah (Below.refl _ _) _
  have hb1 : Below w.heap.size w w1:=by rw [← hw1, ← hw1a];exact Ah (Ah (Below.refl _ _) _) _
  have HQ1 : Ac (Ai w1 w.heap.size e (.slice Ad e.disk.length cd) (.slice Am e.mem.length cm) (.slice Al e.log.length cl)):=⟨Ai.up (by rw [← hw1a];exact Ai.mk1 _ _ _ _ _) hba⟩
  have HP1 : Ac (Ai w1 (w.heap.size + 1) zE (.slice none 0 0) (.slice none 0 0) (.slice none 0 0)):=⟨by rw [← hw1, ← hza];exact Ai.mk1 _ _ _ _ _⟩
  have HW1 : Ac ((w.alloc (Obj.cells #[Value.slice Ad e.disk.length cd,Value.slice Am e.mem.length cm,Value.slice Al e.log.length cl,Value.int IntKind.i64 e.safe,Value.bool e.down] 28)).alloc (Obj.cells #[Value.slice none 0 0,Value.slice none 0 0,Value.slice none 0 0,Value.int IntKind.i64 0,Value.bool false] 28) = w1):=⟨by rw [← hw1, ← hw1a];rfl⟩
  have HZ1:=As hz1
  have HB1:=As hb1
  have HB:=As hb
  have HO1:=As (hr.below hb1)
  have HC1:=As (hrd.up hb1)
  have HI:=As hi
  have x0:=HQ1.out.c0
  have x1:=HQ1.out.c1
  have x2:=HQ1.out.c2
  have x3:=HQ1.out.c3
  have x4:=HQ1.out.c4
  have y0:=HP1.out.c0
  have y1:=HP1.out.c1
  have y2:=HP1.out.c2
  have y3:=HP1.out.c3
  have y4:=HP1.out.c4
  have f0:=HP1.out.frz 0
  have f1:=HP1.out.frz 1
  have f2:=HP1.out.frz 2
  have f3:=HP1.out.frz 3
  have f4:=HP1.out.frz 4
  clear hw1a hw1 hza hz1 hba hb1 hb hr hrd hi
  cases hd : e.down
  rotate_left
  · rw [show Cz e tx (DT e tx) = (e,false) by rw [Cz,if_neg (by rw [hd];simp)]]
    have HDN:=As hd
    rw [hd] at x4
    clear hd
    go_enter Tryz.func71,Tryz.ntmps71
    go_wp2_with (first
      | (rw [show (w.alloc (Obj.cells #[Value.slice Ad e.disk.length cd,Value.slice Am e.mem.length cm,Value.slice Al e.log.length cl,Value.int IntKind.i64 e.safe,Value.bool e.down] 28)).alloc (Obj.cells #[Value.slice none 0 0,Value.slice none 0 0,Value.slice none 0 0,Value.int IntKind.i64 0,Value.bool false] 28) = w1 from HW1.out]))
    have hz:=HZ1.out
    have hs0:=HB.out.size
    have hy:=HP1.out.Az ⟨e.disk,e.mem,e.log,e.safe,true⟩ (.slice Ad e.disk.length cd) (.slice Am e.mem.length cm) (.slice Al e.log.length cl)
    have h1:=HO1.out.Az (f:=⟨e.disk,e.mem,e.log,e.safe,true⟩) (xd:=.slice Ad e.disk.length cd) (xm:=.slice Am e.mem.length cm) (xl:=.slice Al e.log.length cl) HP1.out
    have h2:=Ao (g:=w.heap.size + 1) (bj HB.out HB1.out) (by omega) ⟨e.disk,e.mem,e.log,e.safe,true⟩ (.slice Ad e.disk.length cd) (.slice Am e.mem.length cm) (.slice Al e.log.length cl)
    have h3:=Ao (g:=w.heap.size + 1) HB1.out (by omega) ⟨e.disk,e.mem,e.log,e.safe,true⟩ (.slice Ad e.disk.length cd) (.slice Am e.mem.length cm) (.slice Al e.log.length cl)
    have z0:=hy.c0
    have z1:=hy.c1
    have z2:=hy.c2
    have z3:=hy.c3
    have z4:=hy.c4
    simp only at z0 z1 z2 z3 z4
    exact bodyPost_ret (v:=.tuple #[.agg #[.slice Ad e.disk.length cd, .slice Am e.mem.length cm, .slice Al e.log.length cl, .int .i64 e.safe, .bool true], .bool false]) (by simp [results,Tryz.results71,go_sem,z0,z1,z2,z3,z4]) rfl ⟨.slice Ad e.disk.length cd, .slice Am e.mem.length cm, .slice Al e.log.length cl,by unfold Eng.ag;rw [HDN.out],h1,h2,Bf.of_below h3⟩
  have HDN:=As hd
  rw [hd] at x4
  clear hd
  obtain ⟨n,hn⟩ : ∃ n : Nat,Aj e.log tx e.log.length = n:=⟨_,rfl⟩
  have HLN:=As hn
  cases h1 : inB tx 1 3
  · have hn0 : n = 0:=by
      rcases Nat.eq_zero_or_pos n with h | h
      · exact h
      · have:=F6 HI.out.core.log (tx:=tx) (by rw [hn];omega)
        rw [show inB tx 1 3 = true from Dj.2 (by omega)] at h1
        cases h1
    rw [show Cz e tx (DT e tx) = (e,false) by rw [Cz,if_neg (by rw [hn,hn0];simp)]]
    have H1:=As h1
    clear h1 hn hn0
    go_enter Tryz.func71,Tryz.ntmps71
    go_wp2_with (first
      | (rw [show (w.alloc (Obj.cells #[Value.slice Ad e.disk.length cd,Value.slice Am e.mem.length cm,Value.slice Al e.log.length cl,Value.int IntKind.i64 e.safe,Value.bool e.down] 28)).alloc (Obj.cells #[Value.slice none 0 0,Value.slice none 0 0,Value.slice none 0 0,Value.int IntKind.i64 0,Value.bool false] 28) = w1 from HW1.out])
      | (go_at_call 55;refine (BL _ _ _ _).mono ?_;rw [H1.out];rintro x w' ⟨rfl,rfl⟩))
    have hz:=HZ1.out
    have hs0:=HB.out.size
    have hy:=HP1.out.Az ⟨e.disk,e.mem,e.log,e.safe,false⟩ (.slice Ad e.disk.length cd) (.slice Am e.mem.length cm) (.slice Al e.log.length cl)
    have h1:=HO1.out.Az (f:=⟨e.disk,e.mem,e.log,e.safe,false⟩) (xd:=.slice Ad e.disk.length cd) (xm:=.slice Am e.mem.length cm) (xl:=.slice Al e.log.length cl) HP1.out
    have h2:=Ao (g:=w.heap.size + 1) (bj HB.out HB1.out) (by omega) ⟨e.disk,e.mem,e.log,e.safe,false⟩ (.slice Ad e.disk.length cd) (.slice Am e.mem.length cm) (.slice Al e.log.length cl)
    have h3:=Ao (g:=w.heap.size + 1) HB1.out (by omega) ⟨e.disk,e.mem,e.log,e.safe,false⟩ (.slice Ad e.disk.length cd) (.slice Am e.mem.length cm) (.slice Al e.log.length cl)
    have z0:=hy.c0
    have z1:=hy.c1
    have z2:=hy.c2
    have z3:=hy.c3
    have z4:=hy.c4
    simp only at z0 z1 z2 z3 z4
    exact bodyPost_ret (v:=.tuple #[.agg #[.slice Ad e.disk.length cd, .slice Am e.mem.length cm, .slice Al e.log.length cl, .int .i64 e.safe, .bool false], .bool false]) (by simp [results,Tryz.results71,go_sem,z0,z1,z2,z3,z4]) rfl ⟨.slice Ad e.disk.length cd, .slice Am e.mem.length cm, .slice Al e.log.length cl,by unfold Eng.ag;rw [HDN.out],h1,h2,Bf.of_below h3⟩
  have H1:=As h1
  clear h1
  by_cases hnz : n = 0
  · subst hnz
    rw [show Cz e tx (DT e tx) = (e,false) by rw [Cz,if_neg (by rw [hn];simp)]]
    clear hn
    go_enter Tryz.func71,Tryz.ntmps71
    go_wp2_with (first
      | (rw [show (w.alloc (Obj.cells #[Value.slice Ad e.disk.length cd,Value.slice Am e.mem.length cm,Value.slice Al e.log.length cl,Value.int IntKind.i64 e.safe,Value.bool e.down] 28)).alloc (Obj.cells #[Value.slice none 0 0,Value.slice none 0 0,Value.slice none 0 0,Value.int IntKind.i64 0,Value.bool false] 28) = w1 from HW1.out])
      | (go_at_call 55;refine (BL _ _ _ _).mono ?_;rw [H1.out];rintro x w' ⟨rfl,rfl⟩)
      | (go_at_call 115;refine (Du (c:=cl) HLN.out (Below.refl w1.heap.size w1) HC1.out.l).mono ?_;rintro x w' ⟨rfl,rfl⟩))
    have hz:=HZ1.out
    have hs0:=HB.out.size
    have hy:=HP1.out.Az ⟨e.disk,e.mem,e.log,e.safe,false⟩ (.slice Ad e.disk.length cd) (.slice Am e.mem.length cm) (.slice Al e.log.length cl)
    have h1:=HO1.out.Az (f:=⟨e.disk,e.mem,e.log,e.safe,false⟩) (xd:=.slice Ad e.disk.length cd) (xm:=.slice Am e.mem.length cm) (xl:=.slice Al e.log.length cl) HP1.out
    have h2:=Ao (g:=w.heap.size + 1) (bj HB.out HB1.out) (by omega) ⟨e.disk,e.mem,e.log,e.safe,false⟩ (.slice Ad e.disk.length cd) (.slice Am e.mem.length cm) (.slice Al e.log.length cl)
    have h3:=Ao (g:=w.heap.size + 1) HB1.out (by omega) ⟨e.disk,e.mem,e.log,e.safe,false⟩ (.slice Ad e.disk.length cd) (.slice Am e.mem.length cm) (.slice Al e.log.length cl)
    have z0:=hy.c0
    have z1:=hy.c1
    have z2:=hy.c2
    have z3:=hy.c3
    have z4:=hy.c4
    simp only at z0 z1 z2 z3 z4
    exact bodyPost_ret (v:=.tuple #[.agg #[.slice Ad e.disk.length cd, .slice Am e.mem.length cm, .slice Al e.log.length cl, .int .i64 e.safe, .bool false], .bool false]) (by simp [results,Tryz.results71,go_sem,z0,z1,z2,z3,z4]) rfl ⟨.slice Ad e.disk.length cd, .slice Am e.mem.length cm, .slice Al e.log.length cl,by unfold Eng.ag;rw [HDN.out],h1,h2,Bf.of_below h3⟩
  have hlast : Aj e.log tx e.log.length ≠ 0:=by rw [hn];omega
  have hX : Cz e tx (DT e tx) = (DT e tx,true):=by rw [Cz,if_pos ⟨HDN.out,hlast⟩]
  obtain ⟨k,hk⟩ : ∃ k,(U e.log tx e.log.length).length + 1 = k:=⟨_,rfl⟩
  have hu:=Eg.UU (F6 HI.out.core.log hlast) _ e (HI.out.und HDN.out tx) hlast rfl
  rw [hk] at hu
  obtain ⟨X,hXX⟩ : ∃ X,DT e tx = X:=⟨_,rfl⟩
  have hUK : J5 tx k e = X:=by rw [← hXX,DT,if_neg hlast,hk]
  rw [hX,hXX]
  have HUO : Ac (MX tx k e ∧ J5 tx k e = X):=⟨⟨hu,hUK⟩⟩
  have hn1 : ¬ (n : Int) = 0:=by omega
  have hn2 : ((n : Int) == 0) = false:=by rw [beq_eq_false_iff_ne];exact hn1
  clear hlast hX hk hu hXX hUK hn hnz
  go_enter Tryz.func71,Tryz.ntmps71
  go_wp2_with (first
    | (rw [show (w.alloc (Obj.cells #[Value.slice Ad e.disk.length cd,Value.slice Am e.mem.length cm,Value.slice Al e.log.length cl,Value.int IntKind.i64 e.safe,Value.bool e.down] 28)).alloc (Obj.cells #[Value.slice none 0 0,Value.slice none 0 0,Value.slice none 0 0,Value.int IntKind.i64 0,Value.bool false] 28) = w1 from HW1.out])
    | (go_at_call 55;refine (BL _ _ _ _).mono ?_;rw [H1.out];rintro x w' ⟨rfl,rfl⟩)
    | (go_at_call 115;refine (Du (c:=cl) HLN.out (Below.refl w1.heap.size w1) HC1.out.l).mono ?_;rintro x w' ⟨rfl,rfl⟩))
  go_loopw [] (fun wr => ∃ (j : Nat) (x : Eng),Ac (∃ vd vm vl,Ai wr w.heap.size x vd vm vl ∧ AU wr w0.heap.size vd vm vl x) ∧ Ac (Ai wr (w.heap.size + 1) zE (.slice none 0 0) (.slice none 0 0) (.slice none 0 0)) ∧ Ac (Below w0.heap.size w0 wr ∧ Bf w wr) ∧ Ac (MX tx j x ∧ J5 tx j x = X)) (fun wr => 151 - Gd wr w.heap.size)
  case atStart => exact ⟨k,e,⟨⟨_,_,_,HQ1.out,HO1.out⟩⟩,HP1,⟨⟨bj HB.out HB1.out,Bf.of_below HB1.out⟩⟩,HUO⟩
  case round =>
    clear x0 x1 x2 x3 x4 y0 y1 y2 y3 y4 f0 f1 f2 f3 f4 hn1 hn2
    obtain ⟨j,x,HE,HP,HBr,HJ⟩:=hrel
    obtain ⟨vd,vm,vl,hq,ho⟩:=HE.out
    obtain ⟨Ed,n1,Em,n2,El,n3,rfl,rfl,rfl, -,hc⟩:=ho.reads
    have HQ:=As hq
    have HO:=As ho
    have HC:=As hc
    have x0:=hq.c0
    have x1:=hq.c1
    have x2:=hq.c2
    have x3:=hq.c3
    have x4:=hq.c4
    obtain ⟨n,hn⟩ : ∃ n : Nat,Aj x.log tx x.log.length = n:=⟨_,rfl⟩
    have HN:=As hn
    clear hq ho hc hn
    rcases j with _ | j
    · have hn0 : n = 0:=by rw [← HN.out];exact HJ.out.1.1
      have HXE : Ac (x = X):=⟨HJ.out.2⟩
      subst hn0
      have y0:=HP.out.c0
      have y1:=HP.out.c1
      have y2:=HP.out.c2
      have y3:=HP.out.c3
      have y4:=HP.out.c4
      have f0:=HP.out.frz 0
      have f1:=HP.out.frz 1
      have f2:=HP.out.frz 2
      have f3:=HP.out.frz 3
      have f4:=HP.out.frz 4
      go_wp2_with (first
        | (go_at_call 115;refine (Du (c:=n3) HN.out (Below.refl wr.heap.size wr) HC.out.l).mono ?_;rintro y w' ⟨rfl,rfl⟩))
      have hs0:=HB.out.size
      have hy:=HP.out.Az x (.slice Ed x.disk.length n1) (.slice Em x.mem.length n2) (.slice El x.log.length n3)
      have h1:=HO.out.Az (f:=x) (xd:=.slice Ed x.disk.length n1) (xm:=.slice Em x.mem.length n2) (xl:=.slice El x.log.length n3) HP.out
      have h2:=Ao (g:=w.heap.size + 1) HBr.out.1 (by omega) x (.slice Ed x.disk.length n1) (.slice Em x.mem.length n2) (.slice El x.log.length n3)
      have h3:=HBr.out.2.Az (g:=w.heap.size + 1) (Nat.le_succ _) x (.slice Ed x.disk.length n1) (.slice Em x.mem.length n2) (.slice El x.log.length n3)
      have z0:=hy.c0
      have z1:=hy.c1
      have z2:=hy.c2
      have z3:=hy.c3
      have z4:=hy.c4
      exact bodyPost_ret (v:=.tuple #[x.ag (.slice Ed x.disk.length n1) (.slice Em x.mem.length n2) (.slice El x.log.length n3), .bool true]) (by simp [results,Tryz.results71,go_sem,z0,z1,z2,z3,z4]) rfl (by rw [← HXE.out];exact ⟨_,_,_,rfl,h1,h2,h3⟩)
    · have hn0 : 0 < (n : Int):=by have h:=HJ.out.1.1;have h2:=HN.out;have h3 : n ≠ 0:=fun h4 => h (h2.trans h4);omega
      have HST:=As HJ.out.1.2.1
      have HNX : Ac (MX tx j (Bg x tx) ∧ J5 tx j (Bg x tx) = X):=⟨HJ.out.1.2.2,HJ.out.2⟩
      obtain ⟨E,hE⟩ : ∃ E,Bg x tx = E:=⟨_,rfl⟩
      have HEE:=As hE
      have HLE:=As (I5 x tx)
      rw [hE] at HNX HLE
      clear hE
      go_wp2_with (first
        | (go_at_call 115;refine (Du (c:=n3) HN.out (Below.refl wr.heap.size wr) HC.out.l).mono ?_;rintro y w' ⟨rfl,rfl⟩)
        | (go_at_call 102;refine (Kj HST.out HBr.out.1 HO.out).mono ?_;rw [HEE.out];rintro y w6 ⟨ud,um,ul,rfl,ho,hb6,hk6⟩;obtain ⟨Bd,dd,Bm,dm,Bl,dl,rfl,rfl,rfl, -, -⟩:=ho.reads;have HO6:=As ho;have HQ6:=As (HQ.out.EC HO.out hk6);have HP6:=As (HP.out.EC HO.out hk6);have HB6:=As (And.intro hb6 (HBr.out.2.D6 (Bf.Jw HO.out hk6)));clear x0 x1 x2 x3 x4;have y0:=HQ6.out.c0;have y1:=HQ6.out.c1;have y2:=HQ6.out.c2;have y3:=HQ6.out.c3;have y4:=HQ6.out.c4;have f0:=HQ6.out.frz 0;have f1:=HQ6.out.frz 1;have f2:=HQ6.out.frz 2;have f3:=HQ6.out.frz 3;have f4:=HQ6.out.frz 4;clear ho hb6 hk6))
      have hq9:=HQ6.out.Az E (.slice Bd E.disk.length dd) (.slice Bm E.mem.length dm) (.slice Bl E.log.length dl)
      have hl9:=hq9.Gd
      have HQ9:=As hq9
      clear hq9
      go_roundw
      case rel => exact ⟨j,E,⟨⟨_,_,_,HQ9.out,HO6.out.Az (f:=E) HQ6.out⟩⟩,⟨((((HP6.out.far (b:=w.heap.size) (by omega) 0 _).far (b:=w.heap.size) (by omega) 1 _).far (b:=w.heap.size) (by omega) 2 _).far (b:=w.heap.size) (by omega) 3 _).far (b:=w.heap.size) (by omega) 4 _⟩,⟨⟨Ao HB6.out.1 HB.out.size E _ _ _,HB6.out.2.Az (Nat.le_refl _) E _ _ _⟩⟩,HNX⟩
      case measure =>
        have h2:=HQ.out.Gd
        have h3:=HST.out.WB
        have h4:=HLE.out
        show 151 - Gd (Go.Proofs.YtpjmlpmhgfghbaaGreat.Az w6 w.heap.size E (.slice Bd E.disk.length dd) (.slice Bm E.mem.length dm) (.slice Bl E.log.length dl)) w.heap.size < 151 - Gd wr w.heap.size
        rw [h2,hl9,h4]
        omega
theorem Vj {w : World} {b n c : Nat} {A : Option Addr} {vd vm : Value} {e : Eng} (h : AU w b vd vm (.slice A n c) e) : Kd.C Ca w A e.log.length e.log:=by
  obtain ⟨Ad,cd,Am,cm,Al,cl, -, -,hv, -,hrd⟩:=h.reads
  injection hv with h1
  rw [h1]
  exact hrd.l
theorem Qy {l : List Rec} {k : Nat} (h : BH l (k + 1) ≤ k) : Bb l isLoad (BA l (k + 1)) = if (rc l k).kind = 3 then (rc l k).page :: Bb l isLoad (BA l (BH l (k + 1))) else Bb l isLoad (BA l (BH l (k + 1))):=by
  rw [DU h,Bb,List.filter_cons,Nat.add_sub_cancel]
  by_cases h3 : (rc l k).kind = 3
  · rw [if_pos h3,if_pos (by simp [isLoad,h3])];simp [Bb]
  · rw [if_neg h3,if_neg (by simp [isLoad,h3])];simp [Bb]
theorem MH {l : List Rec} {n : Nat} {p : Int} : p ∈ Bb l isLoad (BA l n) ↔ EJ l n p = true:=by
  rw [EJ,List.any_eq_true,Bb,List.mem_map]
  simp [isLoad,and_assoc]
set_option maxRecDepth 100000 in
set_option maxHeartbeats 16000000 in
theorem Oi {w0 w : World} {e : Eng} {C : Nat → Page} {B : Nat} {vd vm vl : Value} (tx : Int) (hi : Inv e C B) (hb : Below w0.heap.size w0 w) (hr : AU w w0.heap.size vd vm vl e) : Calls Tryz.prog 70 #[e.ag vd vm vl, .int .i64 tx] w (Hz w0 w (Cz e tx (DK e tx)).1 (Cz e tx (DK e tx)).2):=by
  obtain ⟨Ad,cd,Am,cm,Al,cl,rfl,rfl,rfl,hcl,hrd⟩:=hr.reads
  obtain ⟨w1a,hw1a⟩ : ∃ w1a,w.alloc (e.obox (.slice Ad e.disk.length cd) (.slice Am e.mem.length cm) (.slice Al e.log.length cl)) = w1a:=⟨_,rfl⟩
  obtain ⟨w1,hw1⟩ : ∃ w1,w1a.alloc (zE.obox (.slice none 0 0) (.slice none 0 0) (.slice none 0 0)) = w1:=⟨_,rfl⟩
  have hza : w1a.heap.size = w.heap.size + 1:=by rw [← hw1a];exact BF _ _
  have hz1 : w1.heap.size = w.heap.size + 2:=by rw [← hw1,BF,hza]
  have hba : Below w1a.heap.size w1a w1:=by rw [← hw1];exact Ah (Below.refl _ _) _
  have hb1 : Below w.heap.size w w1:=by rw [← hw1, ← hw1a];exact Ah (Ah (Below.refl _ _) _) _
  have HQ1 : Ac (Ai w1 w.heap.size e (.slice Ad e.disk.length cd) (.slice Am e.mem.length cm) (.slice Al e.log.length cl)):=⟨Ai.up (by rw [← hw1a];exact Ai.mk1 _ _ _ _ _) hba⟩
  have HP1 : Ac (Ai w1 (w.heap.size + 1) zE (.slice none 0 0) (.slice none 0 0) (.slice none 0 0)):=⟨by rw [← hw1, ← hza];exact Ai.mk1 _ _ _ _ _⟩
  have HW1 : Ac ((w.alloc (Obj.cells #[Value.slice Ad e.disk.length cd,Value.slice Am e.mem.length cm,Value.slice Al e.log.length cl,Value.int IntKind.i64 e.safe,Value.bool e.down] 28)).alloc (Obj.cells #[Value.slice none 0 0,Value.slice none 0 0,Value.slice none 0 0,Value.int IntKind.i64 0,Value.bool false] 28) = w1):=⟨by rw [← hw1, ← hw1a];rfl⟩
  have HZ1:=As hz1
  have HB1:=As hb1
  have HB:=As hb
  have HO1:=As (hr.below hb1)
  have HC1:=As (hrd.up hb1)
  have HI:=As hi
  have x0:=HQ1.out.c0
  have x1:=HQ1.out.c1
  have x2:=HQ1.out.c2
  have x3:=HQ1.out.c3
  have x4:=HQ1.out.c4
  have y0:=HP1.out.c0
  have y1:=HP1.out.c1
  have y2:=HP1.out.c2
  have y3:=HP1.out.c3
  have y4:=HP1.out.c4
  have f0:=HP1.out.frz 0
  have f1:=HP1.out.frz 1
  have f2:=HP1.out.frz 2
  have f3:=HP1.out.frz 3
  have f4:=HP1.out.frz 4
  clear hw1a hw1 hza hz1 hba hb1 hb hr hrd hi
  cases hd : e.down
  rotate_left
  · rw [show Cz e tx (DK e tx) = (e,false) by rw [Cz,if_neg (by rw [hd];simp)]]
    have HDN:=As hd
    rw [hd] at x4
    clear hd
    go_enter Tryz.func70,Tryz.ntmps70
    go_wp2_with (first
      | (rw [show (w.alloc (Obj.cells #[Value.slice Ad e.disk.length cd,Value.slice Am e.mem.length cm,Value.slice Al e.log.length cl,Value.int IntKind.i64 e.safe,Value.bool e.down] 28)).alloc (Obj.cells #[Value.slice none 0 0,Value.slice none 0 0,Value.slice none 0 0,Value.int IntKind.i64 0,Value.bool false] 28) = w1 from HW1.out]))
    have hz:=HZ1.out
    have hs0:=HB.out.size
    have hy:=HP1.out.Az ⟨e.disk,e.mem,e.log,e.safe,true⟩ (.slice Ad e.disk.length cd) (.slice Am e.mem.length cm) (.slice Al e.log.length cl)
    have h1:=HO1.out.Az (f:=⟨e.disk,e.mem,e.log,e.safe,true⟩) (xd:=.slice Ad e.disk.length cd) (xm:=.slice Am e.mem.length cm) (xl:=.slice Al e.log.length cl) HP1.out
    have h2:=Ao (g:=w.heap.size + 1) (bj HB.out HB1.out) (by omega) ⟨e.disk,e.mem,e.log,e.safe,true⟩ (.slice Ad e.disk.length cd) (.slice Am e.mem.length cm) (.slice Al e.log.length cl)
    have h3:=Ao (g:=w.heap.size + 1) HB1.out (by omega) ⟨e.disk,e.mem,e.log,e.safe,true⟩ (.slice Ad e.disk.length cd) (.slice Am e.mem.length cm) (.slice Al e.log.length cl)
    have z0:=hy.c0
    have z1:=hy.c1
    have z2:=hy.c2
    have z3:=hy.c3
    have z4:=hy.c4
    simp only at z0 z1 z2 z3 z4
    exact bodyPost_ret (v:=.tuple #[.agg #[.slice Ad e.disk.length cd, .slice Am e.mem.length cm, .slice Al e.log.length cl, .int .i64 e.safe, .bool true], .bool false]) (by simp [results,Tryz.results70,go_sem,z0,z1,z2,z3,z4]) rfl ⟨.slice Ad e.disk.length cd, .slice Am e.mem.length cm, .slice Al e.log.length cl,by unfold Eng.ag;rw [HDN.out],h1,h2,Bf.of_below h3⟩
  have HDN:=As hd
  rw [hd] at x4
  clear hd
  obtain ⟨n,hn⟩ : ∃ n : Nat,Aj e.log tx e.log.length = n:=⟨_,rfl⟩
  have HLN:=As hn
  cases h1 : inB tx 1 3
  · have hn0 : n = 0:=by
      rcases Nat.eq_zero_or_pos n with h | h
      · exact h
      · have:=F6 HI.out.core.log (tx:=tx) (by rw [hn];omega)
        rw [show inB tx 1 3 = true from Dj.2 (by omega)] at h1
        cases h1
    rw [show Cz e tx (DK e tx) = (e,false) by rw [Cz,if_neg (by rw [hn,hn0];simp)]]
    have H1:=As h1
    clear h1 hn hn0
    go_enter Tryz.func70,Tryz.ntmps70
    go_wp2_with (first
      | (rw [show (w.alloc (Obj.cells #[Value.slice Ad e.disk.length cd,Value.slice Am e.mem.length cm,Value.slice Al e.log.length cl,Value.int IntKind.i64 e.safe,Value.bool e.down] 28)).alloc (Obj.cells #[Value.slice none 0 0,Value.slice none 0 0,Value.slice none 0 0,Value.int IntKind.i64 0,Value.bool false] 28) = w1 from HW1.out])
      | (go_at_call 55;refine (BL _ _ _ _).mono ?_;rw [H1.out];rintro x w' ⟨rfl,rfl⟩))
    have hz:=HZ1.out
    have hs0:=HB.out.size
    have hy:=HP1.out.Az ⟨e.disk,e.mem,e.log,e.safe,false⟩ (.slice Ad e.disk.length cd) (.slice Am e.mem.length cm) (.slice Al e.log.length cl)
    have h1:=HO1.out.Az (f:=⟨e.disk,e.mem,e.log,e.safe,false⟩) (xd:=.slice Ad e.disk.length cd) (xm:=.slice Am e.mem.length cm) (xl:=.slice Al e.log.length cl) HP1.out
    have h2:=Ao (g:=w.heap.size + 1) (bj HB.out HB1.out) (by omega) ⟨e.disk,e.mem,e.log,e.safe,false⟩ (.slice Ad e.disk.length cd) (.slice Am e.mem.length cm) (.slice Al e.log.length cl)
    have h3:=Ao (g:=w.heap.size + 1) HB1.out (by omega) ⟨e.disk,e.mem,e.log,e.safe,false⟩ (.slice Ad e.disk.length cd) (.slice Am e.mem.length cm) (.slice Al e.log.length cl)
    have z0:=hy.c0
    have z1:=hy.c1
    have z2:=hy.c2
    have z3:=hy.c3
    have z4:=hy.c4
    simp only at z0 z1 z2 z3 z4
    exact bodyPost_ret (v:=.tuple #[.agg #[.slice Ad e.disk.length cd, .slice Am e.mem.length cm, .slice Al e.log.length cl, .int .i64 e.safe, .bool false], .bool false]) (by simp [results,Tryz.results70,go_sem,z0,z1,z2,z3,z4]) rfl ⟨.slice Ad e.disk.length cd, .slice Am e.mem.length cm, .slice Al e.log.length cl,by unfold Eng.ag;rw [HDN.out],h1,h2,Bf.of_below h3⟩
  have H1:=As h1
  clear h1
  by_cases hnz : n = 0
  · subst hnz
    rw [show Cz e tx (DK e tx) = (e,false) by rw [Cz,if_neg (by rw [hn];simp)]]
    clear hn
    go_enter Tryz.func70,Tryz.ntmps70
    go_wp2_with (first
      | (rw [show (w.alloc (Obj.cells #[Value.slice Ad e.disk.length cd,Value.slice Am e.mem.length cm,Value.slice Al e.log.length cl,Value.int IntKind.i64 e.safe,Value.bool e.down] 28)).alloc (Obj.cells #[Value.slice none 0 0,Value.slice none 0 0,Value.slice none 0 0,Value.int IntKind.i64 0,Value.bool false] 28) = w1 from HW1.out])
      | (go_at_call 55;refine (BL _ _ _ _).mono ?_;rw [H1.out];rintro x w' ⟨rfl,rfl⟩)
      | (go_at_call 115;refine (Du (c:=cl) HLN.out (Below.refl w1.heap.size w1) HC1.out.l).mono ?_;rintro x w' ⟨rfl,rfl⟩))
    have hz:=HZ1.out
    have hs0:=HB.out.size
    have hy:=HP1.out.Az ⟨e.disk,e.mem,e.log,e.safe,false⟩ (.slice Ad e.disk.length cd) (.slice Am e.mem.length cm) (.slice Al e.log.length cl)
    have h1:=HO1.out.Az (f:=⟨e.disk,e.mem,e.log,e.safe,false⟩) (xd:=.slice Ad e.disk.length cd) (xm:=.slice Am e.mem.length cm) (xl:=.slice Al e.log.length cl) HP1.out
    have h2:=Ao (g:=w.heap.size + 1) (bj HB.out HB1.out) (by omega) ⟨e.disk,e.mem,e.log,e.safe,false⟩ (.slice Ad e.disk.length cd) (.slice Am e.mem.length cm) (.slice Al e.log.length cl)
    have h3:=Ao (g:=w.heap.size + 1) HB1.out (by omega) ⟨e.disk,e.mem,e.log,e.safe,false⟩ (.slice Ad e.disk.length cd) (.slice Am e.mem.length cm) (.slice Al e.log.length cl)
    have z0:=hy.c0
    have z1:=hy.c1
    have z2:=hy.c2
    have z3:=hy.c3
    have z4:=hy.c4
    simp only at z0 z1 z2 z3 z4
    exact bodyPost_ret (v:=.tuple #[.agg #[.slice Ad e.disk.length cd, .slice Am e.mem.length cm, .slice Al e.log.length cl, .int .i64 e.safe, .bool false], .bool false]) (by simp [results,Tryz.results70,go_sem,z0,z1,z2,z3,z4]) rfl ⟨.slice Ad e.disk.length cd, .slice Am e.mem.length cm, .slice Al e.log.length cl,by unfold Eng.ag;rw [HDN.out],h1,h2,Bf.of_below h3⟩
  have hlast : Aj e.log tx e.log.length ≠ 0:=by rw [hn];exact hnz
  rw [show Cz e tx (DK e tx) = (DK e tx,true) by rw [Cz,if_pos ⟨HDN.out,hlast⟩]]
  have htx:=F6 HI.out.core.log hlast
  have hx:=HI.out.VI HDN.out htx hlast
  have hlog:=HI.out.core.log
  have hgd : geo e.disk:=Aw (CF.2 ⟨HI.out.core.dlen,HI.out.core.dok⟩)
  have hgm:=Aw HI.out.Fz
  have hnl : n ≤ e.log.length:=by rw [← hn];exact AY _ _ _
  obtain ⟨zs,hzs⟩ : ∃ zs,Bb e.log isLoad (BA e.log n) = zs:=⟨_,rfl⟩
  have hrg : ∀ p ∈ zs,0 ≤ p ∧ p < 5:=fun p hp => MK hlog hnl (MH.1 (by rw [hzs];exact hp))
  have hdw:=MS (e:=e) (tx:=tx) (ps:=zs) hgd.1 (fun p _ => by rw [← hzs,MH, ← hn];rfl) hrg
  obtain ⟨X,hX⟩ : ∃ X,Cy e zs = X:=⟨_,rfl⟩
  have hkp:=EH zs e
  rw [hX] at hdw hkp
  obtain ⟨Y,hY⟩ : ∃ Y,X.app ⟨4,tx,0,0,0,0,0,0⟩ = Y:=⟨_,rfl⟩
  have hYl : Y.log.length = e.log.length + 1:=by rw [← hY,IX,hkp.2.1]
  rw [hY] at hdw
  have HDW : Ac ({ Y with safe:=(Y.log.length : Int) } = DK e tx):=⟨by rw [hYl];exact hdw⟩
  have hlogX : AP (X.log ++ [Dl ⟨4,tx,0,0,0,0,0,0⟩ (Aj X.log tx X.log.length)]) = true:=by rw [hkp.2.1];exact hx.core.log
  have HADD : Ac (∀ wx vd' vm' vl',AU wx w0.heap.size vd' vm' vl' X → Below w0.heap.size w0 wx → Calls Tryz.prog 125 #[X.ag vd' vm' vl', .agg #[.int .i64 4, .int .i64 tx, .int .i64 0, .int .i64 0, .int .i64 0, .int .i64 0, .int .i64 0, .int .i64 0]] wx (GX w0 wx vm' Y true)):=⟨fun wx vd' vm' vl' ho hb => by
    have h:=Ew ⟨4,tx,0,0,0,0,0,0⟩ (by rw [hkp.1];exact hgm) hlogX (by rw [hkp.2.1];exact hx.Tf rfl (by simp)) (fun h => by simp [Cx] at h) hb ho
    rw [hY] at h
    exact h⟩
  have HLOOP : Ac (Cy e (Bb e.log isLoad (BA e.log n)) = X):=⟨by rw [hzs];exact hX⟩
  have HLG:=As hlog
  have HGM:=As hgm
  have HGD:=As hgd
  have HNL:=As hnl
  have HL150:=As (Be hlog)
  have hn1 : ¬ (n : Int) = 0:=by omega
  have hn2 : ((n : Int) == 0) = false:=by rw [beq_eq_false_iff_ne];exact hn1
  clear hlast htx hx hlog hgd hgm hnl hzs hrg hdw hX hkp hY hYl hlogX hn hnz
  go_enter Tryz.func70,Tryz.ntmps70
  go_wp2_with (first
    | (rw [show (w.alloc (Obj.cells #[Value.slice Ad e.disk.length cd,Value.slice Am e.mem.length cm,Value.slice Al e.log.length cl,Value.int IntKind.i64 e.safe,Value.bool e.down] 28)).alloc (Obj.cells #[Value.slice none 0 0,Value.slice none 0 0,Value.slice none 0 0,Value.int IntKind.i64 0,Value.bool false] 28) = w1 from HW1.out])
    | (go_at_call 55;refine (BL _ _ _ _).mono ?_;rw [H1.out];rintro x w' ⟨rfl,rfl⟩)
    | (go_at_call 115;refine (Du (c:=cl) HLN.out (Below.refl w1.heap.size w1) HC1.out.l).mono ?_;rintro x w' ⟨rfl,rfl⟩))
  go_loopw [6] (fun i wr => ∃ (k : Nat) (x : Eng),k ≤ e.log.length ∧ i = .int .i64 (k : Int) ∧ Ac (∃ vd vm vl,Ai wr w.heap.size x vd vm vl ∧ AU wr w0.heap.size vd vm vl x) ∧ Ac (Ai wr (w.heap.size + 1) zE (.slice none 0 0) (.slice none 0 0) (.slice none 0 0)) ∧ Ac (Below w0.heap.size w0 wr ∧ Bf w wr ∧ w.heap.size + 2 ≤ wr.heap.size) ∧ Ac (x.log = e.log ∧ x.mem = e.mem ∧ geo x.disk ∧ Cy x (Bb e.log isLoad (BA e.log k)) = X)) (fun i _ => (intOf i).toNat)
  case atStart => exact ⟨n,e,HNL.out,rfl,⟨⟨_,_,_,HQ1.out,HO1.out⟩⟩,HP1,⟨⟨bj HB.out HB1.out,Bf.of_below HB1.out,by have:=HZ1.out;omega⟩⟩,⟨⟨rfl,rfl,HGD.out,HLOOP.out⟩⟩⟩
  case round =>
    clear x0 x1 x2 x3 x4 y0 y1 y2 y3 y4 f0 f1 f2 f3 f4 hn1 hn2
    obtain ⟨k,x,hk,rfl,HE,HP,HBr,HJ⟩:=hrel
    obtain ⟨vd,vm,vl,hq,ho⟩:=HE.out
    obtain ⟨Ed,n1,Em,n2,El,n3,rfl,rfl,rfl, -,hc⟩:=ho.reads
    have HQ:=As hq
    have HO:=As ho
    have HC:=As hc
    have x0:=hq.c0
    have x1:=hq.c1
    have x2:=hq.c2
    have x3:=hq.c3
    have x4:=hq.c4
    clear hq ho hc
    rcases k with _ | k
    · have hxX : x = X:=by
        have h:=HJ.out.2.2.2
        rw [Cm] at h
        exact h
      subst hxX
      go_wp2_with (first
        | (go_at_call 125;refine (HADD.out wr _ _ _ HO.out HBr.out.1).mono ?_;rintro y w6 ⟨ud,um,ul,rfl,ho,hb6,hk6⟩;obtain ⟨Bd,dd,Bm,dm,Bl,dl,rfl,rfl,rfl, -, -⟩:=ho.reads;have HO6:=As ho;have HP6:=As (HP.out.EC HO.out hk6);have HB6:=As (And.intro hb6 (And.intro (HBr.out.2.1.D6 (Bf.Jw HO.out hk6)) hk6.1));clear x0 x1 x2 x3 x4;clear ho hb6 hk6)
        | (refine Ay (vd:=.slice Bd Y.disk.length dd) (vm:=.slice Bm Y.mem.length dm) (vl:=.slice Bl Y.log.length dl) Y ?_;intro w7 hb7 hz7 hq7;clear hz7;have HQ7:=As hq7;have HO7:=As (HO6.out.below hb7);have hp7:=HP6.out.up hb7;have HP7:=As hp7;have HB7:=As (And.intro (bj HB6.out.1 hb7) (HB6.out.2.1.D6 (Bf.of_below hb7)));have hne1 : ¬ w6.heap.size = w.heap.size + 1:=(by have:=HB6.out.2.2;have:=HBr.out.2.2;omega);have hne2 : ¬ w.heap.size + 1 = w6.heap.size:=fun e => hne1 e.symm;have g3:=hq7.frz 3;have x0:=hq7.c0;have x1:=hq7.c1;have x2:=hq7.c2;have x3:=hq7.c3;have x4:=hq7.c4;have y0:=hp7.c0;have y1:=hp7.c1;have y2:=hp7.c2;have y3:=hp7.c3;have y4:=hp7.c4;have f0:=hp7.frz 0;have f1:=hp7.frz 1;have f2:=hp7.frz 2;have f3:=hp7.frz 3;have f4:=hp7.frz 4;clear hb7 hq7 hp7))
      have hge : w.heap.size ≤ w6.heap.size:=HB6.out.2.1.1
      have hs0:=HB.out.size
      have r1:=HO7.out.Gc HQ7.out 3 (.int .i64 (Y.log.length : Int))
      have p1:=HP7.out.far (b:=w6.heap.size) (by omega) 3 (.int .i64 (Y.log.length : Int))
      have b1:=HB7.out.1.setCell (p:=⟨w6.heap.size,3,none⟩) (by show w0.heap.size ≤ w6.heap.size;omega) (.int .i64 (Y.log.length : Int))
      have k1:=HB7.out.2.setCell (p:=⟨w6.heap.size,3,none⟩) hge (.int .i64 (Y.log.length : Int))
      have hy:=p1.Az { Y with safe:=(Y.log.length : Int) } (.slice Bd Y.disk.length dd) (.slice Bm Y.mem.length dm) (.slice Bl Y.log.length dl)
      have h1:=r1.Az (f:={ Y with safe:=(Y.log.length : Int) }) (xd:=.slice Bd Y.disk.length dd) (xm:=.slice Bm Y.mem.length dm) (xl:=.slice Bl Y.log.length dl) p1
      have h2:=Ao (g:=w.heap.size + 1) b1 (by omega) { Y with safe:=(Y.log.length : Int) } (.slice Bd Y.disk.length dd) (.slice Bm Y.mem.length dm) (.slice Bl Y.log.length dl)
      have h3:=k1.Az (g:=w.heap.size + 1) (Nat.le_succ _) { Y with safe:=(Y.log.length : Int) } (.slice Bd Y.disk.length dd) (.slice Bm Y.mem.length dm) (.slice Bl Y.log.length dl)
      have z0:=hy.c0
      have z1:=hy.c1
      have z2:=hy.c2
      have z3:=hy.c3
      have z4:=hy.c4
      simp only at z0 z1 z2 z3 z4
      exact bodyPost_ret (v:=.tuple #[.agg #[.slice Bd Y.disk.length dd, .slice Bm Y.mem.length dm, .slice Bl Y.log.length dl, .int .i64 (Y.log.length : Int), .bool Y.down], .bool true]) (by simp [results,Tryz.results70,go_sem,z0,z1,z2,z3,z4]) rfl (by rw [← HDW.out];exact ⟨.slice Bd Y.disk.length dd, .slice Bm Y.mem.length dm, .slice Bl Y.log.length dl,rfl,⟨h1.ex,h1.l⟩,h2,h3⟩)
    · have hkl : k < x.log.length:=by rw [HJ.out.1];omega
      have F:=AA HLG.out (k:=k) (by omega)
      obtain ⟨ad,rfl,QR⟩:=Ce HC.out.l k hkl
      rw [HJ.out.1] at QR
      obtain ⟨z0,z1,z2,z3,z4,z5,z6,z7⟩:=QR
      rw [F.prev] at z6
      have hpl:=Qy F.prev_le
      have hple:=F.prev_le
      have HOKR:=As F.ok
      have hk150 : k < 150:=by have:=HL150.out;omega
      have hwr0 : IntKind.i64.wrap (k : Int) = (k : Int):=by simp (disch:=omega) only [IntWalk.i64_in]
      have hwr1 : IntKind.i64.wrap (((k + 1 : Nat) : Int) - 1) = (k : Int):=by rw [show (((k + 1 : Nat) : Int) - 1) = (k : Int) by omega];exact hwr0
      have hwr2 : IntKind.i64.wrap ((k : Int) + 1 - 1) = (k : Int):=by rw [show ((k : Int) + 1 - 1) = (k : Int) by omega];exact hwr0
      rcases BO (rc e.log k).kind 3 with ⟨e1,b1,c1⟩ | ⟨e1,b1,c1⟩
      rotate_left
      · rw [if_neg e1.out] at hpl
        have HNX : Ac (Cy x (Bb e.log isLoad (BA e.log (BH e.log (k + 1)))) = X):=⟨by rw [← hpl];exact HJ.out.2.2.2⟩
        clear hpl F
        go_wp2
        go_roundw
        case rel => exact ⟨BH e.log (k + 1),x,by omega,rfl,HE,HP,HBr,⟨⟨HJ.out.1,HJ.out.2.1,HJ.out.2.2.1,HNX.out⟩⟩⟩
        case measure => simp [intOf];omega
      rw [if_pos e1.out] at hpl
      have hpr : 0 ≤ (rc e.log k).page ∧ (rc e.log k).page < 5:=by have h3:=HOKR.out;rw [D7] at h3;have:=e1.out;omega
      obtain ⟨p,hp⟩ : ∃ p : Nat,(rc e.log k).page = (p : Int):=⟨(rc e.log k).page.toNat,by omega⟩
      rw [hp] at hpl z2
      obtain ⟨E,hE⟩ : ∃ E,CQ x p = E:=⟨_,rfl⟩
      have hEk : E.log = e.log ∧ E.mem = e.mem ∧ geo E.disk ∧ E.disk.length = x.disk.length ∧ E.mem.length = x.mem.length ∧ E.log.length = x.log.length:=by
        rw [← hE]
        exact ⟨HJ.out.1,HJ.out.2.1,Ls HJ.out.2.2.1 (EW (by rw [HJ.out.2.1];exact HGM.out) (by omega)),by simp [CQ],rfl,rfl⟩
      have HEK:=As hEk
      have HNX : Ac (Cy E (Bb e.log isLoad (BA e.log (BH e.log (k + 1)))) = X):=⟨by have h:=HJ.out.2.2.2;rw [hpl] at h;rw [← hE];exact h⟩
      have HWR : Ac (∀ wx,AU wx w0.heap.size (.slice Ed x.disk.length n1) (.slice Em x.mem.length n2) (.slice (some ad) x.log.length n3) x → Below w0.heap.size w0 wx → Calls Tryz.prog 72 #[x.val Ed Em (some ad) n1 n2 n3, .int .i64 (p : Int)] wx (X8 w0 wx (.slice Ed x.disk.length n1) (.slice Em x.mem.length n2) (.slice (some ad) x.log.length n3) E)):=⟨fun wx ho hb => hE ▸ JD (by omega) HJ.out.2.2.1 (by rw [HJ.out.2.1];exact HGM.out) hb ho⟩
      clear hpl F hpr hp hE hEk
      go_wp2
      refine AX (fun lx a wx => (Below w0.heap.size w0 wx ∧ Kept wr wx (fun k => some k = (Value.slice Ed x.disk.length n1).ownBlock)) ∧ (Un 8 (fun wx => Below wr.heap.size wr wx) lx a wx ∧ Sl 8 53 (fun v wx => AU wx w0.heap.size (.slice Ed x.disk.length n1) (.slice Em x.mem.length n2) (.slice (some ad) x.log.length n3) E) lx a wx)) 9 rfl (by kernel_rfl) (⟨⟨Ak HBr.out.1,Kept.drew (Kept.refl _ _)⟩,fun _ => Ak (Below.refl _ _),Bc⟩) (fun HT => ?_)
      refine Aq (i:=0) (v:=?_) 8 HT rfl (by kernel_rfl) (by kernel_rfl) rfl (kA Aa (kA (Ag rfl) (Ab rfl rfl))) (by rfl) (fun _ _ _ h => h) (fun lx ax wx hK hS => ?_) ?_;rotate_left;(have hbx:=hS.2.1 hK;clear hS;replace x0:=bc hbx x0;replace x1:=bc hbx x1;replace x2:=bc hbx x2;replace x3:=bc hbx x3;replace x4:=bc hbx x4;replace z2:=bc hbx z2;go_simp;with_reducible rfl);rotate_left;simp only [sc0,sc1]
      refine Aq (i:=1) (v:=?_) 8 HT rfl (by kernel_rfl) (by kernel_rfl) rfl (kA Aa (kA (Ag rfl) (Ab rfl rfl))) (by rfl) (fun _ _ _ h => h) (fun lx ax wx hK hS => ?_) ?_;rotate_left;(have hbx:=hS.2.1 hK;clear hS;replace x0:=bc hbx x0;replace x1:=bc hbx x1;replace x2:=bc hbx x2;replace x3:=bc hbx x3;replace x4:=bc hbx x4;replace z2:=bc hbx z2;go_simp;with_reducible rfl);rotate_left;simp only [sc0,sc1]
      refine Aq (i:=2) (v:=?_) 8 HT rfl (by kernel_rfl) (by kernel_rfl) rfl (kA Aa (kA (Ag rfl) (Ab rfl rfl))) (by rfl) (fun _ _ _ h => h) (fun lx ax wx hK hS => ?_) ?_;rotate_left;(have hbx:=hS.2.1 hK;clear hS;replace x0:=bc hbx x0;replace x1:=bc hbx x1;replace x2:=bc hbx x2;replace x3:=bc hbx x3;replace x4:=bc hbx x4;replace z2:=bc hbx z2;go_simp;with_reducible rfl);rotate_left;simp only [sc0,sc1]
      refine Aq (i:=3) (v:=?_) 8 HT rfl (by kernel_rfl) (by kernel_rfl) rfl (kA Aa (kA (Ag rfl) (Ab rfl rfl))) (by rfl) (fun _ _ _ h => h) (fun lx ax wx hK hS => ?_) ?_;rotate_left;(have hbx:=hS.2.1 hK;clear hS;replace x0:=bc hbx x0;replace x1:=bc hbx x1;replace x2:=bc hbx x2;replace x3:=bc hbx x3;replace x4:=bc hbx x4;replace z2:=bc hbx z2;go_simp;with_reducible rfl);rotate_left;simp only [sc0,sc1]
      refine Aq (i:=4) (v:=?_) 8 HT rfl (by kernel_rfl) (by kernel_rfl) rfl (kA Aa (kA (Ag rfl) (Ab rfl rfl))) (by rfl) (fun _ _ _ h => h) (fun lx ax wx hK hS => ?_) ?_;rotate_left;(have hbx:=hS.2.1 hK;clear hS;replace x0:=bc hbx x0;replace x1:=bc hbx x1;replace x2:=bc hbx x2;replace x3:=bc hbx x3;replace x4:=bc hbx x4;replace z2:=bc hbx z2;go_simp;with_reducible rfl);rotate_left;simp only [sc0,sc1]
      refine Aq (i:=5) (v:=?_) 8 HT rfl (by kernel_rfl) (by kernel_rfl) rfl (kA Aa (kA (Ag rfl) (Ab rfl rfl))) (by rfl) (fun _ _ _ h => h) (fun lx ax wx hK hS => ?_) ?_;rotate_left;(have hbx:=hS.2.1 hK;clear hS;replace x0:=bc hbx x0;replace x1:=bc hbx x1;replace x2:=bc hbx x2;replace x3:=bc hbx x3;replace x4:=bc hbx x4;replace z2:=bc hbx z2;go_simp;with_reducible rfl);rotate_left;simp only [sc0,sc1]
      refine Aq (i:=6) (v:=?_) 8 HT rfl (by kernel_rfl) (by kernel_rfl) rfl (kA Aa (kA (Ag rfl) (Ab rfl rfl))) (by rfl) (fun _ _ _ h => h) (fun lx ax wx hK hS => ?_) ?_;rotate_left;(have hbx:=hS.2.1 hK;clear hS;replace x0:=bc hbx x0;replace x1:=bc hbx x1;replace x2:=bc hbx x2;replace x3:=bc hbx x3;replace x4:=bc hbx x4;replace z2:=bc hbx z2;go_simp;with_reducible rfl);rotate_left;simp only [sc0,sc1]
      refine Aq (i:=7) (v:=?_) 8 HT rfl (by kernel_rfl) (by kernel_rfl) rfl (kA Aa (kA (Ag rfl) (Ab rfl rfl))) (by rfl) (fun _ _ _ h => h) (fun lx ax wx hK hS => ?_) ?_;rotate_left;(have hbx:=hS.2.1 hK;clear hS;replace x0:=bc hbx x0;replace x1:=bc hbx x1;replace x2:=bc hbx x2;replace x3:=bc hbx x3;replace x4:=bc hbx x4;replace z2:=bc hbx z2;go_simp;with_reducible rfl);rotate_left;simp only [sc0,sc1]
      refine C9 (i:=8) (f:=72) (args:=#[x.val Ed Em (some ad) n1 n2 n3, .int .i64 (p : Int)]) (fun v => v = E.ag (.slice Ed x.disk.length n1) (.slice Em x.mem.length n2) (.slice (some ad) x.log.length n3)) rfl (by kernel_rfl) rfl Tryz.func72 (by kernel_rfl) rfl rfl (by rfl) (by simp only [List.map_toArray,List.map_cons,List.map_nil];rfl) (fun wx hS => (HWR.out wx (HO.out.below (hS.2.1 (by kernel_rfl))) hS.1.1).mono (by rintro y w6 ⟨rfl,ho,hb,hk⟩;exact ⟨_,rfl,rfl,⟨hb,hS.1.2.D6 hk (fun k hk => .inl hk)⟩,fun h => (AL (by kernel_rfl) h).elim,fun _ => ho⟩)) (fun vx hg => ?_);simp only [sc0,sc1]
      subst hg
      refine Cg (i:=9) (by kernel_rfl) rfl (fun wx hS => ?_)
      obtain ⟨⟨h1,h2⟩, -,h3⟩:=hS
      have hown:=h3 (by kernel_rfl)
      have hkt:=Bf.QE HO.out h2
      have hq5:=HQ.out.R8 hkt
      have hp5:=HP.out.R8 hkt
      clear x0 x1 x2 x3 x4
      have x0:=hq5.c0
      have x1:=hq5.c1
      have x2:=hq5.c2
      have x3:=hq5.c3
      have x4:=hq5.c4
      have f0:=hq5.frz 0
      have f1:=hq5.frz 1
      have f2:=hq5.frz 2
      have f3:=hq5.frz 3
      have f4:=hq5.frz 4
      refine BJ (w1:=Go.Proofs.YtpjmlpmhgfghbaaGreat.Az wx w.heap.size E (.slice Ed x.disk.length n1) (.slice Em x.mem.length n2) (.slice (some ad) x.log.length n3)) rfl (by rfl) (by go_simp) ?_
      have hq6:=hq5.Az E (.slice Ed x.disk.length n1) (.slice Em x.mem.length n2) (.slice (some ad) x.log.length n3)
      have ho6:=hown.Az (f:=E) (xd:=.slice Ed x.disk.length n1) (xm:=.slice Em x.mem.length n2) (xl:=.slice (some ad) x.log.length n3) hq5
      have hp6 : Ai (Go.Proofs.YtpjmlpmhgfghbaaGreat.Az wx w.heap.size E (.slice Ed x.disk.length n1) (.slice Em x.mem.length n2) (.slice (some ad) x.log.length n3)) (w.heap.size + 1) zE (.slice none 0 0) (.slice none 0 0) (.slice none 0 0):=((((hp5.far (b:=w.heap.size) (by omega) 0 _).far (b:=w.heap.size) (by omega) 1 _).far (b:=w.heap.size) (by omega) 2 _).far (b:=w.heap.size) (by omega) 3 _).far (b:=w.heap.size) (by omega) 4 _
      have hb6:=Ao (g:=w.heap.size) h1 HB.out.size E (.slice Ed x.disk.length n1) (.slice Em x.mem.length n2) (.slice (some ad) x.log.length n3)
      have hk6:=(HBr.out.2.1.D6 hkt).Az (Nat.le_refl _) E (.slice Ed x.disk.length n1) (.slice Em x.mem.length n2) (.slice (some ad) x.log.length n3)
      obtain ⟨w9,hw9⟩ : ∃ w9,Go.Proofs.YtpjmlpmhgfghbaaGreat.Az wx w.heap.size E (.slice Ed x.disk.length n1) (.slice Em x.mem.length n2) (.slice (some ad) x.log.length n3) = w9:=⟨_,rfl⟩
      have hs9 : w.heap.size + 2 ≤ w9.heap.size:=by
        have h4:=h2.1
        have h5:=HBr.out.2.2
        rw [← hw9]
        simp
        omega
      rw [hw9] at hq6 ho6 hp6 hb6 hk6 ⊢
      have hlE : x.log.length = E.log.length:=HEK.out.2.2.2.2.2.symm
      have hC9 : Kd.C Ca w9 (some ad) E.log.length E.log:=Vj ho6
      obtain ⟨ad',had,QR9⟩:=Ce hC9 k (by rw [← hlE];exact hkl)
      injection had with had
      subst had
      rw [HEK.out.1] at QR9
      have z6':=QR9.c6
      rw [(AA HLG.out (k:=k) (by omega)).prev] at z6'
      have x2':=hq6.c2
      have HE9 : Ac (∃ vd vm vl,Ai w9 w.heap.size E vd vm vl ∧ AU w9 w0.heap.size vd vm vl E):=⟨⟨_,_,_,hq6,ho6⟩⟩
      have HP9:=As hp6
      have HB9 : Ac (Below w0.heap.size w0 w9 ∧ Bf w w9 ∧ w.heap.size + 2 ≤ w9.heap.size):=⟨⟨hb6,hk6,hs9⟩⟩
      clear h1 h2 h3 hown hkt hq5 hp5 hq6 ho6 hp6 hb6 hk6 hs9 hw9 x0 x1 x2 x3 x4 f0 f1 f2 f3 f4 hC9 QR9 z0 z1 z2 z3 z4 z5 z6 z7 hlE
      refine BQ (by kernel_rfl) ?_
      go_wp2
      go_roundw
      case rel => exact ⟨BH e.log (k + 1),E,by omega,rfl,HE9,HP9,HB9,⟨⟨HEK.out.1,HEK.out.2.1,HEK.out.2.2.1,HNX.out⟩⟩⟩
      case measure => simp [intOf];omega
/-- Did one of the records from n on take a page? -/
def OI (l : List Rec) (page : Int) (n : Nat) : Bool:=(BA l n).any fun m => (rc l (m - 1)).kind == 2 && ((rc l (m - 1)).page == page && (rc l (m - 1)).new != 0)
theorem RB {l : List Rec} {page : Int} {n : Nat} (h : BH l (n + 1) ≤ n) : OI l page (n + 1) = (((rc l n).kind == 2 && ((rc l n).page == page && (rc l n).new != 0)) || OI l page (BH l (n + 1))):=by
  simp [OI,DU h]
set_option maxRecDepth 100000 in
set_option maxHeartbeats 8000000 in
theorem Kk {w0 w : World} {A : Option Addr} {c : Nat} {l : List Rec} {tx page : Int} {b : Bool} (hv : MB l tx page = b) (hb : Below w0.heap.size w0 w) (hr : Kd.C Ca w0 A l.length l) (hl : AP l = true) : Calls Tryz.prog 127 #[.slice A l.length c, .int .i64 tx, .int .i64 page] w fun x w' => x = .returned (.bool b) ∧ Below w.heap.size w w':=by
  have HR:=As hr
  have HB:=As hb
  have HL:=As hl
  have HV : Ac (OI l page (Aj l tx l.length) = b):=⟨hv⟩
  have hm:=(CJ hr).2
  clear hr hb hl hv
  go_enter Tryz.func127,Tryz.ntmps127
  go_wp2_with (go_at_call 115;refine (IL tx HB.out HR.out).mono ?_;rintro e w' ⟨rfl,rfl⟩)
  go_loopw [7] (fun i wr => ∃ k : Nat,k ≤ l.length ∧ i = .int .i64 (k : Int) ∧ Ac (OI l page k = b) ∧ Ac (Below w.heap.size w wr)) (fun i _ => (intOf i).toNat)
  case atStart => exact ⟨Aj l tx l.length,AY _ _ _,rfl,HV,⟨Below.refl _ _⟩⟩
  case round =>
    obtain ⟨k,hk,rfl,HK,HW⟩:=hrel
    rcases k with _ | k
    · go_wp2
      go_ret
      exact ⟨AB (by rw [← HK.out,OI,Cm];rfl),HW.out⟩
    · have F:=AA HL.out (k:=k) (by omega)
      obtain ⟨ad,rfl,QR⟩:=Ce HR.out k (by omega)
      have QW:=QR.up (bj HB.out HW.out)
      have HQW:=As QW
      obtain ⟨z0,z1,z2,z3,z4,z5,z6,z7⟩:=QW
      have HP:=As (RB (page:=page) F.prev_le)
      have hle:=F.prev_le
      have hnw : (rc l k).kind = 2 → 0 ≤ (rc l k).new:=fun h2 => by
        have h3:=F.ok
        rw [D7] at h3
        omega
      have HF6:=As F.prev
      have HNW:=As hnw
      clear F QR hnw
      rcases BO (rc l k).kind 2 with ⟨e1,b1,c1⟩ | ⟨e1,b1,c1⟩
      all_goals rcases BO (rc l k).page page with ⟨e2,b2,c2⟩ | ⟨e2,b2,c2⟩
      all_goals rcases lts 0 (rc l k).new with ⟨e3,b3,c3⟩ | ⟨e3,b3,c3⟩
      all_goals
        go_wp2_with (with_reducible refine Ct (rc l k) ?_;intro w2 hb2 hz2 hq2;clear hz2;have HW2:=As (bj HW.out hb2);obtain ⟨q0,q1,q2,q3,q4,q5,q6,q7⟩:=hq2;simp only [Nat.zero_add] at q1 q2 q3 q4 q5 q6 q7;have z6:=(HQW.out.up hb2).c6;rw [HF6.out] at z6;clear hb2)
        first
          | (go_ret;exact ⟨AB (by rw [← HK.out,HP.out,b1,b2,show ((rc l k).new != 0) = true by have:=e3.out;simp;omega];rfl),HW2.out⟩)
          | (go_roundw
             case rel => exact ⟨BH l (k + 1),by omega,rfl,⟨by
               rw [← HK.out,HP.out]
               have h3:=e3.out
               first
                 | rw [b1,Bool.false_and,Bool.false_or]
                 | rw [b1,b2,Bool.false_and,Bool.and_false,Bool.false_or]
                 | rw [b1,b2,show ((rc l k).new != 0) = false by have:=HNW.out e1.out;simp;omega];rfl⟩,HW2⟩
             case measure => simp [intOf];omega)
set_option maxRecDepth 100000 in
set_option maxHeartbeats 16000000 in
theorem Oj {w0 w : World} {e : Eng} {C : Nat → Page} {B : Nat} {vd vm vl : Value} {Av : Option Addr} {cv : Nat} (tx page : Int) (vals : List Int) (hi : Inv e C B) (hB : B + 3 ≤ 150) (hb : Below w0.heap.size w0 w) (hr : AU w w0.heap.size vd vm vl e) (hv : Kd.C (Kd.int .i64) w0 Av vals.length vals) : Calls Tryz.prog 69 #[e.ag vd vm vl, .int .i64 tx, .int .i64 page, .slice Av vals.length cv] w (Hz w0 w (GL e tx page vals).1 (GL e tx page vals).2):=by
  have hFE : GL e tx page vals = if Ki e tx page vals = true then (JB e tx page vals,true) else (e,false):=Inv.PV (fun hp => hi.QT hB hp)
  have HFE:=As hFE
  have HBB:=As hB
  clear hFE hB
  obtain ⟨Ad,cd,Am,cm,Al,cl,rfl,rfl,rfl,hcl,hrd⟩:=hr.reads
  obtain ⟨w1a,hw1a⟩ : ∃ w1a,w.alloc (e.obox (.slice Ad e.disk.length cd) (.slice Am e.mem.length cm) (.slice Al e.log.length cl)) = w1a:=⟨_,rfl⟩
  obtain ⟨w1,hw1⟩ : ∃ w1,w1a.alloc (zE.obox (.slice none 0 0) (.slice none 0 0) (.slice none 0 0)) = w1:=⟨_,rfl⟩
  have hza : w1a.heap.size = w.heap.size + 1:=by rw [← hw1a];exact BF _ _
  have hz1 : w1.heap.size = w.heap.size + 2:=by rw [← hw1,BF,hza]
  have hba : Below w1a.heap.size w1a w1:=by rw [← hw1];exact Ah (Below.refl _ _) _
  have hb1 : Below w.heap.size w w1:=by rw [← hw1, ← hw1a];exact Ah (Ah (Below.refl _ _) _) _
  have HQ1 : Ac (Ai w1 w.heap.size e (.slice Ad e.disk.length cd) (.slice Am e.mem.length cm) (.slice Al e.log.length cl)):=⟨Ai.up (by rw [← hw1a];exact Ai.mk1 _ _ _ _ _) hba⟩
  have HP1 : Ac (Ai w1 (w.heap.size + 1) zE (.slice none 0 0) (.slice none 0 0) (.slice none 0 0)):=⟨by rw [← hw1, ← hza];exact Ai.mk1 _ _ _ _ _⟩
  have HW1 : Ac ((w.alloc (Obj.cells #[Value.slice Ad e.disk.length cd,Value.slice Am e.mem.length cm,Value.slice Al e.log.length cl,Value.int IntKind.i64 e.safe,Value.bool e.down] 28)).alloc (Obj.cells #[Value.slice none 0 0,Value.slice none 0 0,Value.slice none 0 0,Value.int IntKind.i64 0,Value.bool false] 28) = w1):=⟨by rw [← hw1, ← hw1a];rfl⟩
  have HZ1:=As hz1
  have HB1:=As hb1
  have HB:=As hb
  have HO1:=As (hr.below hb1)
  have HC1:=As (hrd.up hb1)
  have HI:=As hi
  have x0:=HQ1.out.c0
  have x1:=HQ1.out.c1
  have x2:=HQ1.out.c2
  have x3:=HQ1.out.c3
  have x4:=HQ1.out.c4
  have y0:=HP1.out.c0
  have y1:=HP1.out.c1
  have y2:=HP1.out.c2
  have y3:=HP1.out.c3
  have y4:=HP1.out.c4
  have f0:=HP1.out.frz 0
  have f1:=HP1.out.frz 1
  have f2:=HP1.out.frz 2
  have f3:=HP1.out.frz 3
  have f4:=HP1.out.frz 4
  clear hw1a hw1 hza hz1 hba hb1 hb hr hrd hi
  have HV0:=As hv
  have HV:=As (Bu hv (bj HB.out HB1.out))
  have hmx:=(CJ hv).2
  clear hv
  obtain ⟨m,hm⟩ : ∃ m,DJ e tx page = m:=⟨_,rfl⟩
  have HM:=As hm
  clear hm
  cases m
  · rw [HFE.out,if_neg (by rw [Ki,HM.out];simp)]
    go_enter Tryz.func69,Tryz.ntmps69
    go_wp2_with (first
      | (rw [show (w.alloc (Obj.cells #[Value.slice Ad e.disk.length cd,Value.slice Am e.mem.length cm,Value.slice Al e.log.length cl,Value.int IntKind.i64 e.safe,Value.bool e.down] 28)).alloc (Obj.cells #[Value.slice none 0 0,Value.slice none 0 0,Value.slice none 0 0,Value.int IntKind.i64 0,Value.bool false] 28) = w1 from HW1.out])
      | (go_at_call 124;refine (BN (cd:=cd) (cm:=cm) (cl:=cl) tx page HM.out HI.out.core (Below.refl w1.heap.size w1) HC1.out).mono ?_;rintro x w2 ⟨rfl,hb2⟩;have HO2:=HO1;have HB2:=HB1;have HBM : Ac (Below w1.heap.size w1 w1):=⟨Below.refl _ _⟩;have HP2:=HP1;replace x0:=bc hb2 x0;replace x1:=bc hb2 x1;replace x2:=bc hb2 x2;replace x3:=bc hb2 x3;replace x4:=bc hb2 x4;clear y0 y1 y2 y3 y4 f0 f1 f2 f3 f4;replace HO2:=As (HO2.out.below hb2);replace HB2:=As (bj HB2.out hb2);replace HBM:=As (bj HBM.out hb2);have hp:=HP2.out.up hb2;replace HP2:=As hp;have y0:=hp.c0;have y1:=hp.c1;have y2:=hp.c2;have y3:=hp.c3;have y4:=hp.c4;have f0:=hp.frz 0;have f1:=hp.frz 1;have f2:=hp.frz 2;have f3:=hp.frz 3;have f4:=hp.frz 4;clear hp hb2))
    have hz:=HZ1.out
    have hs0:=HB.out.size
    have hy:=HP2.out.Az e (.slice Ad e.disk.length cd) (.slice Am e.mem.length cm) (.slice Al e.log.length cl)
    have h1:=HO2.out.Az (f:=e) (xd:=.slice Ad e.disk.length cd) (xm:=.slice Am e.mem.length cm) (xl:=.slice Al e.log.length cl) HP2.out
    have h2:=Ao (g:=w.heap.size + 1) (bj HB.out HB2.out) (by omega) e (.slice Ad e.disk.length cd) (.slice Am e.mem.length cm) (.slice Al e.log.length cl)
    have h3:=Ao (g:=w.heap.size + 1) HB2.out (by omega) e (.slice Ad e.disk.length cd) (.slice Am e.mem.length cm) (.slice Al e.log.length cl)
    have z0:=hy.c0
    have z1:=hy.c1
    have z2:=hy.c2
    have z3:=hy.c3
    have z4:=hy.c4
    exact bodyPost_ret (v:=.tuple #[e.ag (.slice Ad e.disk.length cd) (.slice Am e.mem.length cm) (.slice Al e.log.length cl), .bool false]) (by simp [results,Tryz.results69,go_sem,z0,z1,z2,z3,z4]) rfl ⟨_,_,_,rfl,h1,h2,Bf.of_below h3⟩
  have hmp:=(Dw.1 HM.out).2.2.1
  obtain ⟨p,rfl⟩ : ∃ p : Nat,page = (p : Int):=⟨page.toNat,by omega⟩
  have hp5 : p < 5:=by omega
  have hp5i : (p : Int) < 5:=by omega
  have hgm:=Aw HI.out.Fz
  have hmem5:=hgm.1
  obtain ⟨okd,okm, -, -,hpm⟩:=HO1.out.ex
  obtain ⟨gm,capm,hAm, -, -⟩:=Cb hpm (by omega)
  injection hAm with hA1 hA2 hA3
  clear hA2
  subst hA1 hA3
  have hpl : p < e.mem.length:=by omega
  have hpli : (p : Int) < (e.mem.length : Int):=by omega
  obtain ⟨A2,c2,p0,p1,p2,pC, -⟩:=Dz hpm p hpl
  have HGM:=As hgm
  have HPC:=As pC
  have HP5:=As hp5
  obtain ⟨P,hP⟩ : ∃ P,pg e.mem p = P:=⟨_,rfl⟩
  have HPP:=As hP
  rw [hP] at p0 p1 p2 HPC
  have HFB : Ac (Ki e tx (p : Int) vals = true ↔ P.owner ≠ 0 ∧ EG P.vals = true ∧ Fx vals = true ∧ MB e.log tx (p : Int) = true):=⟨by rw [Ki,HM.out,Int.toNat_natCast,hP];simp⟩
  clear hmp hgm hpm pC hP hmem5
  rcases BO (vals.length : Int) 3 with ⟨e1,b1,c1⟩ | ⟨e1,b1,c1⟩
  rotate_left
  · rw [HFE.out,if_neg (fun h => by have:=(HFB.out.1 h).2.2.1;simp only [Fx,Bool.and_eq_true,beq_iff_eq] at this;exact e1.out (by omega))]
    go_enter Tryz.func69,Tryz.ntmps69
    go_wp2_with (first
      | (rw [show (w.alloc (Obj.cells #[Value.slice Ad e.disk.length cd,Value.slice (some ⟨gm,0,none⟩) e.mem.length cm,Value.slice Al e.log.length cl,Value.int IntKind.i64 e.safe,Value.bool e.down] 28)).alloc (Obj.cells #[Value.slice none 0 0,Value.slice none 0 0,Value.slice none 0 0,Value.int IntKind.i64 0,Value.bool false] 28) = w1 from HW1.out])
      | (go_at_call 124;refine (BN (cd:=cd) (cm:=cm) (cl:=cl) tx (p : Int) HM.out HI.out.core (Below.refl w1.heap.size w1) HC1.out).mono ?_;rintro x w2 ⟨rfl,hb2⟩;have HO2:=HO1;have HB2:=HB1;have HBM : Ac (Below w1.heap.size w1 w1):=⟨Below.refl _ _⟩;have HP2:=HP1;replace x0:=bc hb2 x0;replace x1:=bc hb2 x1;replace x2:=bc hb2 x2;replace x3:=bc hb2 x3;replace x4:=bc hb2 x4;replace p0:=bc hb2 p0;replace p1:=bc hb2 p1;replace p2:=bc hb2 p2;clear y0 y1 y2 y3 y4 f0 f1 f2 f3 f4;replace HO2:=As (HO2.out.below hb2);replace HB2:=As (bj HB2.out hb2);replace HBM:=As (bj HBM.out hb2);have hp:=HP2.out.up hb2;replace HP2:=As hp;have y0:=hp.c0;have y1:=hp.c1;have y2:=hp.c2;have y3:=hp.c3;have y4:=hp.c4;have f0:=hp.frz 0;have f1:=hp.frz 1;have f2:=hp.frz 2;have f3:=hp.frz 3;have f4:=hp.frz 4;clear hp hb2))
    have hz:=HZ1.out
    have hs0:=HB.out.size
    have hy:=HP2.out.Az e (.slice Ad e.disk.length cd) (.slice (some ⟨gm,0,none⟩) e.mem.length cm) (.slice Al e.log.length cl)
    have h1:=HO2.out.Az (f:=e) (xd:=.slice Ad e.disk.length cd) (xm:=.slice (some ⟨gm,0,none⟩) e.mem.length cm) (xl:=.slice Al e.log.length cl) HP2.out
    have h2:=Ao (g:=w.heap.size + 1) (bj HB.out HB2.out) (by omega) e (.slice Ad e.disk.length cd) (.slice (some ⟨gm,0,none⟩) e.mem.length cm) (.slice Al e.log.length cl)
    have h3:=Ao (g:=w.heap.size + 1) HB2.out (by omega) e (.slice Ad e.disk.length cd) (.slice (some ⟨gm,0,none⟩) e.mem.length cm) (.slice Al e.log.length cl)
    have z0:=hy.c0
    have z1:=hy.c1
    have z2:=hy.c2
    have z3:=hy.c3
    have z4:=hy.c4
    exact bodyPost_ret (v:=.tuple #[e.ag (.slice Ad e.disk.length cd) (.slice (some ⟨gm,0,none⟩) e.mem.length cm) (.slice Al e.log.length cl), .bool false]) (by simp [results,Tryz.results69,go_sem,z0,z1,z2,z3,z4]) rfl ⟨_,_,_,rfl,h1,h2,Bf.of_below h3⟩
  rcases BO P.owner 0 with ⟨e2,b2,c2_⟩ | ⟨e2,b2,c2_⟩
  · rw [HFE.out,if_neg (fun h => (HFB.out.1 h).1 e2.out)]
    go_enter Tryz.func69,Tryz.ntmps69
    go_wp2_with (first
      | (rw [show (w.alloc (Obj.cells #[Value.slice Ad e.disk.length cd,Value.slice (some ⟨gm,0,none⟩) e.mem.length cm,Value.slice Al e.log.length cl,Value.int IntKind.i64 e.safe,Value.bool e.down] 28)).alloc (Obj.cells #[Value.slice none 0 0,Value.slice none 0 0,Value.slice none 0 0,Value.int IntKind.i64 0,Value.bool false] 28) = w1 from HW1.out])
      | (go_at_call 124;refine (BN (cd:=cd) (cm:=cm) (cl:=cl) tx (p : Int) HM.out HI.out.core (Below.refl w1.heap.size w1) HC1.out).mono ?_;rintro x w2 ⟨rfl,hb2⟩;have HO2:=HO1;have HB2:=HB1;have HBM : Ac (Below w1.heap.size w1 w1):=⟨Below.refl _ _⟩;have HP2:=HP1;replace x0:=bc hb2 x0;replace x1:=bc hb2 x1;replace x2:=bc hb2 x2;replace x3:=bc hb2 x3;replace x4:=bc hb2 x4;replace p0:=bc hb2 p0;replace p1:=bc hb2 p1;replace p2:=bc hb2 p2;clear y0 y1 y2 y3 y4 f0 f1 f2 f3 f4;replace HO2:=As (HO2.out.below hb2);replace HB2:=As (bj HB2.out hb2);replace HBM:=As (bj HBM.out hb2);have hp:=HP2.out.up hb2;replace HP2:=As hp;have y0:=hp.c0;have y1:=hp.c1;have y2:=hp.c2;have y3:=hp.c3;have y4:=hp.c4;have f0:=hp.frz 0;have f1:=hp.frz 1;have f2:=hp.frz 2;have f3:=hp.frz 3;have f4:=hp.frz 4;clear hp hb2))
    have hz:=HZ1.out
    have hs0:=HB.out.size
    have hy:=HP2.out.Az e (.slice Ad e.disk.length cd) (.slice (some ⟨gm,0,none⟩) e.mem.length cm) (.slice Al e.log.length cl)
    have h1:=HO2.out.Az (f:=e) (xd:=.slice Ad e.disk.length cd) (xm:=.slice (some ⟨gm,0,none⟩) e.mem.length cm) (xl:=.slice Al e.log.length cl) HP2.out
    have h2:=Ao (g:=w.heap.size + 1) (bj HB.out HB2.out) (by omega) e (.slice Ad e.disk.length cd) (.slice (some ⟨gm,0,none⟩) e.mem.length cm) (.slice Al e.log.length cl)
    have h3:=Ao (g:=w.heap.size + 1) HB2.out (by omega) e (.slice Ad e.disk.length cd) (.slice (some ⟨gm,0,none⟩) e.mem.length cm) (.slice Al e.log.length cl)
    have z0:=hy.c0
    have z1:=hy.c1
    have z2:=hy.c2
    have z3:=hy.c3
    have z4:=hy.c4
    exact bodyPost_ret (v:=.tuple #[e.ag (.slice Ad e.disk.length cd) (.slice (some ⟨gm,0,none⟩) e.mem.length cm) (.slice Al e.log.length cl), .bool false]) (by simp [results,Tryz.results69,go_sem,z0,z1,z2,z3,z4]) rfl ⟨_,_,_,rfl,h1,h2,Bf.of_below h3⟩
  cases hz : EG P.vals
  · have HZE:=As hz
    rw [HFE.out,if_neg (fun h => by have:=(HFB.out.1 h).2.1;rw [hz] at this;cases this)]
    clear hz
    go_enter Tryz.func69,Tryz.ntmps69
    go_wp2_with (first
      | (rw [show (w.alloc (Obj.cells #[Value.slice Ad e.disk.length cd,Value.slice (some ⟨gm,0,none⟩) e.mem.length cm,Value.slice Al e.log.length cl,Value.int IntKind.i64 e.safe,Value.bool e.down] 28)).alloc (Obj.cells #[Value.slice none 0 0,Value.slice none 0 0,Value.slice none 0 0,Value.int IntKind.i64 0,Value.bool false] 28) = w1 from HW1.out])
      | (go_at_call 124;refine (BN (cd:=cd) (cm:=cm) (cl:=cl) tx (p : Int) HM.out HI.out.core (Below.refl w1.heap.size w1) HC1.out).mono ?_;rintro x w2 ⟨rfl,hb2⟩;have HO2:=HO1;have HB2:=HB1;have HBM : Ac (Below w1.heap.size w1 w1):=⟨Below.refl _ _⟩;have HP2:=HP1;replace x0:=bc hb2 x0;replace x1:=bc hb2 x1;replace x2:=bc hb2 x2;replace x3:=bc hb2 x3;replace x4:=bc hb2 x4;replace p0:=bc hb2 p0;replace p1:=bc hb2 p1;replace p2:=bc hb2 p2;clear y0 y1 y2 y3 y4 f0 f1 f2 f3 f4;replace HO2:=As (HO2.out.below hb2);replace HB2:=As (bj HB2.out hb2);replace HBM:=As (bj HBM.out hb2);have hp:=HP2.out.up hb2;replace HP2:=As hp;have y0:=hp.c0;have y1:=hp.c1;have y2:=hp.c2;have y3:=hp.c3;have y4:=hp.c4;have f0:=hp.frz 0;have f1:=hp.frz 1;have f2:=hp.frz 2;have f3:=hp.frz 3;have f4:=hp.frz 4;clear hp hb2)
      | (go_at_call 126;refine (EK HZE.out HBM.out HPC.out).mono ?_;rintro x w3 ⟨rfl,hb3⟩;replace x0:=bc hb3 x0;replace x1:=bc hb3 x1;replace x2:=bc hb3 x2;replace x3:=bc hb3 x3;replace x4:=bc hb3 x4;clear y0 y1 y2 y3 y4 f0 f1 f2 f3 f4;replace HO2:=As (HO2.out.below hb3);replace HB2:=As (bj HB2.out hb3);replace HBM:=As (bj HBM.out hb3);have hp:=HP2.out.up hb3;replace HP2:=As hp;have y0:=hp.c0;have y1:=hp.c1;have y2:=hp.c2;have y3:=hp.c3;have y4:=hp.c4;have f0:=hp.frz 0;have f1:=hp.frz 1;have f2:=hp.frz 2;have f3:=hp.frz 3;have f4:=hp.frz 4;clear hp hb3))
    have hz:=HZ1.out
    have hs0:=HB.out.size
    have hy:=HP2.out.Az e (.slice Ad e.disk.length cd) (.slice (some ⟨gm,0,none⟩) e.mem.length cm) (.slice Al e.log.length cl)
    have h1:=HO2.out.Az (f:=e) (xd:=.slice Ad e.disk.length cd) (xm:=.slice (some ⟨gm,0,none⟩) e.mem.length cm) (xl:=.slice Al e.log.length cl) HP2.out
    have h2:=Ao (g:=w.heap.size + 1) (bj HB.out HB2.out) (by omega) e (.slice Ad e.disk.length cd) (.slice (some ⟨gm,0,none⟩) e.mem.length cm) (.slice Al e.log.length cl)
    have h3:=Ao (g:=w.heap.size + 1) HB2.out (by omega) e (.slice Ad e.disk.length cd) (.slice (some ⟨gm,0,none⟩) e.mem.length cm) (.slice Al e.log.length cl)
    have z0:=hy.c0
    have z1:=hy.c1
    have z2:=hy.c2
    have z3:=hy.c3
    have z4:=hy.c4
    exact bodyPost_ret (v:=.tuple #[e.ag (.slice Ad e.disk.length cd) (.slice (some ⟨gm,0,none⟩) e.mem.length cm) (.slice Al e.log.length cl), .bool false]) (by simp [results,Tryz.results69,go_sem,z0,z1,z2,z3,z4]) rfl ⟨_,_,_,rfl,h1,h2,Bf.of_below h3⟩
  have HZE:=As hz
  clear hz
  cases ht : MB e.log tx (p : Int)
  · have HTK:=As ht
    rw [HFE.out,if_neg (fun h => by have:=(HFB.out.1 h).2.2.2;rw [ht] at this;cases this)]
    clear ht
    go_enter Tryz.func69,Tryz.ntmps69
    go_wp2_with (first
      | (rw [show (w.alloc (Obj.cells #[Value.slice Ad e.disk.length cd,Value.slice (some ⟨gm,0,none⟩) e.mem.length cm,Value.slice Al e.log.length cl,Value.int IntKind.i64 e.safe,Value.bool e.down] 28)).alloc (Obj.cells #[Value.slice none 0 0,Value.slice none 0 0,Value.slice none 0 0,Value.int IntKind.i64 0,Value.bool false] 28) = w1 from HW1.out])
      | (go_at_call 124;refine (BN (cd:=cd) (cm:=cm) (cl:=cl) tx (p : Int) HM.out HI.out.core (Below.refl w1.heap.size w1) HC1.out).mono ?_;rintro x w2 ⟨rfl,hb2⟩;have HO2:=HO1;have HB2:=HB1;have HBM : Ac (Below w1.heap.size w1 w1):=⟨Below.refl _ _⟩;have HP2:=HP1;replace x0:=bc hb2 x0;replace x1:=bc hb2 x1;replace x2:=bc hb2 x2;replace x3:=bc hb2 x3;replace x4:=bc hb2 x4;replace p0:=bc hb2 p0;replace p1:=bc hb2 p1;replace p2:=bc hb2 p2;clear y0 y1 y2 y3 y4 f0 f1 f2 f3 f4;replace HO2:=As (HO2.out.below hb2);replace HB2:=As (bj HB2.out hb2);replace HBM:=As (bj HBM.out hb2);have hp:=HP2.out.up hb2;replace HP2:=As hp;have y0:=hp.c0;have y1:=hp.c1;have y2:=hp.c2;have y3:=hp.c3;have y4:=hp.c4;have f0:=hp.frz 0;have f1:=hp.frz 1;have f2:=hp.frz 2;have f3:=hp.frz 3;have f4:=hp.frz 4;clear hp hb2)
      | (go_at_call 126;refine (EK HZE.out HBM.out HPC.out).mono ?_;rintro x w3 ⟨rfl,hb3⟩;replace x0:=bc hb3 x0;replace x1:=bc hb3 x1;replace x2:=bc hb3 x2;replace x3:=bc hb3 x3;replace x4:=bc hb3 x4;clear y0 y1 y2 y3 y4 f0 f1 f2 f3 f4;replace HO2:=As (HO2.out.below hb3);replace HB2:=As (bj HB2.out hb3);replace HBM:=As (bj HBM.out hb3);have hp:=HP2.out.up hb3;replace HP2:=As hp;have y0:=hp.c0;have y1:=hp.c1;have y2:=hp.c2;have y3:=hp.c3;have y4:=hp.c4;have f0:=hp.frz 0;have f1:=hp.frz 1;have f2:=hp.frz 2;have f3:=hp.frz 3;have f4:=hp.frz 4;clear hp hb3)
      | (go_at_call 127;refine (Kk (c:=cl) HTK.out HBM.out HC1.out.l HI.out.core.log).mono ?_;rintro x w4 ⟨rfl,hb4⟩;replace x0:=bc hb4 x0;replace x1:=bc hb4 x1;replace x2:=bc hb4 x2;replace x3:=bc hb4 x3;replace x4:=bc hb4 x4;clear y0 y1 y2 y3 y4 f0 f1 f2 f3 f4;replace HO2:=As (HO2.out.below hb4);replace HB2:=As (bj HB2.out hb4);replace HBM:=As (bj HBM.out hb4);have hp:=HP2.out.up hb4;replace HP2:=As hp;have y0:=hp.c0;have y1:=hp.c1;have y2:=hp.c2;have y3:=hp.c3;have y4:=hp.c4;have f0:=hp.frz 0;have f1:=hp.frz 1;have f2:=hp.frz 2;have f3:=hp.frz 3;have f4:=hp.frz 4;clear hp hb4))
    have hz:=HZ1.out
    have hs0:=HB.out.size
    have hy:=HP2.out.Az e (.slice Ad e.disk.length cd) (.slice (some ⟨gm,0,none⟩) e.mem.length cm) (.slice Al e.log.length cl)
    have h1:=HO2.out.Az (f:=e) (xd:=.slice Ad e.disk.length cd) (xm:=.slice (some ⟨gm,0,none⟩) e.mem.length cm) (xl:=.slice Al e.log.length cl) HP2.out
    have h2:=Ao (g:=w.heap.size + 1) (bj HB.out HB2.out) (by omega) e (.slice Ad e.disk.length cd) (.slice (some ⟨gm,0,none⟩) e.mem.length cm) (.slice Al e.log.length cl)
    have h3:=Ao (g:=w.heap.size + 1) HB2.out (by omega) e (.slice Ad e.disk.length cd) (.slice (some ⟨gm,0,none⟩) e.mem.length cm) (.slice Al e.log.length cl)
    have z0:=hy.c0
    have z1:=hy.c1
    have z2:=hy.c2
    have z3:=hy.c3
    have z4:=hy.c4
    exact bodyPost_ret (v:=.tuple #[e.ag (.slice Ad e.disk.length cd) (.slice (some ⟨gm,0,none⟩) e.mem.length cm) (.slice Al e.log.length cl), .bool false]) (by simp [results,Tryz.results69,go_sem,z0,z1,z2,z3,z4]) rfl ⟨_,_,_,rfl,h1,h2,Bf.of_below h3⟩
  have HTK:=As ht
  clear ht
  obtain ⟨E,hE⟩ : ∃ E,e.app ⟨3,tx,(p : Int),0,0,0,0,0⟩ = E:=⟨_,rfl⟩
  have hEk : E.log.length = e.log.length + 1 ∧ E.mem = e.mem:=by
    rw [← hE]
    exact ⟨IX _ _,rfl⟩
  have HEK:=As hEk
  obtain ⟨q,hq⟩ : ∃ q : Page,(⟨(E.log.length : Int),P.owner,vals⟩ : Page) = q:=⟨_,rfl⟩
  have HQV : Ac (q.lsn = (E.log.length : Int) ∧ q.owner = P.owner ∧ q.vals = vals):=⟨by rw [← hq];exact ⟨rfl,rfl,rfl⟩⟩
  obtain ⟨Y,hYd⟩ : ∃ Y : Eng,({ E with mem:=E.mem.set p q } : Eng) = Y:=⟨_,rfl⟩
  have HYD:=As hYd
  have HLX : Ac (JB e tx (p : Int) vals = Y):=⟨by
    rw [← hYd, ← hq,hEk.1,hEk.2, ← hE, ← HPP.out]
    unfold JB Eng.app
    rw [if_neg (by simp [Cx]),Int.toNat_natCast]⟩
  have HADD : Ac (Fx vals = true → ∀ wx vd' vm' vl',AU wx w0.heap.size vd' vm' vl' e → Below w0.heap.size w0 wx → Calls Tryz.prog 125 #[e.ag vd' vm' vl', .agg #[.int .i64 3, .int .i64 tx, .int .i64 (p : Int), .int .i64 0, .int .i64 0, .int .i64 0, .int .i64 0, .int .i64 0]] wx (GX w0 wx vm' E true)):=⟨fun hvb wx vd' vm' vl' ho hb => by
    have hI:=HI.out.QT HBB.out (HFB.out.2 ⟨e2.out,HZE.out,hvb,HTK.out⟩)
    have h:=Ew ⟨3,tx,(p : Int),0,0,0,0,0⟩ HGM.out hI.core.log (hI.Tf rfl (by simp)) (fun h => by simp [Cx] at h) hb ho
    rw [hE] at h
    exact h⟩
  clear hE hEk hq hYd
  go_enter Tryz.func69,Tryz.ntmps69
  go_wp2_with (first
    | (rw [show (w.alloc (Obj.cells #[Value.slice Ad e.disk.length cd,Value.slice (some ⟨gm,0,none⟩) e.mem.length cm,Value.slice Al e.log.length cl,Value.int IntKind.i64 e.safe,Value.bool e.down] 28)).alloc (Obj.cells #[Value.slice none 0 0,Value.slice none 0 0,Value.slice none 0 0,Value.int IntKind.i64 0,Value.bool false] 28) = w1 from HW1.out])
    | (go_at_call 124;refine (BN (cd:=cd) (cm:=cm) (cl:=cl) tx (p : Int) HM.out HI.out.core (Below.refl w1.heap.size w1) HC1.out).mono ?_;rintro x w2 ⟨rfl,hb2⟩;have HO2:=HO1;have HB2:=HB1;have HBM : Ac (Below w1.heap.size w1 w1):=⟨Below.refl _ _⟩;have HP2:=HP1;replace x0:=bc hb2 x0;replace x1:=bc hb2 x1;replace x2:=bc hb2 x2;replace x3:=bc hb2 x3;replace x4:=bc hb2 x4;replace p0:=bc hb2 p0;replace p1:=bc hb2 p1;replace p2:=bc hb2 p2;clear y0 y1 y2 y3 y4 f0 f1 f2 f3 f4;replace HO2:=As (HO2.out.below hb2);replace HB2:=As (bj HB2.out hb2);replace HBM:=As (bj HBM.out hb2);have hp:=HP2.out.up hb2;replace HP2:=As hp;have y0:=hp.c0;have y1:=hp.c1;have y2:=hp.c2;have y3:=hp.c3;have y4:=hp.c4;have f0:=hp.frz 0;have f1:=hp.frz 1;have f2:=hp.frz 2;have f3:=hp.frz 3;have f4:=hp.frz 4;clear hp hb2)
    | (go_at_call 126;refine (EK HZE.out HBM.out HPC.out).mono ?_;rintro x w3 ⟨rfl,hb3⟩;replace x0:=bc hb3 x0;replace x1:=bc hb3 x1;replace x2:=bc hb3 x2;replace x3:=bc hb3 x3;replace x4:=bc hb3 x4;clear y0 y1 y2 y3 y4 f0 f1 f2 f3 f4;replace HO2:=As (HO2.out.below hb3);replace HB2:=As (bj HB2.out hb3);replace HBM:=As (bj HBM.out hb3);have hp:=HP2.out.up hb3;replace HP2:=As hp;have y0:=hp.c0;have y1:=hp.c1;have y2:=hp.c2;have y3:=hp.c3;have y4:=hp.c4;have f0:=hp.frz 0;have f1:=hp.frz 1;have f2:=hp.frz 2;have f3:=hp.frz 3;have f4:=hp.frz 4;clear hp hb3)
    | (go_at_call 127;refine (Kk (c:=cl) HTK.out HBM.out HC1.out.l HI.out.core.log).mono ?_;rintro x w4 ⟨rfl,hb4⟩;replace x0:=bc hb4 x0;replace x1:=bc hb4 x1;replace x2:=bc hb4 x2;replace x3:=bc hb4 x3;replace x4:=bc hb4 x4;clear y0 y1 y2 y3 y4 f0 f1 f2 f3 f4;replace HO2:=As (HO2.out.below hb4);replace HB2:=As (bj HB2.out hb4);replace HBM:=As (bj HBM.out hb4);have hp:=HP2.out.up hb4;replace HP2:=As hp;have y0:=hp.c0;have y1:=hp.c1;have y2:=hp.c2;have y3:=hp.c3;have y4:=hp.c4;have f0:=hp.frz 0;have f1:=hp.frz 1;have f2:=hp.frz 2;have f3:=hp.frz 3;have f4:=hp.frz 4;clear hp hb4))
  go_loop [10] (fun i => ∃ k : Nat,k ≤ vals.length ∧ i = .int .i64 (k : Int) ∧ Ac (∀ j,j < k → inB (iv vals j) 0 9 = true)) (fun i => (vals.length - intOf i).toNat)
  case atStart => exact ⟨0,Nat.zero_le _,rfl,⟨fun j hj => by omega⟩⟩
  case round =>
    obtain ⟨k,hk,rfl,HK⟩:=hrel
    by_cases hlt : k < vals.length
    · obtain ⟨ad,rfl,g0⟩:=Dg (Bu HV.out HBM.out) k hlt
      cases hin : inB (iv vals k) 0 9
      all_goals
        have HIN:=As hin
        clear hin
        go_wp2_with (first
          | (go_at_call 55;refine (BL _ _ _ _).mono ?_;rw [HIN.out];rintro x w' ⟨rfl,rfl⟩))
      · rw [HFE.out,if_neg (fun h => by
          have h3:=(HFB.out.1 h).2.2.1
          simp only [Fx,Bool.and_eq_true,Bool.not_eq_true',List.any_eq_false] at h3
          have:=h3.2 (iv vals k) (by rw [iv,List.getD_eq_getElem?_getD,List.getElem?_eq_getElem hlt];exact List.getElem_mem hlt)
          rw [HIN.out] at this
          exact this rfl)]
        have hz:=HZ1.out
        have hs0:=HB.out.size
        have hy:=HP2.out.Az e (.slice Ad e.disk.length cd) (.slice (some ⟨gm,0,none⟩) e.mem.length cm) (.slice Al e.log.length cl)
        have h1:=HO2.out.Az (f:=e) (xd:=.slice Ad e.disk.length cd) (xm:=.slice (some ⟨gm,0,none⟩) e.mem.length cm) (xl:=.slice Al e.log.length cl) HP2.out
        have h2:=Ao (g:=w.heap.size + 1) (bj HB.out HB2.out) (by omega) e (.slice Ad e.disk.length cd) (.slice (some ⟨gm,0,none⟩) e.mem.length cm) (.slice Al e.log.length cl)
        have h3:=Ao (g:=w.heap.size + 1) HB2.out (by omega) e (.slice Ad e.disk.length cd) (.slice (some ⟨gm,0,none⟩) e.mem.length cm) (.slice Al e.log.length cl)
        have z0:=hy.c0
        have z1:=hy.c1
        have z2:=hy.c2
        have z3:=hy.c3
        have z4:=hy.c4
        exact bodyPost_ret (v:=.tuple #[e.ag (.slice Ad e.disk.length cd) (.slice (some ⟨gm,0,none⟩) e.mem.length cm) (.slice Al e.log.length cl), .bool false]) (by simp [results,Tryz.results69,go_sem,z0,z1,z2,z3,z4]) rfl ⟨_,_,_,rfl,h1,h2,Bf.of_below h3⟩
      · go_round
        case rel => exact ⟨k + 1,by omega,by go_num,⟨fun j hj => by
          rcases Nat.lt_succ_iff_lt_or_eq.1 hj with h | h
          · exact HK.out j h
          · rw [h];exact HIN.out⟩⟩
        case measure => simp [intOf];omega
    · have hke : k = vals.length:=by omega
      have hvb : Fx vals = true:=by
        simp only [Fx,Bool.and_eq_true,beq_iff_eq,Bool.not_eq_true',List.any_eq_false]
        refine ⟨by have:=e1.out;omega,fun x hx => ?_⟩
        obtain ⟨j,hj,rfl⟩:=List.getElem_of_mem hx
        have:=HK.out j (by omega)
        rw [iv,List.getD_eq_getElem?_getD,List.getElem?_eq_getElem hj] at this
        simp only [Option.getD_some] at this
        rw [this];simp
      have HAD:=As (HADD.out hvb)
      have HOKF : Ac (GL e tx (p : Int) vals = (Y,true)):=⟨by rw [HFE.out,if_pos (HFB.out.2 ⟨e2.out,HZE.out,hvb,HTK.out⟩),HLX.out]⟩
      clear hvb HADD
      go_wp2_with (first
        | (go_at_call 125;refine (HAD.out w4 _ _ _ HO2.out (bj HB.out HB2.out)).mono ?_;rintro y w6 ⟨ud,um,ul,rfl,ho,hb6,hk6⟩;obtain ⟨Bd,dd,Bm,dm,Bl,dl,rfl,rfl,rfl, -, -⟩:=ho.reads;have HO6:=As ho;have HP6:=As (HP2.out.EC HO2.out hk6);have HB6:=As (And.intro hb6 (And.intro ((Bf.of_below HB2.out).D6 (Bf.Jw HO2.out hk6)) hk6.1));clear x0 x1 x2 x3 x4 y0 y1 y2 y3 y4 f0 f1 f2 f3 f4 p0 p1 p2;clear ho hb6 hk6))
      obtain ⟨w7,hw7⟩ : ∃ w7,w6.alloc (Obj.cells #[.slice Bd E.disk.length dd, .slice Bm E.mem.length dm, .slice Bl E.log.length dl, .int .i64 E.safe, .bool E.down] 28) = w7:=⟨_,rfl⟩
      rw [hw7]
      have hb7 : Below w6.heap.size w6 w7:=by rw [← hw7];exact Ah (Below.refl _ _) _
      have hq7 : Ai w7 w6.heap.size E (.slice Bd E.disk.length dd) (.slice Bm E.mem.length dm) (.slice Bl E.log.length dl):=by rw [← hw7];exact Ai.mk1 _ _ _ _ _
      have HO7:=As (HO6.out.below hb7)
      have HP7:=As (HP6.out.up hb7)
      have HB7 : Ac (Below w0.heap.size w0 w7):=⟨bj HB6.out.1 hb7⟩
      have HK7 : Ac (Bf w w7):=⟨HB6.out.2.1.D6 (Bf.of_below hb7)⟩
      have HQ7:=As hq7
      have x1:=hq7.c1
      have x2:=hq7.c2
      obtain ⟨okd,okm,hap,hpd,hpm⟩:=HO7.out.ex
      obtain ⟨gm2,capm2,hAm2, -,hgml⟩:=Cb hpm (by rw [HEK.out.2];omega)
      injection hAm2 with hA1 hA2 hA3
      clear hA2
      subst hA1 hA3
      have hpl2 : p < E.mem.length:=by rw [HEK.out.2];exact hpl
      have hpli2 : (p : Int) < (E.mem.length : Int):=by omega
      obtain ⟨A3,c3,q0,q1,q2, -, -⟩:=Dz hpm p hpl2
      have HPR : Ac (pg E.mem p = P):=⟨by rw [HEK.out.2];exact HPP.out⟩
      rw [HPR.out, ← HQV.out.2.1] at q1
      have HPM:=As hpm
      have HPD:=As hpd
      have HAP:=As hap
      have HV7 : Ac (Kd.C (Kd.int .i64) w7 Av vals.length vals):=⟨Bu HV0.out HB7.out⟩
      have hv3 : vals.length = 3:=by have:=e1.out;omega
      have HV3:=As hv3
      clear hw7 hb7 hq7 hpm hpd hap hgml q0 q2 hke hv3
      refine AX (fun lx a wx => Below w7.heap.size w7 wx ∧ (Pre 14 12 84 (fun _ => True) (fun v wx => ∃ B,v = .slice (some ⟨B,0,none⟩) 0 0 ∧ AV wx w7.heap.size v []) lx a wx ∧ Sl 14 86 (fun v wx => AV wx w7.heap.size v vals) lx a wx)) 17 rfl (by kernel_rfl) (⟨Ak (Below.refl _ _),FM trivial,Bc⟩) (fun HT => ?_)
      refine Ae (i:=0) (v:=?_) HT rfl (by kernel_rfl) rfl (kA Aa (kA (Au rfl rfl rfl) (Ab rfl rfl))) (by rfl) (fun _ _ _ h => h) (fun lx ax wx hS => ?_) ?_;rotate_left;(have hbx:=hS.1;clear hS;replace x1:=bc hbx x1;replace x2:=bc hbx x2;replace q1:=bc hbx q1;go_simp;with_reducible rfl);rotate_left;simp only [sc0,sc1]
      refine Ae (i:=1) (v:=?_) HT rfl (by kernel_rfl) rfl (kA Aa (kA (Au rfl rfl rfl) (Ab rfl rfl))) (by rfl) (fun _ _ _ h => h) (fun lx ax wx hS => ?_) ?_;rotate_left;(have hbx:=hS.1;clear hS;replace x1:=bc hbx x1;replace x2:=bc hbx x2;replace q1:=bc hbx q1;go_simp;with_reducible rfl);rotate_left;simp only [sc0,sc1]
      refine Ae (i:=2) (v:=?_) HT rfl (by kernel_rfl) rfl (kA Aa (kA (Au rfl rfl rfl) (Ab rfl rfl))) (by rfl) (fun _ _ _ h => h) (fun lx ax wx hS => ?_) ?_;rotate_left;(have hbx:=hS.1;clear hS;replace x1:=bc hbx x1;replace x2:=bc hbx x2;replace q1:=bc hbx q1;go_simp;with_reducible rfl);rotate_left;simp only [sc0,sc1]
      refine Ae (i:=3) (v:=?_) HT rfl (by kernel_rfl) rfl (kA Aa (kA (Au rfl rfl rfl) (Ab rfl rfl))) (by rfl) (fun _ _ _ h => h) (fun lx ax wx hS => ?_) ?_;rotate_left;(have hbx:=hS.1;clear hS;replace x1:=bc hbx x1;replace x2:=bc hbx x2;replace q1:=bc hbx q1;go_simp;with_reducible rfl);rotate_left;simp only [sc0,sc1]
      refine Ae (i:=4) (v:=?_) HT rfl (by kernel_rfl) rfl (kA Aa (kA (Au rfl rfl rfl) (Ab rfl rfl))) (by rfl) (fun _ _ _ h => h) (fun lx ax wx hS => ?_) ?_;rotate_left;(have hbx:=hS.1;clear hS;replace x1:=bc hbx x1;replace x2:=bc hbx x2;replace q1:=bc hbx q1;go_simp;with_reducible rfl);rotate_left;simp only [sc0,sc1]
      refine Ae (i:=5) (v:=?_) HT rfl (by kernel_rfl) rfl (kA Aa (kA (Au rfl rfl rfl) (Ab rfl rfl))) (by rfl) (fun _ _ _ h => h) (fun lx ax wx hS => ?_) ?_;rotate_left;(have hbx:=hS.1;clear hS;replace x1:=bc hbx x1;replace x2:=bc hbx x2;replace q1:=bc hbx q1;go_simp;with_reducible rfl);rotate_left;simp only [sc0,sc1]
      refine Ae (i:=6) (v:=?_) HT rfl (by kernel_rfl) rfl (kA Aa (kA (Au rfl rfl rfl) (Ab rfl rfl))) (by rfl) (fun _ _ _ h => h) (fun lx ax wx hS => ?_) ?_;rotate_left;(have hbx:=hS.1;clear hS;replace x1:=bc hbx x1;replace x2:=bc hbx x2;replace q1:=bc hbx q1;go_simp;with_reducible rfl);rotate_left;simp only [sc0,sc1]
      refine Ae (i:=7) (v:=?_) HT rfl (by kernel_rfl) rfl (kA Aa (kA (Au rfl rfl rfl) (Ab rfl rfl))) (by rfl) (fun _ _ _ h => h) (fun lx ax wx hS => ?_) ?_;rotate_left;(have hbx:=hS.1;clear hS;replace x1:=bc hbx x1;replace x2:=bc hbx x2;replace q1:=bc hbx q1;go_simp;with_reducible rfl);rotate_left;simp only [sc0,sc1]
      refine Ae (i:=8) (v:=?_) HT rfl (by kernel_rfl) rfl (kA Aa (kA (Au rfl rfl rfl) (Ab rfl rfl))) (by rfl) (fun _ _ _ h => h) (fun lx ax wx hS => ?_) ?_;rotate_left;(have hbx:=hS.1;clear hS;replace x1:=bc hbx x1;replace x2:=bc hbx x2;replace q1:=bc hbx q1;go_simp;with_reducible rfl);rotate_left;simp only [sc0,sc1]
      refine Ae (i:=9) (v:=?_) HT rfl (by kernel_rfl) rfl (kA Aa (kA (Au rfl rfl rfl) (Ab rfl rfl))) (by rfl) (fun _ _ _ h => h) (fun lx ax wx hS => ?_) ?_;rotate_left;(have hbx:=hS.1;clear hS;replace x1:=bc hbx x1;replace x2:=bc hbx x2;replace q1:=bc hbx q1;go_simp;with_reducible rfl);rotate_left;simp only [sc0,sc1]
      refine Ae (i:=10) (v:=?_) HT rfl (by kernel_rfl) rfl (kA Aa (kA (Au rfl rfl rfl) (Ab rfl rfl))) (by rfl) (fun _ _ _ h => h) (fun lx ax wx hS => ?_) ?_;rotate_left;(have hbx:=hS.1;clear hS;replace x1:=bc hbx x1;replace x2:=bc hbx x2;replace q1:=bc hbx q1;go_simp;with_reducible rfl);rotate_left;simp only [sc0,sc1]
      refine Ae (i:=11) (v:=?_) HT rfl (by kernel_rfl) rfl (kA Aa (kA (Au rfl rfl rfl) (Ab rfl rfl))) (by rfl) (fun _ _ _ h => h) (fun lx ax wx hS => ?_) ?_;rotate_left;(have hbx:=hS.1;clear hS;replace x1:=bc hbx x1;replace x2:=bc hbx x2;replace q1:=bc hbx q1;go_simp;with_reducible rfl);rotate_left;simp only [sc0,sc1]
      refine Ae (i:=13) (v:=?_) HT rfl (by kernel_rfl) rfl (kA Aa (kA (Au rfl rfl rfl) (Ab rfl rfl))) (by rfl) (fun _ _ _ h => h) (fun lx ax wx hS => ?_) ?_;rotate_left;(have hbx:=hS.1;clear hS;replace x1:=bc hbx x1;replace x2:=bc hbx x2;replace q1:=bc hbx q1;go_simp;with_reducible rfl);rotate_left;simp only [sc0,sc1]
      refine Ba [12] (by kernel_rfl) (fun i hi wx hS => ?_)
      obtain rfl:=List.mem_singleton.1 hi
      clear hi
      have hb : Below wx.heap.size wx (wx.alloc (.cells #[] 3)):=Ah (Below.refl _ _) _
      refine BX (w1:=wx.alloc (.cells #[] 3)) (.slice (some ⟨wx.heap.size,0,none⟩) 0 0) rfl rfl (by rfl) (by go_simp) ?_
      refine ⟨⟨bj hS.1 hb,fun _ => ⟨trivial,fun _ => ⟨wx.heap.size,rfl,own_none' _ 1 rfl hS.1.size⟩⟩,fun h => (AL h (by kernel_rfl)).elim⟩,?_⟩
      obtain ⟨B9,hB9⟩ : ∃ B9,wx.heap.size = B9:=⟨_,rfl⟩
      rw [hB9]
      clear hB9 hS hb
      simp only [sc0,sc1]
      refine Ba [14] (by kernel_rfl) (fun i hi wx hS => ?_)
      obtain rfl:=List.mem_singleton.1 hi
      clear hi
      obtain ⟨h1,h2, -⟩:=hS
      obtain ⟨B',hB',hO9⟩:=(h2 (by kernel_rfl)).2 (by kernel_rfl)
      have hB' : Value.slice (some ⟨B9,0,none⟩) 0 0 = Value.slice (some ⟨B',0,none⟩) 0 0:=hB'
      obtain rfl : B9 = B':=by simpa using hB'
      have hO9 : AV wx w7.heap.size (.slice (some ⟨B9,0,none⟩) 0 0) []:=hO9
      refine wpOp_step rfl (Kd.CV (Kd.int .i64) (Rr:=(Kd.int .i64).K wx) (w0:=w7) w7.heap.size (by rfl) (.tmp 84) (.tmp 85) 33 3 _ 8 rfl Dy EL rfl (by decide) (by decide) (.slice (some ⟨B9,0,none⟩) 0 0) [] vals Av vals.length cv (fun _ => True) (fun _ => False) rfl rfl (Kd.G5 hO9 (fun _ _ => trivial)) (Bu HV7.out h1) (fun _ _ hk => hk) (fun _ hk => hk.elim) (fun _ _ => trivial) h1 h1.size (by have:=HV3.out;simp;omega) (fun v1 w8 hown hb8 hg8 _ => ?_))
      replace hown : AV w8 w7.heap.size v1 vals:=Kd.Ld hown
      obtain ⟨A9,c9,rfl, -, -⟩:=hown.reads
      simp only [Cv,sc0,sc1]
      refine ⟨⟨hb8,fun h => (AL (by kernel_rfl) h).elim,fun _ => hown⟩,?_⟩
      clear h1 h2 hB' hO9 hb8 hg8 hown
      refine Ae (i:=15) (v:=?_) HT rfl (by kernel_rfl) rfl (kA Aa (kA (Au rfl rfl rfl) (Ab rfl rfl))) (by rfl) (fun _ _ _ h => h) (fun lx ax wx hS => ?_) ?_;rotate_left;(go_simp;with_reducible rfl);rotate_left;simp only [sc0,sc1]
      refine Ae (i:=16) (v:=?_) HT rfl (by kernel_rfl) rfl (kA Aa (kA (Au rfl rfl rfl) (Ab rfl rfl))) (by rfl) (fun _ _ _ h => h) (fun lx ax wx hS => ?_) ?_;rotate_left;(go_simp;with_reducible rfl);rotate_left;simp only [sc0,sc1]
      refine Cg (i:=17) (by kernel_rfl) rfl (fun wx hS => ?_)
      obtain ⟨h5x, -,h3⟩:=hS
      have hown : AV wx w7.heap.size (.slice A9 vals.length c9) q.vals:=by rw [HQV.out.2.2];exact h3 (by kernel_rfl)
      refine Ej (ok:=okm) (w0:=w0) (N:=w7.heap.size) (q:=q) (v:=.slice A9 vals.length c9) p rfl (.tmp 88) (.tmp 87) rfl (by rfl) rfl rfl (by rw [Page.own,HQV.out.1];rfl) hown HB7.out.size (Kd.DC HPM.out h5x) hpl2 (bj HB7.out h5x) (fun w8 hO8 hB8 hg8 => ?_)
      refine BQ (by kernel_rfl) ?_
      have hd8:=Kd.DC HPD.out h5x
      have hty:=Kd.Fu (Kd.Br HPM.out h5x) gm2 (by simp [Value.ownBlock])
      have he8:=AU.Pt (e:=E) HAP.out hd8 (Kd.CG HO7.out.l h5x) hown hO8 (L8 HPM.out gm2 (by simp [Value.ownBlock])) hg8 hty
      rw [HYD.out] at he8
      have hq8 : Ai w8 w6.heap.size Y (.slice Bd E.disk.length dd) (.slice (some ⟨gm2,0,none⟩) E.mem.length dm) (.slice Bl E.log.length dl):=by rw [← HYD.out];exact (hg8.block w6.heap.size (by have:=HQ7.out.lt;have:=h5x.size;omega) (fun e2 => by injection e2 with e2;exact Fq HQ7.out HPM.out e2)).trans (HQ7.out.up h5x)
      have hp8 : Ai w8 (w.heap.size + 1) zE (.slice none 0 0) (.slice none 0 0) (.slice none 0 0):=(hg8.block (w.heap.size + 1) (by have:=HP7.out.lt;have:=h5x.size;omega) (fun e2 => by injection e2 with e2;exact Fq HP7.out HPM.out e2)).trans (HP7.out.up h5x)
      have hk8 : Bf w w8:=(HK7.out.D6 (Bf.of_below h5x)).D6 (Bf.Pq (S:=fun k => some gm2 = some k) ⟨hg8.size,fun k hk hn => hg8.block k hk (fun h => hn h.symm)⟩ (fun k hk => by injection hk with hk;subst hk;exact hty))
      have HX8:=As (And.intro hB8 (And.intro he8 hk8))
      have HP8:=As hp8
      have z0:=hq8.c0
      have z1:=hq8.c1
      have z2:=hq8.c2
      have z3:=hq8.c3
      have z4:=hq8.c4
      have y0:=hp8.c0
      have y1:=hp8.c1
      have y2:=hp8.c2
      have y3:=hp8.c3
      have y4:=hp8.c4
      have f0:=hp8.frz 0
      have f1:=hp8.frz 1
      have f2:=hp8.frz 2
      have f3:=hp8.frz 3
      have f4:=hp8.frz 4
      clear h5x h3 hown hO8 hB8 hg8 hd8 hty he8 hq8 hp8 hk8 x1 x2 q1
      go_wp2
      have hs0:=HB.out.size
      have hy:=HP8.out.Az Y (.slice Bd E.disk.length dd) (.slice (some ⟨gm2,0,none⟩) E.mem.length dm) (.slice Bl E.log.length dl)
      have h1:=HX8.out.2.1.Az (f:=Y) (xd:=.slice Bd E.disk.length dd) (xm:=.slice (some ⟨gm2,0,none⟩) E.mem.length dm) (xl:=.slice Bl E.log.length dl) HP8.out
      have h2:=Ao (g:=w.heap.size + 1) HX8.out.1 (by omega) Y (.slice Bd E.disk.length dd) (.slice (some ⟨gm2,0,none⟩) E.mem.length dm) (.slice Bl E.log.length dl)
      have h3:=HX8.out.2.2.Az (g:=w.heap.size + 1) (Nat.le_succ _) Y (.slice Bd E.disk.length dd) (.slice (some ⟨gm2,0,none⟩) E.mem.length dm) (.slice Bl E.log.length dl)
      have u0:=hy.c0
      have u1:=hy.c1
      have u2:=hy.c2
      have u3:=hy.c3
      have u4:=hy.c4
      exact bodyPost_ret (v:=.tuple #[Y.ag (.slice Bd E.disk.length dd) (.slice (some ⟨gm2,0,none⟩) E.mem.length dm) (.slice Bl E.log.length dl), .bool true]) (by simp [results,Tryz.results69,go_sem,u0,u1,u2,u3,u4]) rfl (by rw [HOKF.out];exact ⟨_,_,_,rfl,h1,h2,h3⟩)
end Go.Proofs.YtpjmlpmhgfghbaaGreat
