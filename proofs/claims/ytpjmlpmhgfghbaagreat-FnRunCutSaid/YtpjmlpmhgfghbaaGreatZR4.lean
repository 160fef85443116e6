/- A part of the proof: what the last text of the claim says leans on this one. -/
import Derived.Test.YtpjmlpmhgfghbaaGreatZR3
set_option linter.unusedVariables false
set_option linter.unusedSimpArgs false
namespace Go.Proofs.YtpjmlpmhgfghbaaGreat
open Go.RowKit Go.Proofs.YtpjmlpmhgfghbaaGreatW.PrintWords Go.Proofs.YtpjmlpmhgfghbaaGreatW.PrintLast Go.Proofs.YtpjmlpmhgfghbaaGreatW.PrintMore
def Qm (e : Eng) (p : Nat) (q : Page) : Bool:=
  if Im e.log p 3 = true then (pg e.mem p).owner == q.owner && (pg e.mem p).lsn == BF e.log p e.log.length && (decide ((pg e.disk p).lsn < (pg e.mem p).lsn) || FO (pg e.mem p) (pg e.disk p))
  else FO (pg e.mem p) q
theorem Si (w : World) : AY (w.alloc Cw) w.heap.size zp (.slice none 0 0):=AY.mk1 w zp (.slice none 0 0)
set_option maxRecDepth 100000 in
set_option maxHeartbeats 8000000 in
theorem Qn {w0 w : World} {e : Eng} {Ad Am Al Ar : Option Addr} {cd cm cl cr : Nat} {p : Nat} {q : Page} {b : Bool} (hv : Qm e p q = b) (hp : p < 5) (hd : e.disk.length = 5) (hm : e.mem.length = 5) (hl : AP e.log = true) (hb : Below w0.heap.size w0 w) (hr : DF w0 e Ad Am Al) (hq : Kd.C (Kd.int .i64) w0 Ar q.vals.length q.vals) : Calls Tryz.prog 81 #[e.val Ad Am Al cd cm cl, .int .i64 p,q.val Ar cr] w fun x w' => x = .returned (.bool b) ∧ Below w.heap.size w w':=by
  have HR:=As (hr.up hb)
  have HRq:=As (BM hq hb)
  have HL:=As hl
  have HV:=As hv
  clear hr hb hq hl hv
  obtain ⟨adm,Am2,cm2,rfl,QM, -,hmC⟩:=Fz HR.out.m p (by omega)
  obtain ⟨add,Ad2,cd2,rfl,QD, -,hdC⟩:=Fz HR.out.d p (by omega)
  have HQM:=As QM
  have HQD:=As QD
  have HMC:=As hmC
  have HDC:=As hdC
  obtain ⟨M,hM⟩ : ∃ M,pg e.mem p = M:=⟨_,rfl⟩
  obtain ⟨Dp,hD⟩ : ∃ Dp,pg e.disk p = Dp:=⟨_,rfl⟩
  rw [hM] at HQM HMC
  rw [hD] at HQD HDC
  have HMD:=As (And.intro hM hD)
  clear QM QD hmC hdC hM hD
  obtain ⟨w1,hw1⟩ : ∃ w1,w.alloc (e.obox (.slice (some add) e.disk.length cd) (.slice (some adm) e.mem.length cm) (.slice Al e.log.length cl)) = w1:=⟨_,rfl⟩
  obtain ⟨w2,hw2⟩ : ∃ w2,w1.alloc (q.box Ar cr) = w2:=⟨_,rfl⟩
  have hz1 : w1.heap.size = w.heap.size + 1:=by rw [← hw1];exact BA _ _
  have hz2 : w2.heap.size = w.heap.size + 2:=by rw [← hw2,BA,hz1]
  have hb1 : Below w.heap.size w w1:=by rw [← hw1];exact Ah (Below.refl _ _) _
  have hb12 : Below w1.heap.size w1 w2:=by rw [← hw2];exact Ah (Below.refl _ _) _
  have HB2:=As (bj hb1 hb12)
  have HQ2 : Ac (Ai w2 w.heap.size e (.slice (some add) e.disk.length cd) (.slice (some adm) e.mem.length cm) (.slice Al e.log.length cl)):=⟨Ai.up (by rw [← hw1];exact Ai.mk1 _ _ _ _ _) hb12⟩
  have HP2 : Ac (AY w2 (w.heap.size + 1) q (.slice Ar q.vals.length cr)):=⟨by rw [← hw2, ← hz1];exact AY.mk1 _ _ _⟩
  have HW2 : Ac ((w.alloc (e.obox (.slice (some add) e.disk.length cd) (.slice (some adm) e.mem.length cm) (.slice Al e.log.length cl))).alloc (q.box Ar cr) = w2):=⟨by rw [hw1,hw2]⟩
  have HZ2:=As hz2
  clear hw1 hw2 hz1 hz2 hb1 hb12
  have hpm : p < e.mem.length:=by omega
  have hpd : p < e.disk.length:=by omega
  clear hd hm
  go_enter Tryz.func81,Tryz.ntmps81
  go_wp2
  rw [HW2.out]
  have hQM:=HQM.out.up HB2.out
  have hQD:=HQD.out.up HB2.out
  obtain ⟨m0,m1,m2⟩:=hQM
  obtain ⟨d0,d1,d2⟩:=hQD
  have x0:=HQ2.out.c0
  have x1:=HQ2.out.c1
  refine AX (fun lx a wx => Below w2.heap.size w2 wx ∧ (Sl 10 7 (fun v wx => ∃ B,v = ptr B ∧ w2.heap.size ≤ B ∧ ∃ p u,AY wx B p u) lx a wx ∧ (Sl 11 8 (fun v wx => ∃ B,v = ptr B ∧ w2.heap.size ≤ B ∧ ∃ p u,AY wx B p u) lx a wx ∧ Sl 12 7 (fun v wx => ∃ B,v = ptr B ∧ AY wx B M (.slice Am2 M.vals.length cm2)) lx a wx))) 13 rfl (by kernel_rfl) (⟨Aj (Below.refl _ _),AZ,AZ,AZ⟩) (fun HT => ?_)
  refine Ae (i:=0) (v:=?_) HT rfl (by kernel_rfl) rfl (kA Aa (kA (Ab rfl rfl) (kA (Ab rfl rfl) (Ab rfl rfl)))) (by rfl) (fun _ _ _ h => h) (fun lx ax wx hS => ?_) ?_;rotate_left;(have hbx:=hS.1;clear hS;replace x0:=bc hbx x0;replace x1:=bc hbx x1;replace m0:=bc hbx m0;replace m1:=bc hbx m1;replace m2:=bc hbx m2;replace d0:=bc hbx d0;replace d1:=bc hbx d1;replace d2:=bc hbx d2;go_simp;with_reducible rfl);rotate_left;simp only [sc0,sc1]
  refine Ae (i:=1) (v:=?_) HT rfl (by kernel_rfl) rfl (kA Aa (kA (Ab rfl rfl) (kA (Ab rfl rfl) (Ab rfl rfl)))) (by rfl) (fun _ _ _ h => h) (fun lx ax wx hS => ?_) ?_;rotate_left;(have hbx:=hS.1;clear hS;replace x0:=bc hbx x0;replace x1:=bc hbx x1;replace m0:=bc hbx m0;replace m1:=bc hbx m1;replace m2:=bc hbx m2;replace d0:=bc hbx d0;replace d1:=bc hbx d1;replace d2:=bc hbx d2;go_simp;with_reducible rfl);rotate_left;simp only [sc0,sc1]
  refine Ae (i:=2) (v:=?_) HT rfl (by kernel_rfl) rfl (kA Aa (kA (Ab rfl rfl) (kA (Ab rfl rfl) (Ab rfl rfl)))) (by rfl) (fun _ _ _ h => h) (fun lx ax wx hS => ?_) ?_;rotate_left;(have hbx:=hS.1;clear hS;replace x0:=bc hbx x0;replace x1:=bc hbx x1;replace m0:=bc hbx m0;replace m1:=bc hbx m1;replace m2:=bc hbx m2;replace d0:=bc hbx d0;replace d1:=bc hbx d1;replace d2:=bc hbx d2;go_simp;with_reducible rfl);rotate_left;simp only [sc0,sc1]
  refine Ae (i:=3) (v:=?_) HT rfl (by kernel_rfl) rfl (kA Aa (kA (Ab rfl rfl) (kA (Ab rfl rfl) (Ab rfl rfl)))) (by rfl) (fun _ _ _ h => h) (fun lx ax wx hS => ?_) ?_;rotate_left;(have hbx:=hS.1;clear hS;replace x0:=bc hbx x0;replace x1:=bc hbx x1;replace m0:=bc hbx m0;replace m1:=bc hbx m1;replace m2:=bc hbx m2;replace d0:=bc hbx d0;replace d1:=bc hbx d1;replace d2:=bc hbx d2;go_simp;with_reducible rfl);rotate_left;simp only [sc0,sc1]
  refine Ae (i:=4) (v:=?_) HT rfl (by kernel_rfl) rfl (kA Aa (kA (Ab rfl rfl) (kA (Ab rfl rfl) (Ab rfl rfl)))) (by rfl) (fun _ _ _ h => h) (fun lx ax wx hS => ?_) ?_;rotate_left;(have hbx:=hS.1;clear hS;replace x0:=bc hbx x0;replace x1:=bc hbx x1;replace m0:=bc hbx m0;replace m1:=bc hbx m1;replace m2:=bc hbx m2;replace d0:=bc hbx d0;replace d1:=bc hbx d1;replace d2:=bc hbx d2;go_simp;with_reducible rfl);rotate_left;simp only [sc0,sc1]
  refine Ae (i:=5) (v:=?_) HT rfl (by kernel_rfl) rfl (kA Aa (kA (Ab rfl rfl) (kA (Ab rfl rfl) (Ab rfl rfl)))) (by rfl) (fun _ _ _ h => h) (fun lx ax wx hS => ?_) ?_;rotate_left;(have hbx:=hS.1;clear hS;replace x0:=bc hbx x0;replace x1:=bc hbx x1;replace m0:=bc hbx m0;replace m1:=bc hbx m1;replace m2:=bc hbx m2;replace d0:=bc hbx d0;replace d1:=bc hbx d1;replace d2:=bc hbx d2;go_simp;with_reducible rfl);rotate_left;simp only [sc0,sc1]
  refine Ae (i:=6) (v:=?_) HT rfl (by kernel_rfl) rfl (kA Aa (kA (Ab rfl rfl) (kA (Ab rfl rfl) (Ab rfl rfl)))) (by rfl) (fun _ _ _ h => h) (fun lx ax wx hS => ?_) ?_;rotate_left;(have hbx:=hS.1;clear hS;replace x0:=bc hbx x0;replace x1:=bc hbx x1;replace m0:=bc hbx m0;replace m1:=bc hbx m1;replace m2:=bc hbx m2;replace d0:=bc hbx d0;replace d1:=bc hbx d1;replace d2:=bc hbx d2;go_simp;with_reducible rfl);rotate_left;simp only [sc0,sc1]
  refine Ae (i:=7) (v:=?_) HT rfl (by kernel_rfl) rfl (kA Aa (kA (Ab rfl rfl) (kA (Ab rfl rfl) (Ab rfl rfl)))) (by rfl) (fun _ _ _ h => h) (fun lx ax wx hS => ?_) ?_;rotate_left;(have hbx:=hS.1;clear hS;replace x0:=bc hbx x0;replace x1:=bc hbx x1;replace m0:=bc hbx m0;replace m1:=bc hbx m1;replace m2:=bc hbx m2;replace d0:=bc hbx d0;replace d1:=bc hbx d1;replace d2:=bc hbx d2;go_simp;with_reducible rfl);rotate_left;simp only [sc0,sc1]
  refine Ae (i:=8) (v:=?_) HT rfl (by kernel_rfl) rfl (kA Aa (kA (Ab rfl rfl) (kA (Ab rfl rfl) (Ab rfl rfl)))) (by rfl) (fun _ _ _ h => h) (fun lx ax wx hS => ?_) ?_;rotate_left;(have hbx:=hS.1;clear hS;replace x0:=bc hbx x0;replace x1:=bc hbx x1;replace m0:=bc hbx m0;replace m1:=bc hbx m1;replace m2:=bc hbx m2;replace d0:=bc hbx d0;replace d1:=bc hbx d1;replace d2:=bc hbx d2;go_simp;with_reducible rfl);rotate_left;simp only [sc0,sc1]
  refine Ae (i:=9) (v:=?_) HT rfl (by kernel_rfl) rfl (kA Aa (kA (Ab rfl rfl) (kA (Ab rfl rfl) (Ab rfl rfl)))) (by rfl) (fun _ _ _ h => h) (fun lx ax wx hS => ?_) ?_;rotate_left;(have hbx:=hS.1;clear hS;replace x0:=bc hbx x0;replace x1:=bc hbx x1;replace m0:=bc hbx m0;replace m1:=bc hbx m1;replace m2:=bc hbx m2;replace d0:=bc hbx d0;replace d1:=bc hbx d1;replace d2:=bc hbx d2;go_simp;with_reducible rfl);rotate_left;simp only [sc0,sc1]
  refine Q7 (ob1:=Cw) (ob2:=Cw) 10 11 rfl rfl (by kernel_rfl) rfl rfl rfl (fun _ => rfl) (fun _ => rfl) (fun a wx => by go_simp) (fun a wx => by go_simp) (fun wx hS => ?_) (fun wx hS => ?_) (fun B wx hS => ?_) (fun B wx hS => ?_) (fun B wx hS => ?_) (fun B wx hS => ?_) (fun B1 B2 hne => ?_)
  · exact ⟨Ah hS.1 _,fun _ => ⟨_,rfl,hS.1.size,_,_,Si wx⟩,fun h => (AA h (by kernel_rfl)).elim,fun h => (AA h (by kernel_rfl)).elim⟩
  · exact ⟨Ah hS.1 _,fun h => (AA h (by kernel_rfl)).elim,fun _ => ⟨_,rfl,hS.1.size,_,_,Si wx⟩,fun h => (AA h (by kernel_rfl)).elim⟩
  · obtain ⟨B',h1,_,p',u',h2⟩:=hS.2.1 (by kernel_rfl)
    obtain rfl : B = B':=by simpa [ptr] using h1
    exact (Array.getElem?_eq_some_iff.1 h2).1
  · obtain ⟨B',h1,_,p',u',h2⟩:=hS.2.2.1 (by kernel_rfl)
    obtain rfl : B = B':=by simpa [ptr] using h1
    exact (Array.getElem?_eq_some_iff.1 h2).1
  · obtain ⟨B',h1,h3,p',u',h2⟩:=hS.2.1 (by kernel_rfl)
    exact ⟨Ah hS.1 _,fun _ => ⟨B',h1,h3,p',u',h2.up (Ah (Below.refl _ _) _)⟩,fun _ => ⟨_,rfl,hS.1.size,_,_,Si wx⟩,fun h => (AA h (by kernel_rfl)).elim⟩
  · obtain ⟨B',h1,h3,p',u',h2⟩:=hS.2.2.1 (by kernel_rfl)
    exact ⟨Ah hS.1 _,fun _ => ⟨_,rfl,hS.1.size,_,_,Si wx⟩,fun _ => ⟨B',h1,h3,p',u',h2.up (Ah (Below.refl _ _) _)⟩,fun h => (AA h (by kernel_rfl)).elim⟩
  simp only [sc0,sc1]
  refine AQ [12] (by kernel_rfl) (fun i hi w4 hS => ?_)
  obtain rfl:=List.mem_singleton.1 hi
  obtain ⟨h1,h2,h3, -⟩:=hS
  obtain ⟨B,hB,hle1,p1,u1,hbox1⟩:=h2 (by kernel_rfl)
  obtain rfl : B1 = B:=by
    have hB : ptr B1 = ptr B:=hB
    simpa [ptr] using hB
  obtain ⟨B,hB',hle2,p2,u2,hbox2⟩:=h3 (by kernel_rfl)
  obtain rfl : B2 = B:=by
    have hB : ptr B2 = ptr B:=hB'
    simpa [ptr] using hB
  have b0:=hbox1.c0
  have b1:=hbox1.c1
  have b2:=hbox1.c2
  have f0:=hbox1.frz 0
  have f1:=hbox1.frz 1
  have f2:=hbox1.frz 2
  refine Bh (w1:=Cu w4 B1 M (.slice Am2 M.vals.length cm2)) rfl (by rfl) (by go_simp) ?_
  have hfar2 : AY (Cu w4 B1 M (.slice Am2 M.vals.length cm2)) B2 p2 u2:=((hbox2.far hne _ _).far hne _ _).far hne _ _
  refine ⟨⟨Cr h1 hle1 M _,fun _ => ⟨B1,rfl,hle1,M,_,hbox1.Cu M _⟩,fun _ => ⟨B2,rfl,hle2,p2,u2,hfar2⟩,fun _ => ⟨B1,rfl,hbox1.Cu M _⟩⟩,?_⟩
  clear h1 h2 h3 hB hB' hbox1 hbox2 b0 b1 b2 f0 f1 f2 hfar2 p1 u1 p2 u2
  refine BQ (i:=13) (by kernel_rfl) rfl (fun w5 hS => ?_)
  obtain ⟨h1,h2,h3,h4⟩:=hS
  obtain ⟨B,hB,hbox1⟩:=h4 (by kernel_rfl)
  obtain rfl : B1 = B:=by
    have hB : ptr B1 = ptr B:=hB
    simpa [ptr] using hB
  obtain ⟨B,hB', -,p2,u2,hbox2⟩:=h3 (by kernel_rfl)
  obtain rfl : B2 = B:=by
    have hB : ptr B2 = ptr B:=hB'
    simpa [ptr] using hB
  have b0:=hbox2.c0
  have b1:=hbox2.c1
  have b2:=hbox2.c2
  have f0:=hbox2.frz 0
  have f1:=hbox2.frz 1
  have f2:=hbox2.frz 2
  refine Bh (w1:=Cu w5 B2 Dp (.slice Ad2 Dp.vals.length cd2)) rfl (by rfl) (by go_simp) ?_
  have hne' : B2 ≠ B1:=Ne.symm hne
  have hbM : AY (Cu w5 B2 Dp (.slice Ad2 Dp.vals.length cd2)) B1 M (.slice Am2 M.vals.length cm2):=((hbox1.far hne' _ _).far hne' _ _).far hne' _ _
  have hbD:=hbox2.Cu Dp (.slice Ad2 Dp.vals.length cd2)
  have hbW:=Cr h1 hle2 Dp (.slice Ad2 Dp.vals.length cd2)
  refine BB (by kernel_rfl) ?_
  obtain ⟨W8,hW8⟩ : ∃ W8,Cu w5 B2 Dp (.slice Ad2 Dp.vals.length cd2) = W8:=⟨_,rfl⟩
  rw [hW8] at hbM hbD hbW ⊢
  have HBM:=As hbM
  have HBD:=As hbD
  have HBW:=As hbW
  clear h1 h2 h3 h4 hB hB' hbox1 hbox2 b0 b1 b2 f0 f1 f2 p2 u2 hW8 hbM hbD hbW m0 m1 m2 d0 d1 d2 x0 x1 hle1 hle2 hi
  have HW8:=As (bj HB2.out HBW.out)
  have HQ8:=As (HQ2.out.up HBW.out)
  have HP8:=As (HP2.out.up HBW.out)
  have x2:=HQ8.out.c2
  obtain ⟨ldb,hld⟩ : ∃ ldb,Im e.log p 3 = ldb:=⟨_,rfl⟩
  have HLD:=As hld
  obtain ⟨sR,hsR⟩ : ∃ sR,FO M q = sR:=⟨_,rfl⟩
  have HSR:=As hsR
  obtain ⟨sD,hsD⟩ : ∃ sD,FO M Dp = sD:=⟨_,rfl⟩
  have HSD:=As hsD
  clear hld hsR hsD
  cases ldb
  · have y0:=HP8.out.c0
    have y1:=HP8.out.c1
    have y2:=HP8.out.c2
    have z0:=HBM.out.c0
    have z1:=HBM.out.c1
    have z2:=HBM.out.c2
    go_wp2_with (first | (go_at_call 137;refine (Fj p HLD.out HW8.out HR.out.l HL.out).mono ?_;rintro x w9 ⟨rfl,hb9⟩;have HW9:=As (bj HW8.out hb9);have HB9:=As hb9;replace y0:=bc hb9 y0;replace y1:=bc hb9 y1;replace y2:=bc hb9 y2;replace z0:=bc hb9 z0;replace z1:=bc hb9 z1;replace z2:=bc hb9 z2;clear hb9) | (go_at_call 80;refine (EZ (c:=cm2) (d:=cr) HSR.out HW9.out HMC.out HRq.out).mono ?_;rintro x w10 ⟨rfl,hb10⟩;have HW10:=As (bj HW9.out hb10);clear hb10))
    go_ret
    exact ⟨AJ (by rw [← HV.out,Qm,HLD.out,HMD.out.1,HSR.out];rfl),HW10.out⟩
  · rcases BS M.owner q.owner with ⟨e1,b1,c1⟩ | ⟨e1,b1,c1⟩
    · rcases BS M.lsn (BF e.log p e.log.length) with ⟨e2,b2,c2⟩ | ⟨e2,b2,c2⟩
      · rcases lts Dp.lsn M.lsn with ⟨e3,k1,k2⟩ | ⟨e3,k1,k2⟩
        · go_wp2_with (go_at_call 137;refine (Fj p HLD.out HW8.out HR.out.l HL.out).mono ?_;rintro x w9 ⟨rfl,hb9⟩;have HW9:=As (bj HW8.out hb9);have HB9:=As hb9;have y0:=bc hb9 HP8.out.c0;have y1:=bc hb9 HP8.out.c1;have y2:=bc hb9 HP8.out.c2;have z0:=bc hb9 HBM.out.c0;have z1:=bc hb9 HBM.out.c1;have z2:=bc hb9 HBM.out.c2;have v0:=bc hb9 HBD.out.c0;have v1:=bc hb9 HBD.out.c1;have v2:=bc hb9 HBD.out.c2;replace x2:=bc hb9 x2;clear hb9)
          refine Bj (fun w' => Below w9.heap.size w9 w') rfl rfl (by kernel_rfl) (Aj (Below.refl _ _)) (fun HT => ?_)
          repeat (first
            | (refine BX (fun wx hS => ?_))
            | ((with_reducible refine BI (f:=138) rfl ?_);refine BJ (v:=.int .i64 (BF e.log p e.log.length)) (args:=#[.slice Al e.log.length cl, .int .i64 p]) HT rfl Tryz.func138 (by kernel_rfl) rfl rfl (by rfl) (fun _ _ _ h => h) (by simp only [List.map_toArray,List.map_cons,List.map_nil];rfl) (fun wx hS => (Gq p (bj HW9.out hS) HR.out.l).mono fun _ _ h => ⟨h.1,bj hS h.2⟩) ?_;simp only [sc0,sc1])
            | ((with_reducible refine BI (f:=80) rfl ?_);refine BJ (v:=.bool sD) (args:=#[M.val Am2 cm2,Dp.val Ad2 cd2]) HT rfl Tryz.func80 (by kernel_rfl) rfl rfl (by rfl) (fun _ _ _ h => h) (by simp only [List.map_toArray,List.map_cons,List.map_nil];rfl) (fun wx hS => (EZ (c:=cm2) (d:=cd2) HSD.out (bj HW9.out hS) HMC.out HDC.out).mono fun _ _ h => ⟨h.1,bj hS h.2⟩) ?_;simp only [sc0,sc1])
            | (refine BH HT rfl (by rfl) (fun _ _ _ h => h) ?_;simp only [sc0,sc1])
            | (refine BV (v:=?_) HT rfl (by rfl) (fun _ _ _ h => h) (fun wx hS => ?_) ?_;rotate_left;(replace y0:=bc hS y0;replace y1:=bc hS y1;replace y2:=bc hS y2;replace z0:=bc hS z0;replace z1:=bc hS z1;replace z2:=bc hS z2;replace v0:=bc hS v0;replace v1:=bc hS v1;replace v2:=bc hS v2;replace x2:=bc hS x2;go_simp;with_reducible rfl);rotate_left;simp only [sc0,sc1]))
          go_wp2
          go_ret
          exact ⟨AJ (by rw [← HV.out,Qm,HLD.out,HMD.out.1,HMD.out.2,HSD.out];simp [b1,b2,k1]),bj HW9.out hS⟩
        · go_wp2_with (go_at_call 137;refine (Fj p HLD.out HW8.out HR.out.l HL.out).mono ?_;rintro x w9 ⟨rfl,hb9⟩;have HW9:=As (bj HW8.out hb9);have HB9:=As hb9;have y0:=bc hb9 HP8.out.c0;have y1:=bc hb9 HP8.out.c1;have y2:=bc hb9 HP8.out.c2;have z0:=bc hb9 HBM.out.c0;have z1:=bc hb9 HBM.out.c1;have z2:=bc hb9 HBM.out.c2;have v0:=bc hb9 HBD.out.c0;have v1:=bc hb9 HBD.out.c1;have v2:=bc hb9 HBD.out.c2;replace x2:=bc hb9 x2;clear hb9)
          refine Bj (fun w' => Below w9.heap.size w9 w') rfl rfl (by kernel_rfl) (Aj (Below.refl _ _)) (fun HT => ?_)
          repeat (first
            | (refine BX (fun wx hS => ?_))
            | ((with_reducible refine BI (f:=138) rfl ?_);refine BJ (v:=.int .i64 (BF e.log p e.log.length)) (args:=#[.slice Al e.log.length cl, .int .i64 p]) HT rfl Tryz.func138 (by kernel_rfl) rfl rfl (by rfl) (fun _ _ _ h => h) (by simp only [List.map_toArray,List.map_cons,List.map_nil];rfl) (fun wx hS => (Gq p (bj HW9.out hS) HR.out.l).mono fun _ _ h => ⟨h.1,bj hS h.2⟩) ?_;simp only [sc0,sc1])
            | ((with_reducible refine BI (f:=80) rfl ?_);refine BJ (v:=.bool sD) (args:=#[M.val Am2 cm2,Dp.val Ad2 cd2]) HT rfl Tryz.func80 (by kernel_rfl) rfl rfl (by rfl) (fun _ _ _ h => h) (by simp only [List.map_toArray,List.map_cons,List.map_nil];rfl) (fun wx hS => (EZ (c:=cm2) (d:=cd2) HSD.out (bj HW9.out hS) HMC.out HDC.out).mono fun _ _ h => ⟨h.1,bj hS h.2⟩) ?_;simp only [sc0,sc1])
            | (refine BH HT rfl (by rfl) (fun _ _ _ h => h) ?_;simp only [sc0,sc1])
            | (refine BV (v:=?_) HT rfl (by rfl) (fun _ _ _ h => h) (fun wx hS => ?_) ?_;rotate_left;(replace y0:=bc hS y0;replace y1:=bc hS y1;replace y2:=bc hS y2;replace z0:=bc hS z0;replace z1:=bc hS z1;replace z2:=bc hS z2;replace v0:=bc hS v0;replace v1:=bc hS v1;replace v2:=bc hS v2;replace x2:=bc hS x2;go_simp;with_reducible rfl);rotate_left;simp only [sc0,sc1]))
          go_wp2
          go_ret
          exact ⟨AJ (by rw [← HV.out,Qm,HLD.out,HMD.out.1,HMD.out.2,HSD.out];simp [b1,b2,k1]),bj HW9.out hS⟩
      · go_wp2_with (go_at_call 137;refine (Fj p HLD.out HW8.out HR.out.l HL.out).mono ?_;rintro x w9 ⟨rfl,hb9⟩;have HW9:=As (bj HW8.out hb9);have HB9:=As hb9;have y0:=bc hb9 HP8.out.c0;have y1:=bc hb9 HP8.out.c1;have y2:=bc hb9 HP8.out.c2;have z0:=bc hb9 HBM.out.c0;have z1:=bc hb9 HBM.out.c1;have z2:=bc hb9 HBM.out.c2;have v0:=bc hb9 HBD.out.c0;have v1:=bc hb9 HBD.out.c1;have v2:=bc hb9 HBD.out.c2;replace x2:=bc hb9 x2;clear hb9)
        refine Bj (fun w' => Below w9.heap.size w9 w') rfl rfl (by kernel_rfl) (Aj (Below.refl _ _)) (fun HT => ?_)
        repeat (first
          | (refine BX (fun wx hS => ?_))
          | ((with_reducible refine BI (f:=138) rfl ?_);refine BJ (v:=.int .i64 (BF e.log p e.log.length)) (args:=#[.slice Al e.log.length cl, .int .i64 p]) HT rfl Tryz.func138 (by kernel_rfl) rfl rfl (by rfl) (fun _ _ _ h => h) (by simp only [List.map_toArray,List.map_cons,List.map_nil];rfl) (fun wx hS => (Gq p (bj HW9.out hS) HR.out.l).mono fun _ _ h => ⟨h.1,bj hS h.2⟩) ?_;simp only [sc0,sc1])
          | ((with_reducible refine BI (f:=80) rfl ?_);refine BJ (v:=.bool sD) (args:=#[M.val Am2 cm2,Dp.val Ad2 cd2]) HT rfl Tryz.func80 (by kernel_rfl) rfl rfl (by rfl) (fun _ _ _ h => h) (by simp only [List.map_toArray,List.map_cons,List.map_nil];rfl) (fun wx hS => (EZ (c:=cm2) (d:=cd2) HSD.out (bj HW9.out hS) HMC.out HDC.out).mono fun _ _ h => ⟨h.1,bj hS h.2⟩) ?_;simp only [sc0,sc1])
          | (refine BH HT rfl (by rfl) (fun _ _ _ h => h) ?_;simp only [sc0,sc1])
          | (refine BV (v:=?_) HT rfl (by rfl) (fun _ _ _ h => h) (fun wx hS => ?_) ?_;rotate_left;(replace y0:=bc hS y0;replace y1:=bc hS y1;replace y2:=bc hS y2;replace z0:=bc hS z0;replace z1:=bc hS z1;replace z2:=bc hS z2;replace v0:=bc hS v0;replace v1:=bc hS v1;replace v2:=bc hS v2;replace x2:=bc hS x2;go_simp;with_reducible rfl);rotate_left;simp only [sc0,sc1]))
        go_wp2
        go_ret
        exact ⟨AJ (by rw [← HV.out,Qm,HLD.out,HMD.out.1,HMD.out.2,HSD.out];simp [b1,b2]),bj HW9.out hS⟩
    · go_wp2_with (go_at_call 137;refine (Fj p HLD.out HW8.out HR.out.l HL.out).mono ?_;rintro x w9 ⟨rfl,hb9⟩;have HW9:=As (bj HW8.out hb9);have HB9:=As hb9;have y0:=bc hb9 HP8.out.c0;have y1:=bc hb9 HP8.out.c1;have y2:=bc hb9 HP8.out.c2;have z0:=bc hb9 HBM.out.c0;have z1:=bc hb9 HBM.out.c1;have z2:=bc hb9 HBM.out.c2;have v0:=bc hb9 HBD.out.c0;have v1:=bc hb9 HBD.out.c1;have v2:=bc hb9 HBD.out.c2;replace x2:=bc hb9 x2;clear hb9)
      refine Bj (fun w' => Below w9.heap.size w9 w') rfl rfl (by kernel_rfl) (Aj (Below.refl _ _)) (fun HT => ?_)
      repeat (first
        | (refine BX (fun wx hS => ?_))
        | ((with_reducible refine BI (f:=138) rfl ?_);refine BJ (v:=.int .i64 (BF e.log p e.log.length)) (args:=#[.slice Al e.log.length cl, .int .i64 p]) HT rfl Tryz.func138 (by kernel_rfl) rfl rfl (by rfl) (fun _ _ _ h => h) (by simp only [List.map_toArray,List.map_cons,List.map_nil];rfl) (fun wx hS => (Gq p (bj HW9.out hS) HR.out.l).mono fun _ _ h => ⟨h.1,bj hS h.2⟩) ?_;simp only [sc0,sc1])
        | ((with_reducible refine BI (f:=80) rfl ?_);refine BJ (v:=.bool sD) (args:=#[M.val Am2 cm2,Dp.val Ad2 cd2]) HT rfl Tryz.func80 (by kernel_rfl) rfl rfl (by rfl) (fun _ _ _ h => h) (by simp only [List.map_toArray,List.map_cons,List.map_nil];rfl) (fun wx hS => (EZ (c:=cm2) (d:=cd2) HSD.out (bj HW9.out hS) HMC.out HDC.out).mono fun _ _ h => ⟨h.1,bj hS h.2⟩) ?_;simp only [sc0,sc1])
        | (refine BH HT rfl (by rfl) (fun _ _ _ h => h) ?_;simp only [sc0,sc1])
        | (refine BV (v:=?_) HT rfl (by rfl) (fun _ _ _ h => h) (fun wx hS => ?_) ?_;rotate_left;(replace y0:=bc hS y0;replace y1:=bc hS y1;replace y2:=bc hS y2;replace z0:=bc hS z0;replace z1:=bc hS z1;replace z2:=bc hS z2;replace v0:=bc hS v0;replace v1:=bc hS v1;replace v2:=bc hS v2;replace x2:=bc hS x2;go_simp;with_reducible rfl);rotate_left;simp only [sc0,sc1]))
      go_wp2
      go_ret
      exact ⟨AJ (by rw [← HV.out,Qm,HLD.out,HMD.out.1,HMD.out.2,HSD.out];simp [b1]),bj HW9.out hS⟩
def Rn (e : Eng) : Nat → Nat → Bool
  | 0,_ => true
  | j + 1,p => Jz e p && Rn e j (p + 1)
theorem Ur (e : Eng) : ((List.range 5).all fun p => Jz e p) = Rn e 5 0:=rfl
theorem Wq (e : Eng) (p : Nat) : Ws e p = Qm e p (pg (Cj e.disk e.log e.log.length) p):=rfl
set_option maxRecDepth 100000 in
set_option maxHeartbeats 16000000 in
theorem AL {w0 w : World} {e : Eng} {Ad Am Al : Option Addr} {cd cm cl : Nat} {b : Bool} (hv : eOk e = b) (hcl : e.log.length ≤ cl) (hb : Below w0.heap.size w0 w) (hr : DF w0 e Ad Am Al) : Calls Tryz.prog 36 #[e.val Ad Am Al cd cm cl] w fun x w' => x = .returned (.bool b) ∧ Below w.heap.size w w':=by
  have HR:=As (hr.up hb)
  have HV:=As hv
  have hlm:=(D5 HR.out.l).2
  clear hr hb hv
  obtain ⟨w1,hw1⟩ : ∃ w1,w.alloc (e.obox (.slice Ad e.disk.length cd) (.slice Am e.mem.length cm) (.slice Al e.log.length cl)) = w1:=⟨_,rfl⟩
  have HW1:=As hw1
  have HB1 : Ac (Below w.heap.size w w1):=⟨by rw [← hw1];exact Ah (Below.refl _ _) _⟩
  have HQ1 : Ac (Ai w1 w.heap.size e (.slice Ad e.disk.length cd) (.slice Am e.mem.length cm) (.slice Al e.log.length cl)):=⟨by rw [← hw1];exact Ai.mk1 _ _ _ _ _⟩
  clear hw1
  have HX:=As (Below.refl w1.heap.size w1)
  have x0:=HQ1.out.c0
  have x1:=HQ1.out.c1
  have x2:=HQ1.out.c2
  have x3:=HQ1.out.c3
  have x4:=HQ1.out.c4
  cases hvd : H8 e.disk
  · have HVd:=As hvd
    clear hvd
    go_enter Tryz.func36,Tryz.ntmps36
    go_wp2_with (first | (go_at_call 75;rw [HW1.out];refine (BU (c:=cd) HVd.out (bj HB1.out HX.out) HR.out.d).mono ?_;rintro x w9 ⟨rfl,hb9⟩;have HX:=As (bj HX.out hb9);replace x0:=bc hb9 x0;replace x1:=bc hb9 x1;replace x2:=bc hb9 x2;replace x3:=bc hb9 x3;replace x4:=bc hb9 x4;clear hb9))
    go_ret
    exact ⟨AJ (by rw [← HV.out,eOk,HVd.out];simp),bj HB1.out HX.out⟩
  · have HVd:=As hvd
    clear hvd
    cases hvm : H8 e.mem
    · have HVm:=As hvm
      clear hvm
      go_enter Tryz.func36,Tryz.ntmps36
      go_wp2_with (first | (go_at_call 75;rw [HW1.out];refine (BU (c:=cd) HVd.out (bj HB1.out HX.out) HR.out.d).mono ?_;rintro x w9 ⟨rfl,hb9⟩;have HX:=As (bj HX.out hb9);replace x0:=bc hb9 x0;replace x1:=bc hb9 x1;replace x2:=bc hb9 x2;replace x3:=bc hb9 x3;replace x4:=bc hb9 x4;clear hb9) | (go_at_call 75;refine (BU (c:=cm) HVm.out (bj HB1.out HX.out) HR.out.m).mono ?_;rintro x w9 ⟨rfl,hb9⟩;have HX:=As (bj HX.out hb9);replace x0:=bc hb9 x0;replace x1:=bc hb9 x1;replace x2:=bc hb9 x2;replace x3:=bc hb9 x3;replace x4:=bc hb9 x4;clear hb9))
      go_ret
      exact ⟨AJ (by rw [← HV.out,eOk,HVd.out,HVm.out];simp),bj HB1.out HX.out⟩
    · have HVm:=As hvm
      clear hvm
      cases hvl : AP e.log
      · have HVl:=As hvl
        clear hvl
        go_enter Tryz.func36,Tryz.ntmps36
        go_wp2_with (first | (go_at_call 75;rw [HW1.out];refine (BU (c:=cd) HVd.out (bj HB1.out HX.out) HR.out.d).mono ?_;rintro x w9 ⟨rfl,hb9⟩;have HX:=As (bj HX.out hb9);replace x0:=bc hb9 x0;replace x1:=bc hb9 x1;replace x2:=bc hb9 x2;replace x3:=bc hb9 x3;replace x4:=bc hb9 x4;clear hb9) | (go_at_call 75;refine (BU (c:=cm) HVm.out (bj HB1.out HX.out) HR.out.m).mono ?_;rintro x w9 ⟨rfl,hb9⟩;have HX:=As (bj HX.out hb9);replace x0:=bc hb9 x0;replace x1:=bc hb9 x1;replace x2:=bc hb9 x2;replace x3:=bc hb9 x3;replace x4:=bc hb9 x4;clear hb9) | (go_at_call 76;refine (G6 (c:=cl) HVl.out (bj HB1.out HX.out) HR.out.l).mono ?_;rintro x w9 ⟨rfl,hb9⟩;have HX:=As (bj HX.out hb9);replace x0:=bc hb9 x0;replace x1:=bc hb9 x1;replace x2:=bc hb9 x2;replace x3:=bc hb9 x3;replace x4:=bc hb9 x4;clear hb9))
        go_ret
        exact ⟨AJ (by rw [← HV.out,eOk,HVd.out,HVm.out,HVl.out];simp),bj HB1.out HX.out⟩
      · have HVl:=As hvl
        clear hvl
        have hm150:=Bg HVl.out
        cases hvs : inB e.safe 0 e.log.length
        · have HVs:=As hvs
          clear hvs
          go_enter Tryz.func36,Tryz.ntmps36
          go_wp2_with (first | (go_at_call 75;rw [HW1.out];refine (BU (c:=cd) HVd.out (bj HB1.out HX.out) HR.out.d).mono ?_;rintro x w9 ⟨rfl,hb9⟩;have HX:=As (bj HX.out hb9);replace x0:=bc hb9 x0;replace x1:=bc hb9 x1;replace x2:=bc hb9 x2;replace x3:=bc hb9 x3;replace x4:=bc hb9 x4;clear hb9) | (go_at_call 75;refine (BU (c:=cm) HVm.out (bj HB1.out HX.out) HR.out.m).mono ?_;rintro x w9 ⟨rfl,hb9⟩;have HX:=As (bj HX.out hb9);replace x0:=bc hb9 x0;replace x1:=bc hb9 x1;replace x2:=bc hb9 x2;replace x3:=bc hb9 x3;replace x4:=bc hb9 x4;clear hb9) | (go_at_call 76;refine (G6 (c:=cl) HVl.out (bj HB1.out HX.out) HR.out.l).mono ?_;rintro x w9 ⟨rfl,hb9⟩;have HX:=As (bj HX.out hb9);replace x0:=bc hb9 x0;replace x1:=bc hb9 x1;replace x2:=bc hb9 x2;replace x3:=bc hb9 x3;replace x4:=bc hb9 x4;clear hb9) | (go_at_call 77;refine (SI HVs.out _).mono ?_;rintro x w9 ⟨rfl,rfl⟩))
          go_ret
          exact ⟨AJ (by rw [← HV.out,eOk,HVd.out,HVm.out,HVl.out,HVs.out];simp),bj HB1.out HX.out⟩
        · have HVs:=As hvs
          clear hvs
          have HS01:=As (DI.1 HVs.out)
          cases hvf : Iw e.log
          · have HVf:=As hvf
            clear hvf
            go_enter Tryz.func36,Tryz.ntmps36
            go_wp2_with (first | (go_at_call 75;rw [HW1.out];refine (BU (c:=cd) HVd.out (bj HB1.out HX.out) HR.out.d).mono ?_;rintro x w9 ⟨rfl,hb9⟩;have HX:=As (bj HX.out hb9);replace x0:=bc hb9 x0;replace x1:=bc hb9 x1;replace x2:=bc hb9 x2;replace x3:=bc hb9 x3;replace x4:=bc hb9 x4;clear hb9) | (go_at_call 75;refine (BU (c:=cm) HVm.out (bj HB1.out HX.out) HR.out.m).mono ?_;rintro x w9 ⟨rfl,hb9⟩;have HX:=As (bj HX.out hb9);replace x0:=bc hb9 x0;replace x1:=bc hb9 x1;replace x2:=bc hb9 x2;replace x3:=bc hb9 x3;replace x4:=bc hb9 x4;clear hb9) | (go_at_call 76;refine (G6 (c:=cl) HVl.out (bj HB1.out HX.out) HR.out.l).mono ?_;rintro x w9 ⟨rfl,hb9⟩;have HX:=As (bj HX.out hb9);replace x0:=bc hb9 x0;replace x1:=bc hb9 x1;replace x2:=bc hb9 x2;replace x3:=bc hb9 x3;replace x4:=bc hb9 x4;clear hb9) | (go_at_call 77;refine (SI HVs.out _).mono ?_;rintro x w9 ⟨rfl,rfl⟩) | (go_at_call 78;refine (E5 (c:=cl) (bj HB1.out HX.out) HR.out.l HVl.out).mono ?_;rintro x w9 ⟨rfl,hb9⟩;rw [HVf.out];have HX:=As (bj HX.out hb9);replace x0:=bc hb9 x0;replace x1:=bc hb9 x1;replace x2:=bc hb9 x2;replace x3:=bc hb9 x3;replace x4:=bc hb9 x4;clear hb9))
            go_ret
            exact ⟨AJ (by rw [← HV.out,eOk,HVd.out,HVm.out,HVl.out,HVs.out,HVf.out];simp),bj HB1.out HX.out⟩
          · have HVf:=As hvf
            clear hvf
            cases hvp : I5 e (e.log.length + 1 - e.safe.toNat) e.safe.toNat
            · have HVp:=As hvp
              clear hvp
              go_enter Tryz.func36,Tryz.ntmps36
              go_wp2_with (first | (go_at_call 75;rw [HW1.out];refine (BU (c:=cd) HVd.out (bj HB1.out HX.out) HR.out.d).mono ?_;rintro x w9 ⟨rfl,hb9⟩;have HX:=As (bj HX.out hb9);replace x0:=bc hb9 x0;replace x1:=bc hb9 x1;replace x2:=bc hb9 x2;replace x3:=bc hb9 x3;replace x4:=bc hb9 x4;clear hb9) | (go_at_call 75;refine (BU (c:=cm) HVm.out (bj HB1.out HX.out) HR.out.m).mono ?_;rintro x w9 ⟨rfl,hb9⟩;have HX:=As (bj HX.out hb9);replace x0:=bc hb9 x0;replace x1:=bc hb9 x1;replace x2:=bc hb9 x2;replace x3:=bc hb9 x3;replace x4:=bc hb9 x4;clear hb9) | (go_at_call 76;refine (G6 (c:=cl) HVl.out (bj HB1.out HX.out) HR.out.l).mono ?_;rintro x w9 ⟨rfl,hb9⟩;have HX:=As (bj HX.out hb9);replace x0:=bc hb9 x0;replace x1:=bc hb9 x1;replace x2:=bc hb9 x2;replace x3:=bc hb9 x3;replace x4:=bc hb9 x4;clear hb9) | (go_at_call 77;refine (SI HVs.out _).mono ?_;rintro x w9 ⟨rfl,rfl⟩) | (go_at_call 78;refine (E5 (c:=cl) (bj HB1.out HX.out) HR.out.l HVl.out).mono ?_;rintro x w9 ⟨rfl,hb9⟩;rw [HVf.out];have HX:=As (bj HX.out hb9);replace x0:=bc hb9 x0;replace x1:=bc hb9 x1;replace x2:=bc hb9 x2;replace x3:=bc hb9 x3;replace x4:=bc hb9 x4;clear hb9) | (go_at_call 79;refine (Ig (cd:=cd) (cm:=cm) (cl:=cl) HVp.out HS01.out.1 HS01.out.2 (Ay HVd.out) HVl.out hcl (bj HB1.out HX.out) HR.out).mono ?_;rintro x w9 ⟨rfl,hb9⟩;have HX:=As (bj HX.out hb9);replace x0:=bc hb9 x0;replace x1:=bc hb9 x1;replace x2:=bc hb9 x2;replace x3:=bc hb9 x3;replace x4:=bc hb9 x4;clear hb9))
              go_ret
              exact ⟨AJ (by rw [← HV.out,eOk,HVd.out,HVm.out,HVl.out,HVs.out,HVf.out,HVp.out];simp),bj HB1.out HX.out⟩
            · have HVp:=As hvp
              clear hvp
              have HGR:=As (JF (Ay HVd.out) (fun k hk => (AB HVl.out hk).ok) e.log.length (Nat.le_refl _))
              have HP5:=As (show Rn e 5 0 = b by rw [← HV.out,eOk,HVd.out,HVm.out,HVl.out,HVs.out,HVf.out,HVp.out, ← Ur];simp)
              go_enter Tryz.func36,Tryz.ntmps36
              go_wp2_with (first | (go_at_call 75;rw [HW1.out];refine (BU (c:=cd) HVd.out (bj HB1.out HX.out) HR.out.d).mono ?_;rintro x w9 ⟨rfl,hb9⟩;have HX:=As (bj HX.out hb9);replace x0:=bc hb9 x0;replace x1:=bc hb9 x1;replace x2:=bc hb9 x2;replace x3:=bc hb9 x3;replace x4:=bc hb9 x4;clear hb9) | (go_at_call 75;refine (BU (c:=cm) HVm.out (bj HB1.out HX.out) HR.out.m).mono ?_;rintro x w9 ⟨rfl,hb9⟩;have HX:=As (bj HX.out hb9);replace x0:=bc hb9 x0;replace x1:=bc hb9 x1;replace x2:=bc hb9 x2;replace x3:=bc hb9 x3;replace x4:=bc hb9 x4;clear hb9) | (go_at_call 76;refine (G6 (c:=cl) HVl.out (bj HB1.out HX.out) HR.out.l).mono ?_;rintro x w9 ⟨rfl,hb9⟩;have HX:=As (bj HX.out hb9);replace x0:=bc hb9 x0;replace x1:=bc hb9 x1;replace x2:=bc hb9 x2;replace x3:=bc hb9 x3;replace x4:=bc hb9 x4;clear hb9) | (go_at_call 77;refine (SI HVs.out _).mono ?_;rintro x w9 ⟨rfl,rfl⟩) | (go_at_call 78;refine (E5 (c:=cl) (bj HB1.out HX.out) HR.out.l HVl.out).mono ?_;rintro x w9 ⟨rfl,hb9⟩;rw [HVf.out];have HX:=As (bj HX.out hb9);replace x0:=bc hb9 x0;replace x1:=bc hb9 x1;replace x2:=bc hb9 x2;replace x3:=bc hb9 x3;replace x4:=bc hb9 x4;clear hb9) | (go_at_call 79;refine (Ig (cd:=cd) (cm:=cm) (cl:=cl) HVp.out HS01.out.1 HS01.out.2 (Ay HVd.out) HVl.out hcl (bj HB1.out HX.out) HR.out).mono ?_;rintro x w9 ⟨rfl,hb9⟩;have HX:=As (bj HX.out hb9);replace x0:=bc hb9 x0;replace x1:=bc hb9 x1;replace x2:=bc hb9 x2;replace x3:=bc hb9 x3;replace x4:=bc hb9 x4;clear hb9) | (go_at_call 46;refine (Kz (c:=cd) (d:=cl) (Ay HVd.out) (fun k hk => (AB HVl.out hk).ok) hm150 (bj HB1.out HX.out) HR.out.d HR.out.l).mono ?_;rintro x w9 ⟨u,rfl,hO,hb9⟩;obtain ⟨g,cap,rfl,hgb,hgl⟩:=Cq hO (by rw [HGR.out.1];omega);rw [HGR.out.1] at hO ⊢;have HO:=As hO;have HGB:=As (And.intro hgb hgl);clear hO hgb hgl;have HX:=As (bj HX.out hb9);replace x0:=bc hb9 x0;replace x1:=bc hb9 x1;replace x2:=bc hb9 x2;replace x3:=bc hb9 x3;replace x4:=bc hb9 x4;clear hb9))
              have HL5:=As (And.intro (Cv.1 HVd.out).1 (Cv.1 HVm.out).1)
              obtain ⟨R,hRR⟩ : ∃ R,Cj e.disk e.log e.log.length = R:=⟨_,rfl⟩
              rw [hRR] at HO HGR
              have HRR:=As hRR
              clear hRR
              go_loopw [52] (fun i wr => ∃ k : Nat,k ≤ 5 ∧ i = .int .i64 (k : Int) ∧ Ac (Rn e (5 - k) k = b) ∧ Ac (Below w9.heap.size w9 wr)) (fun i _ => (5 - intOf i).toNat)
              case atStart => exact ⟨0,by omega,rfl,HP5,⟨Below.refl _ _⟩⟩
              case round =>
                obtain ⟨k,hk,rfl,HK,HW⟩:=hrel
                have HW2:=As (bj HX.out HW.out)
                have HWW:=As (bj HB1.out HW2.out)
                have y0:=bc HW.out x0
                have y1:=bc HW.out x1
                have y2:=bc HW.out x2
                have y3:=bc HW.out x3
                have y4:=bc HW.out x4
                clear x0 x1 x2 x3 x4
                by_cases hlt : k < 5
                · have hpd : k < e.disk.length:=by have:=HL5.out;omega
                  have hpm : k < e.mem.length:=by have:=HL5.out;omega
                  obtain ⟨adm,Am2,cm2,rfl,QM, -,hmC⟩:=Fz HR.out.m k hpm
                  obtain ⟨add,Ad2,cd2,rfl,QD, -,hdC⟩:=Fz HR.out.d k hpd
                  obtain ⟨M,hM⟩ : ∃ M,pg e.mem k = M:=⟨_,rfl⟩
                  obtain ⟨Dp,hD⟩ : ∃ Dp,pg e.disk k = Dp:=⟨_,rfl⟩
                  obtain ⟨lr,hlk⟩ : ∃ lr,FE e.log (k : Int) (Cf e.log 3) 0 true = lr:=⟨_,rfl⟩
                  obtain ⟨m0,m1,m2⟩:=QM.up HWW.out
                  obtain ⟨d0,d1,d2⟩:=QD.up HWW.out
                  rw [hM] at m0 m1 m2 hmC
                  rw [hD] at d0 d1 d2 hdC
                  have HLK:=As hlk
                  have HMD:=As (And.intro hM hD)
                  have HMC:=As hmC
                  have HDC:=As hdC
                  have HPG:=As (show Rn e (5 - k) k = (Jz e k && Rn e (5 - (k + 1)) (k + 1)) by rw [show 5 - k = (5 - (k + 1)) + 1 by omega,Rn])
                  obtain ⟨by_,lok⟩:=lr
                  obtain ⟨dn,hdn⟩ : ∃ dn,e.down = dn:=⟨_,rfl⟩
                  rw [hdn] at y4
                  have HDN:=As hdn
                  clear hM hD hlk hmC hdC QM QD hdn
                  cases lok
                  · go_wp2_with (go_at_call 60;refine (F8 (c:=cl) (k : Int) HWW.out HR.out.l HVl.out).mono ?_;rintro x w10 ⟨rfl,hb10⟩;rw [HLK.out];have HX10:=As (bj HW.out hb10);clear hb10)
                    refine Bj (fun w' => Below w10.heap.size w10 w') rfl rfl (by kernel_rfl) (Aj (Below.refl _ _)) (fun HT => ?_)
                    repeat (first
                      | (refine BX (fun wx hS => ?_))
                      | (refine BH HT rfl (by rfl) (fun _ _ _ h => h) ?_;simp only [sc0,sc1])
                      | (refine BV (v:=?_) HT rfl (by rfl) (fun _ _ _ h => h) (fun wx hS => ?_) ?_;rotate_left;(skip;go_simp;with_reducible rfl);rotate_left;simp only [sc0,sc1]))
                    go_wp2
                    go_ret
                    exact ⟨AJ (by rw [← HK.out,HPG.out,Jz,HLK.out];simp),bj HB1.out (bj HX.out (bj HX10.out hS))⟩
                  · rcases lts e.safe Dp.lsn with ⟨e3,k1,k2⟩ | ⟨e3,k1,k2⟩
                    · go_wp2_with (go_at_call 60;refine (F8 (c:=cl) (k : Int) HWW.out HR.out.l HVl.out).mono ?_;rintro x w10 ⟨rfl,hb10⟩;rw [HLK.out];have HX10:=As (bj HW.out hb10);replace y0:=bc hb10 y0;replace y1:=bc hb10 y1;replace y2:=bc hb10 y2;replace y3:=bc hb10 y3;replace y4:=bc hb10 y4;replace m0:=bc hb10 m0;replace m1:=bc hb10 m1;replace m2:=bc hb10 m2;replace d0:=bc hb10 d0;replace d1:=bc hb10 d1;replace d2:=bc hb10 d2;clear hb10)
                      refine Bj (fun w' => Below w10.heap.size w10 w') rfl rfl (by kernel_rfl) (Aj (Below.refl _ _)) (fun HT => ?_)
                      repeat (first
                        | (refine BX (fun wx hS => ?_))
                        | (refine BH HT rfl (by rfl) (fun _ _ _ h => h) ?_;simp only [sc0,sc1])
                        | (refine BV (v:=?_) HT rfl (by rfl) (fun _ _ _ h => h) (fun wx hS => ?_) ?_;rotate_left;(replace y0:=bc hS y0;replace y3:=bc hS y3;replace d0:=bc hS d0;go_simp;with_reducible rfl);rotate_left;simp only [sc0,sc1]))
                      go_wp2
                      go_ret
                      exact ⟨AJ (by rw [← HK.out,HPG.out,Jz,HLK.out,HMD.out.2,k2];simp),bj HB1.out (bj HX.out (bj HX10.out hS))⟩
                    · obtain ⟨q,hq⟩ : ∃ q,pg R k = q:=⟨_,rfl⟩
                      obtain ⟨pb,hpb⟩ : ∃ pb,(if e.down = true then FO M Dp else Qm e k q) = pb:=⟨_,rfl⟩
                      have HPB:=As hpb
                      have HPK:=As (show Jz e k = pb by rw [Jz,HLK.out,Wq,HRR.out,hq,HMD.out.1,HMD.out.2,k2,hpb];rfl)
                      have HQQ:=As hq
                      clear hpb hq
                      cases dn
                      · go_wp2_with (go_at_call 60;refine (F8 (c:=cl) (k : Int) HWW.out HR.out.l HVl.out).mono ?_;rintro x w10 ⟨rfl,hb10⟩;rw [HLK.out];have HX10:=As (bj HW.out hb10);replace y0:=bc hb10 y0;replace y1:=bc hb10 y1;replace y2:=bc hb10 y2;replace y3:=bc hb10 y3;replace y4:=bc hb10 y4;replace m0:=bc hb10 m0;replace m1:=bc hb10 m1;replace m2:=bc hb10 m2;replace d0:=bc hb10 d0;replace d1:=bc hb10 d1;replace d2:=bc hb10 d2;clear hb10)
                        refine Bj (fun w' => Below w10.heap.size w10 w') rfl rfl (by kernel_rfl) (Aj (Below.refl _ _)) (fun HT => ?_)
                        repeat (first
                          | (refine BX (fun wx hS => ?_))
                          | (refine BH HT rfl (by rfl) (fun _ _ _ h => h) ?_;simp only [sc0,sc1])
                          | (refine BV (v:=?_) HT rfl (by rfl) (fun _ _ _ h => h) (fun wx hS => ?_) ?_;rotate_left;(replace y0:=bc hS y0;replace y3:=bc hS y3;replace d0:=bc hS d0;go_simp;with_reducible rfl);rotate_left;simp only [sc0,sc1]))
                        rename_i w11
                        have HX11:=As (bj HX10.out hS)
                        have HW11:=As (bj HB1.out (bj HX.out HX11.out))
                        replace y0:=bc hS y0;replace y1:=bc hS y1;replace y2:=bc hS y2;replace y3:=bc hS y3;replace y4:=bc hS y4
                        obtain ⟨A3,c3,q0,q1,q2,qC, -⟩:=DC (Kd.Bu HO.out HX11.out) k hlt
                        rw [HQQ.out] at q0 q1 q2 qC
                        have HQC:=As qC
                        have hcall : ∀ w',Below wx.heap.size wx w' → Calls Tryz.prog 81 #[.agg #[.slice (some add) e.disk.length cd, .slice (some adm) e.mem.length cm, .slice Al e.log.length cl, .int .i64 e.safe, .bool false], .int .i64 k,q.val A3 c3] w' fun x w2 => x = .returned (.bool pb) ∧ Below w'.heap.size w' w2:=fun w' hb => by
                          have h:=Qn (w0:=wx) (cd:=cd) (cm:=cm) (cl:=cl) (cr:=c3) (e:=e) (b:=pb) (by rw [← HPB.out,if_neg (by rw [HDN.out];simp)]) hlt HL5.out.1 HL5.out.2 HVl.out hb (HR.out.up HW11.out) HQC.out
                          unfold Eng.val Eng.ag at h
                          rw [HDN.out] at h
                          exact h
                        clear hS qC
                        go_wp2
                        refine Bj (fun w' => Below wx.heap.size wx w') rfl rfl (by kernel_rfl) (Aj (Below.refl _ _)) (fun HT => ?_)
                        repeat (first
                          | (refine BX (fun wx hS => ?_))
                          | ((with_reducible refine BI (f:=81) rfl ?_);refine BJ (v:=.bool pb) (args:=#[.agg #[.slice (some add) e.disk.length cd, .slice (some adm) e.mem.length cm, .slice Al e.log.length cl, .int .i64 e.safe, .bool false], .int .i64 k,q.val A3 c3]) HT rfl Tryz.func81 (by kernel_rfl) rfl rfl (by rfl) (fun _ _ _ h => h) (by simp only [List.map_toArray,List.map_cons,List.map_nil];rfl) (fun wx hS => (hcall wx hS).mono fun _ _ h => ⟨h.1,bj hS h.2⟩) ?_;simp only [sc0,sc1])
                          | (refine BH HT rfl (by rfl) (fun _ _ _ h => h) ?_;simp only [sc0,sc1])
                          | (refine BV (v:=?_) HT rfl (by rfl) (fun _ _ _ h => h) (fun wx hS => ?_) ?_;rotate_left;(replace y0:=bc hS y0;replace y1:=bc hS y1;replace y2:=bc hS y2;replace y3:=bc hS y3;replace y4:=bc hS y4;replace q0:=bc hS q0;replace q1:=bc hS q1;replace q2:=bc hS q2;go_simp;with_reducible rfl);rotate_left;simp only [sc0,sc1]))
                        cases pb
                        · go_wp2
                          go_ret
                          exact ⟨AJ (by rw [← HK.out,HPG.out,HPK.out];rfl),bj HW11.out hS⟩
                        · go_wp2
                          go_roundw
                          case rel => exact ⟨k + 1,by omega,by go_num,⟨by rw [← HK.out,HPG.out,HPK.out];rfl⟩,⟨bj HX11.out hS⟩⟩
                          case measure => simp [intOf];omega
                      · go_wp2_with (go_at_call 60;refine (F8 (c:=cl) (k : Int) HWW.out HR.out.l HVl.out).mono ?_;rintro x w10 ⟨rfl,hb10⟩;rw [HLK.out];have HX10:=As (bj HW.out hb10);replace y0:=bc hb10 y0;replace y1:=bc hb10 y1;replace y2:=bc hb10 y2;replace y3:=bc hb10 y3;replace y4:=bc hb10 y4;replace m0:=bc hb10 m0;replace m1:=bc hb10 m1;replace m2:=bc hb10 m2;replace d0:=bc hb10 d0;replace d1:=bc hb10 d1;replace d2:=bc hb10 d2;clear hb10)
                        refine Bj (fun w' => Below w10.heap.size w10 w') rfl rfl (by kernel_rfl) (Aj (Below.refl _ _)) (fun HT => ?_)
                        repeat (first
                          | (refine BX (fun wx hS => ?_))
                          | (refine BH HT rfl (by rfl) (fun _ _ _ h => h) ?_;simp only [sc0,sc1])
                          | (refine BV (v:=?_) HT rfl (by rfl) (fun _ _ _ h => h) (fun wx hS => ?_) ?_;rotate_left;(replace y0:=bc hS y0;replace y3:=bc hS y3;replace d0:=bc hS d0;go_simp;with_reducible rfl);rotate_left;simp only [sc0,sc1]))
                        have HX11:=As (bj HX10.out hS)
                        have HW11:=As (bj HB1.out (bj HX.out HX11.out))
                        replace y0:=bc hS y0;replace y1:=bc hS y1;replace y4:=bc hS y4;replace m0:=bc hS m0;replace m1:=bc hS m1;replace m2:=bc hS m2;replace d0:=bc hS d0;replace d1:=bc hS d1;replace d2:=bc hS d2
                        clear hS
                        cases pb
                        · go_wp2
                          refine Bj (fun w' => Below wx.heap.size wx w') rfl rfl (by kernel_rfl) (Aj (Below.refl _ _)) (fun HT => ?_)
                          repeat (first
                            | (refine BX (fun wx hS => ?_))
                            | ((with_reducible refine BI (f:=80) rfl ?_);refine BJ (v:=.bool false) (args:=#[M.val Am2 cm2,Dp.val Ad2 cd2]) HT rfl Tryz.func80 (by kernel_rfl) rfl rfl (by rfl) (fun _ _ _ h => h) (by simp only [List.map_toArray,List.map_cons,List.map_nil];rfl) (fun wx hS => (EZ (c:=cm2) (d:=cd2) (by have:=HPB.out;rw [if_pos HDN.out] at this;exact this) (bj HW11.out hS) HMC.out HDC.out).mono fun _ _ h => ⟨h.1,bj hS h.2⟩) ?_;simp only [sc0,sc1])
                            | (refine BH HT rfl (by rfl) (fun _ _ _ h => h) ?_;simp only [sc0,sc1])
                            | (refine BV (v:=?_) HT rfl (by rfl) (fun _ _ _ h => h) (fun wx hS => ?_) ?_;rotate_left;(replace y0:=bc hS y0;replace y1:=bc hS y1;replace y4:=bc hS y4;replace m0:=bc hS m0;replace m1:=bc hS m1;replace m2:=bc hS m2;replace d0:=bc hS d0;replace d1:=bc hS d1;replace d2:=bc hS d2;go_simp;with_reducible rfl);rotate_left;simp only [sc0,sc1]))
                          go_wp2
                          go_ret
                          exact ⟨AJ (by rw [← HK.out,HPG.out,HPK.out];rfl),bj HW11.out hS⟩
                        · go_wp2
                          refine Bj (fun w' => Below wx.heap.size wx w') rfl rfl (by kernel_rfl) (Aj (Below.refl _ _)) (fun HT => ?_)
                          repeat (first
                            | (refine BX (fun wx hS => ?_))
                            | ((with_reducible refine BI (f:=80) rfl ?_);refine BJ (v:=.bool true) (args:=#[M.val Am2 cm2,Dp.val Ad2 cd2]) HT rfl Tryz.func80 (by kernel_rfl) rfl rfl (by rfl) (fun _ _ _ h => h) (by simp only [List.map_toArray,List.map_cons,List.map_nil];rfl) (fun wx hS => (EZ (c:=cm2) (d:=cd2) (by have:=HPB.out;rw [if_pos HDN.out] at this;exact this) (bj HW11.out hS) HMC.out HDC.out).mono fun _ _ h => ⟨h.1,bj hS h.2⟩) ?_;simp only [sc0,sc1])
                            | (refine BH HT rfl (by rfl) (fun _ _ _ h => h) ?_;simp only [sc0,sc1])
                            | (refine BV (v:=?_) HT rfl (by rfl) (fun _ _ _ h => h) (fun wx hS => ?_) ?_;rotate_left;(replace y0:=bc hS y0;replace y1:=bc hS y1;replace y4:=bc hS y4;replace m0:=bc hS m0;replace m1:=bc hS m1;replace m2:=bc hS m2;replace d0:=bc hS d0;replace d1:=bc hS d1;replace d2:=bc hS d2;go_simp;with_reducible rfl);rotate_left;simp only [sc0,sc1]))
                          go_wp2
                          go_roundw
                          case rel => exact ⟨k + 1,by omega,by go_num,⟨by rw [← HK.out,HPG.out,HPK.out];rfl⟩,⟨bj HX11.out hS⟩⟩
                          case measure => simp [intOf];omega
                · go_wp2
                  go_ret
                  exact ⟨AJ (by rw [← HK.out,show 5 - k = 0 by omega];rfl),HWW.out⟩
section
variable {P : Program} {ops : Array Oper} {Q : Exit → Act → World → Prop} {S : Array Bool → Act → World → Prop} {m i d : Nat} {o : Oper} {done : List Nat} {L : List Value} {D : List Deferred} {w w1 : World}
theorem TA {R : Option Addr → Nat → Option Addr → Nat → Nat → Prop} {G : Prop} (h1 : (∀ a b c d e,R a b c d e) → G) (h2 : ∀ a b c d e,R a b c d e) : G:=h1 h2
theorem EN {done' : List Nat} {a : Act} (hp : (lsd ops.size done == lsd ops.size done' && done.length == done'.length) = true) (h : Reg P ops Q S m done a) : Reg P ops Q S m done' a:=by
  simp only [Bool.and_eq_true,beq_iff_eq] at hp
  have h1:=h.out
  rw [hp.1,hp.2] at h1
  exact ⟨h1⟩
end
theorem TwoPs.over {w w1 : World} {b : Nat} {vd vm vl : Value} {ps qs : List Page} {l : List Rec} (h : TwoPs w b vd vm ps qs) (hl : OwnRs w b vl l) (hg : w.grownBy w1 vl.ownBlock) : TwoPs w1 b vd vm ps qs:=by
  obtain ⟨okd,okm,h1,h2,h3⟩:=h
  exact ⟨okd,okm,h1,Kd.LC h2 (GA hl) EO hg,Kd.LC h3 (GA hl) EO hg⟩
set_option maxRecDepth 100000 in
set_option maxHeartbeats 16000000 in
theorem O9 {w0 w : World} {e : Eng} {Ad Am Al : Option Addr} {cd cm cl : Nat} (hd : geo e.disk) (hm : geo e.mem) (hl : e.log.length ≤ 150) (hb : Below w0.heap.size w0 w) (hr : DF w0 e Ad Am Al) : Calls Tryz.prog 42 #[e.val Ad Am Al cd cm cl] w (RV w e):=by
  have HR:=As (hr.up hb)
  have HD:=As hd
  have HM:=As hm
  have HL:=As hl
  clear hr hb hd hm hl
  obtain ⟨w1,hw1⟩ : ∃ w1,w.alloc (e.obox (.slice Ad e.disk.length cd) (.slice Am e.mem.length cm) (.slice Al e.log.length cl)) = w1:=⟨_,rfl⟩
  obtain ⟨w2,hw2⟩ : ∃ w2,w1.alloc (zE.obox (.slice none 0 0) (.slice none 0 0) (.slice none 0 0)) = w2:=⟨_,rfl⟩
  have hz1 : w1.heap.size = w.heap.size + 1:=by rw [← hw1];exact BA _ _
  have hz2 : w2.heap.size = w.heap.size + 2:=by rw [← hw2,BA,hz1]
  have hb12 : Below w1.heap.size w1 w2:=by rw [← hw2];exact Ah (Below.refl _ _) _
  have HB2 : Ac (Below w.heap.size w w2):=⟨by rw [← hw2, ← hw1];exact Ah (Ah (Below.refl _ _) _) _⟩
  have HQ2 : Ac (Ai w2 w.heap.size e (.slice Ad e.disk.length cd) (.slice Am e.mem.length cm) (.slice Al e.log.length cl)):=⟨Ai.up (by rw [← hw1];exact Ai.mk1 _ _ _ _ _) hb12⟩
  have HP2 : Ac (Ai w2 (w.heap.size + 1) zE (.slice none 0 0) (.slice none 0 0) (.slice none 0 0)):=⟨by rw [← hw2, ← hz1];exact Ai.mk1 _ _ _ _ _⟩
  have HW2 : Ac ((w.alloc (e.obox (.slice Ad e.disk.length cd) (.slice Am e.mem.length cm) (.slice Al e.log.length cl))).alloc (zE.obox (.slice none 0 0) (.slice none 0 0) (.slice none 0 0)) = w2):=⟨by rw [hw1,hw2]⟩
  have HZ2:=As hz2
  clear hw1 hw2 hz1 hz2 hb12
  have HCD : Ac (∀ wx,Below w.heap.size w wx → Calls Tryz.prog 100 #[.slice Ad e.disk.length cd] wx (NT wx e.disk)):=⟨fun wx hb => Dg (Fv HD.out) (by have:=HD.out.1;omega) hb HR.out.d⟩
  have HCM : Ac (∀ wx,Below w.heap.size w wx → Calls Tryz.prog 100 #[.slice Am e.mem.length cm] wx (NT wx e.mem)):=⟨fun wx hb => Dg (Fv HM.out) (by have:=HM.out.1;omega) hb HR.out.m⟩
  go_enter Tryz.func42,Tryz.ntmps42
  go_wp2
  rw [show (w.alloc (Obj.cells #[Value.slice Ad e.disk.length cd,Value.slice Am e.mem.length cm,Value.slice Al e.log.length cl,Value.int IntKind.i64 e.safe,Value.bool e.down] 28)).alloc (Obj.cells #[Value.slice none 0 0,Value.slice none 0 0,Value.slice none 0 0,Value.int IntKind.i64 0,Value.bool false] 28) = w2 from HW2.out]
  refine AX (fun lx a wx => (Below w.heap.size w wx ∧ w.heap.size + 2 ≤ wx.heap.size ∧ Ai wx w.heap.size e (.slice Ad e.disk.length cd) (.slice Am e.mem.length cm) (.slice Al e.log.length cl) ∧ Ai wx (w.heap.size + 1) zE (.slice none 0 0) (.slice none 0 0) (.slice none 0 0)) ∧ (Sl 2 5 (fun v wx => EA wx w.heap.size v e.disk) lx a wx ∧ (Sl2 2 5 5 8 (fun v u wx => TwoPs wx w.heap.size v u e.disk e.mem) lx a wx ∧ (Pre 9 6 9 (fun _ => True) (fun v wx => OwnRs wx w.heap.size v []) lx a wx ∧ Sl 9 12 (fun v wx => OwnRs wx w.heap.size v e.log) lx a wx)))) 15 rfl (by kernel_rfl) (⟨⟨Aj HB2.out,by have:=HZ2.out;show _ ≤ w2.heap.size;omega,HQ2.out.up (Aj (Below.refl _ _)),HP2.out.up (Aj (Below.refl _ _))⟩,AZ,LY,F7 trivial,AZ⟩) (fun HT => ?_)
  refine Ae (i:=0) (v:=?_) HT rfl (by kernel_rfl) rfl (kA Aa (kA (Ab rfl rfl) (kA (Bc rfl rfl rfl rfl) (kA (Ap rfl rfl rfl) (Ab rfl rfl))))) (by rfl) (fun _ _ _ h => h) (fun lx ax wx hS => ?_) ?_;rotate_left;(obtain ⟨⟨-, -,hq, -⟩, -⟩:=hS;have x0:=hq.c0;have x1:=hq.c1;have x2:=hq.c2;have x3:=hq.c3;have x4:=hq.c4;clear hq;go_simp;with_reducible rfl);rotate_left;simp only [sc0,sc1]
  refine Ae (i:=1) (v:=?_) HT rfl (by kernel_rfl) rfl (kA Aa (kA (Ab rfl rfl) (kA (Bc rfl rfl rfl rfl) (kA (Ap rfl rfl rfl) (Ab rfl rfl))))) (by rfl) (fun _ _ _ h => h) (fun lx ax wx hS => ?_) ?_;rotate_left;(obtain ⟨⟨-, -,hq, -⟩, -⟩:=hS;have x0:=hq.c0;have x1:=hq.c1;have x2:=hq.c2;have x3:=hq.c3;have x4:=hq.c4;clear hq;go_simp;with_reducible rfl);rotate_left;simp only [sc0,sc1]
  refine Ae (i:=3) (v:=?_) HT rfl (by kernel_rfl) rfl (kA Aa (kA (Ab rfl rfl) (kA (Bc rfl rfl rfl rfl) (kA (Ap rfl rfl rfl) (Ab rfl rfl))))) (by rfl) (fun _ _ _ h => h) (fun lx ax wx hS => ?_) ?_;rotate_left;(obtain ⟨⟨-, -,hq, -⟩, -⟩:=hS;have x0:=hq.c0;have x1:=hq.c1;have x2:=hq.c2;have x3:=hq.c3;have x4:=hq.c4;clear hq;go_simp;with_reducible rfl);rotate_left;simp only [sc0,sc1]
  refine Ae (i:=4) (v:=?_) HT rfl (by kernel_rfl) rfl (kA Aa (kA (Ab rfl rfl) (kA (Bc rfl rfl rfl rfl) (kA (Ap rfl rfl rfl) (Ab rfl rfl))))) (by rfl) (fun _ _ _ h => h) (fun lx ax wx hS => ?_) ?_;rotate_left;(obtain ⟨⟨-, -,hq, -⟩, -⟩:=hS;have x0:=hq.c0;have x1:=hq.c1;have x2:=hq.c2;have x3:=hq.c3;have x4:=hq.c4;clear hq;go_simp;with_reducible rfl);rotate_left;simp only [sc0,sc1]
  refine Ae (i:=7) (v:=?_) HT rfl (by kernel_rfl) rfl (kA Aa (kA (Ab rfl rfl) (kA (Bc rfl rfl rfl rfl) (kA (Ap rfl rfl rfl) (Ab rfl rfl))))) (by rfl) (fun _ _ _ h => h) (fun lx ax wx hS => ?_) ?_;rotate_left;(obtain ⟨⟨-, -,hq, -⟩, -⟩:=hS;have x0:=hq.c0;have x1:=hq.c1;have x2:=hq.c2;have x3:=hq.c3;have x4:=hq.c4;clear hq;go_simp;with_reducible rfl);rotate_left;simp only [sc0,sc1]
  refine Ae (i:=8) (v:=?_) HT rfl (by kernel_rfl) rfl (kA Aa (kA (Ab rfl rfl) (kA (Bc rfl rfl rfl rfl) (kA (Ap rfl rfl rfl) (Ab rfl rfl))))) (by rfl) (fun _ _ _ h => h) (fun lx ax wx hS => ?_) ?_;rotate_left;(obtain ⟨⟨-, -,hq, -⟩, -⟩:=hS;have x0:=hq.c0;have x1:=hq.c1;have x2:=hq.c2;have x3:=hq.c3;have x4:=hq.c4;clear hq;go_simp;with_reducible rfl);rotate_left;simp only [sc0,sc1]
  refine Ae (i:=10) (v:=?_) HT rfl (by kernel_rfl) rfl (kA Aa (kA (Ab rfl rfl) (kA (Bc rfl rfl rfl rfl) (kA (Ap rfl rfl rfl) (Ab rfl rfl))))) (by rfl) (fun _ _ _ h => h) (fun lx ax wx hS => ?_) ?_;rotate_left;(obtain ⟨⟨-, -,hq, -⟩, -⟩:=hS;have x0:=hq.c0;have x1:=hq.c1;have x2:=hq.c2;have x3:=hq.c3;have x4:=hq.c4;clear hq;go_simp;with_reducible rfl);rotate_left;simp only [sc0,sc1]
  refine Ae (i:=11) (v:=?_) HT rfl (by kernel_rfl) rfl (kA Aa (kA (Ab rfl rfl) (kA (Bc rfl rfl rfl rfl) (kA (Ap rfl rfl rfl) (Ab rfl rfl))))) (by rfl) (fun _ _ _ h => h) (fun lx ax wx hS => ?_) ?_;rotate_left;(obtain ⟨⟨-, -,hq, -⟩, -⟩:=hS;have x0:=hq.c0;have x1:=hq.c1;have x2:=hq.c2;have x3:=hq.c3;have x4:=hq.c4;clear hq;go_simp;with_reducible rfl);rotate_left;simp only [sc0,sc1]
  refine Ae (i:=12) (v:=?_) HT rfl (by kernel_rfl) rfl (kA Aa (kA (Ab rfl rfl) (kA (Bc rfl rfl rfl rfl) (kA (Ap rfl rfl rfl) (Ab rfl rfl))))) (by rfl) (fun _ _ _ h => h) (fun lx ax wx hS => ?_) ?_;rotate_left;(obtain ⟨⟨-, -,hq, -⟩, -⟩:=hS;have x0:=hq.c0;have x1:=hq.c1;have x2:=hq.c2;have x3:=hq.c3;have x4:=hq.c4;clear hq;go_simp;with_reducible rfl);rotate_left;simp only [sc0,sc1]
  refine Ae (i:=13) (v:=?_) HT rfl (by kernel_rfl) rfl (kA Aa (kA (Ab rfl rfl) (kA (Bc rfl rfl rfl rfl) (kA (Ap rfl rfl rfl) (Ab rfl rfl))))) (by rfl) (fun _ _ _ h => h) (fun lx ax wx hS => ?_) ?_;rotate_left;(obtain ⟨⟨-, -,hq, -⟩, -⟩:=hS;have x0:=hq.c0;have x1:=hq.c1;have x2:=hq.c2;have x3:=hq.c3;have x4:=hq.c4;clear hq;go_simp;with_reducible rfl);rotate_left;simp only [sc0,sc1]
  apply TA
  · intro hrest
    refine AQ [2,6] (by kernel_rfl) (fun i hi wx hS => ?_)
    rcases List.mem_cons.1 hi with rfl | hi
    · clear hi
      refine CV (f:=100) (args:=#[.slice Ad e.disk.length cd]) rfl rfl Tryz.func100 (by kernel_rfl) rfl rfl (by rfl) (by simp only [List.map_toArray,List.map_cons,List.map_nil];rfl) ((HCD.out wx hS.1.1).mono ?_)
      rintro x w6 ⟨v,rfl,ho,hb⟩
      obtain ⟨Bd,dd,rfl, -, -⟩:=Kd.CJ ho
      refine ⟨_,rfl,⟨⟨bj hS.1.1 hb,Nat.le_trans hS.1.2.1 hb.size,hS.1.2.2.1.up hb,hS.1.2.2.2.up hb⟩,fun _ => Kd.E8 ho hS.1.1.size,fun _ h => (AA h (by kernel_rfl)).elim,fun _ => ⟨trivial,fun h => (AA h (by kernel_rfl)).elim⟩,fun h => (AA h (by kernel_rfl)).elim⟩,?_⟩
      clear hS ho hb
      simp only [sc0,sc1]
      refine AQ [5,6] (by kernel_rfl) (fun i hi wx hS => ?_)
      rcases List.mem_cons.1 hi with rfl | hi
      · clear hi
        refine CV (f:=100) (args:=#[.slice Am e.mem.length cm]) rfl rfl Tryz.func100 (by kernel_rfl) rfl rfl (by rfl) (by simp only [List.map_toArray,List.map_cons,List.map_nil];rfl) ((HCM.out wx hS.1.1).mono ?_)
        rintro x w6 ⟨v,rfl,ho,hb⟩
        obtain ⟨Bm,dm,rfl, -, -⟩:=Kd.CJ ho
        refine ⟨_,rfl,⟨⟨bj hS.1.1 hb,Nat.le_trans hS.1.2.1 hb.size,hS.1.2.2.1.up hb,hS.1.2.2.2.up hb⟩,fun _ => Kd.Bu (hS.2.1 (by kernel_rfl)) hb,fun _ _ => TwoPs.mk (hS.2.1 (by kernel_rfl)) ho hb hS.1.1.size,fun _ => ⟨trivial,fun h => (AA h (by kernel_rfl)).elim⟩,fun h => (AA h (by kernel_rfl)).elim⟩,?_⟩
        clear hS ho hb
        simp only [sc0,sc1]
        refine AQ [6] (by kernel_rfl) (fun i hi wx hS => ?_)
        obtain rfl:=List.mem_singleton.1 hi
        clear hi
        have hb : Below wx.heap.size wx (wx.alloc (.cells #[] 98)):=Ah (Below.refl _ _) _
        refine Bw (w1:=wx.alloc (.cells #[] 98)) (.slice (some ⟨wx.heap.size,0,none⟩) 0 0) rfl rfl (by rfl) (by go_simp) ?_
        refine ⟨⟨⟨bj hS.1.1 hb,Nat.le_trans hS.1.2.1 hb.size,hS.1.2.2.1.up hb,hS.1.2.2.2.up hb⟩,fun _ => Kd.Bu (hS.2.1 (by kernel_rfl)) hb,fun _ _ => (hS.2.2.1 (by kernel_rfl) (by kernel_rfl)).below hb,fun _ => ⟨trivial,fun _ => rs_empty rfl hS.1.1.size⟩,fun h => (AA h (by kernel_rfl)).elim⟩,?_⟩
        obtain ⟨B,hB⟩ : ∃ B,wx.heap.size = B:=⟨_,rfl⟩
        clear hb
        rw [hB]
        clear hB hS
        simp only [sc0,sc1]
        exact EN (done := [6,5,2,13,12,11,10,8,7,4,3,1,0]) (by kernel_rfl) (hrest Bd dd Bm dm B)
      · obtain rfl:=List.mem_singleton.1 hi
        clear hi
        have hb : Below wx.heap.size wx (wx.alloc (.cells #[] 98)):=Ah (Below.refl _ _) _
        refine Bw (w1:=wx.alloc (.cells #[] 98)) (.slice (some ⟨wx.heap.size,0,none⟩) 0 0) rfl rfl (by rfl) (by go_simp) ?_
        refine ⟨⟨⟨bj hS.1.1 hb,Nat.le_trans hS.1.2.1 hb.size,hS.1.2.2.1.up hb,hS.1.2.2.2.up hb⟩,fun _ => Kd.Bu (hS.2.1 (by kernel_rfl)) hb,fun _ h => (AA h (by kernel_rfl)).elim,fun _ => ⟨trivial,fun _ => rs_empty rfl hS.1.1.size⟩,fun h => (AA h (by kernel_rfl)).elim⟩,?_⟩
        obtain ⟨B,hB⟩ : ∃ B,wx.heap.size = B:=⟨_,rfl⟩
        clear hb
        rw [hB]
        clear hB hS
        simp only [sc0,sc1]
        refine AQ [5] (by kernel_rfl) (fun i hi wx hS => ?_)
        obtain rfl:=List.mem_singleton.1 hi
        clear hi
        refine CV (f:=100) (args:=#[.slice Am e.mem.length cm]) rfl rfl Tryz.func100 (by kernel_rfl) rfl rfl (by rfl) (by simp only [List.map_toArray,List.map_cons,List.map_nil];rfl) ((HCM.out wx hS.1.1).mono ?_)
        rintro x w6 ⟨v,rfl,ho,hb⟩
        obtain ⟨Bm,dm,rfl, -, -⟩:=Kd.CJ ho
        refine ⟨_,rfl,⟨⟨bj hS.1.1 hb,Nat.le_trans hS.1.2.1 hb.size,hS.1.2.2.1.up hb,hS.1.2.2.2.up hb⟩,fun _ => Kd.Bu (hS.2.1 (by kernel_rfl)) hb,fun _ _ => TwoPs.mk (hS.2.1 (by kernel_rfl)) ho hb hS.1.1.size,fun _ => ⟨trivial,fun _ => Kd.Cm ((hS.2.2.2.1 (by kernel_rfl)).2 (by kernel_rfl)) hb⟩,fun h => (AA h (by kernel_rfl)).elim⟩,?_⟩
        clear hS ho hb
        simp only [sc0,sc1]
        exact EN (done := [6,5,2,13,12,11,10,8,7,4,3,1,0]) (by kernel_rfl) (hrest Bd dd Bm dm B)
    · obtain rfl:=List.mem_singleton.1 hi
      clear hi
      have hb : Below wx.heap.size wx (wx.alloc (.cells #[] 98)):=Ah (Below.refl _ _) _
      refine Bw (w1:=wx.alloc (.cells #[] 98)) (.slice (some ⟨wx.heap.size,0,none⟩) 0 0) rfl rfl (by rfl) (by go_simp) ?_
      refine ⟨⟨⟨bj hS.1.1 hb,Nat.le_trans hS.1.2.1 hb.size,hS.1.2.2.1.up hb,hS.1.2.2.2.up hb⟩,fun h => (AA h (by kernel_rfl)).elim,fun _ h => (AA h (by kernel_rfl)).elim,fun _ => ⟨trivial,fun _ => rs_empty rfl hS.1.1.size⟩,fun h => (AA h (by kernel_rfl)).elim⟩,?_⟩
      obtain ⟨B,hB⟩ : ∃ B,wx.heap.size = B:=⟨_,rfl⟩
      clear hb
      rw [hB]
      clear hB hS
      simp only [sc0,sc1]
      refine AQ [2] (by kernel_rfl) (fun i hi wx hS => ?_)
      obtain rfl:=List.mem_singleton.1 hi
      clear hi
      refine CV (f:=100) (args:=#[.slice Ad e.disk.length cd]) rfl rfl Tryz.func100 (by kernel_rfl) rfl rfl (by rfl) (by simp only [List.map_toArray,List.map_cons,List.map_nil];rfl) ((HCD.out wx hS.1.1).mono ?_)
      rintro x w6 ⟨v,rfl,ho,hb⟩
      obtain ⟨Bd,dd,rfl, -, -⟩:=Kd.CJ ho
      refine ⟨_,rfl,⟨⟨bj hS.1.1 hb,Nat.le_trans hS.1.2.1 hb.size,hS.1.2.2.1.up hb,hS.1.2.2.2.up hb⟩,fun _ => Kd.E8 ho hS.1.1.size,fun _ h => (AA h (by kernel_rfl)).elim,fun _ => ⟨trivial,fun _ => Kd.Cm ((hS.2.2.2.1 (by kernel_rfl)).2 (by kernel_rfl)) hb⟩,fun h => (AA h (by kernel_rfl)).elim⟩,?_⟩
      clear hS ho hb
      simp only [sc0,sc1]
      refine AQ [5] (by kernel_rfl) (fun i hi wx hS => ?_)
      obtain rfl:=List.mem_singleton.1 hi
      clear hi
      refine CV (f:=100) (args:=#[.slice Am e.mem.length cm]) rfl rfl Tryz.func100 (by kernel_rfl) rfl rfl (by rfl) (by simp only [List.map_toArray,List.map_cons,List.map_nil];rfl) ((HCM.out wx hS.1.1).mono ?_)
      rintro x w6 ⟨v,rfl,ho,hb⟩
      obtain ⟨Bm,dm,rfl, -, -⟩:=Kd.CJ ho
      refine ⟨_,rfl,⟨⟨bj hS.1.1 hb,Nat.le_trans hS.1.2.1 hb.size,hS.1.2.2.1.up hb,hS.1.2.2.2.up hb⟩,fun _ => Kd.Bu (hS.2.1 (by kernel_rfl)) hb,fun _ _ => TwoPs.mk (hS.2.1 (by kernel_rfl)) ho hb hS.1.1.size,fun _ => ⟨trivial,fun _ => Kd.Cm ((hS.2.2.2.1 (by kernel_rfl)).2 (by kernel_rfl)) hb⟩,fun h => (AA h (by kernel_rfl)).elim⟩,?_⟩
      clear hS ho hb
      simp only [sc0,sc1]
      exact EN (done := [6,5,2,13,12,11,10,8,7,4,3,1,0]) (by kernel_rfl) (hrest Bd dd Bm dm B)
  · intro Bd dd Bm dm B
    refine AQ [9] (by kernel_rfl) (fun i hi w3 hS => ?_)
    obtain rfl:=List.mem_singleton.1 hi
    clear hi
    obtain ⟨⟨h1,h2,h3,h4⟩,hc1,hc2,hc3, -⟩:=hS
    have hr0 : OwnRs w3 w.heap.size (.slice (some ⟨B,0,none⟩) 0 0) []:=(hc3 (by kernel_rfl)).2 (by kernel_rfl)
    have hd0 : EA w3 w.heap.size (.slice Bd e.disk.length dd) e.disk:=hc1 (by kernel_rfl)
    have ht0 : TwoPs w3 w.heap.size (.slice Bd e.disk.length dd) (.slice Bm e.mem.length dm) e.disk e.mem:=hc2 (by kernel_rfl) (by kernel_rfl)
    have hlg : Kd.C C8 w3 Al e.log.length e.log:=BM HR.out.l h1
    refine wpOp_step rfl (Kd.Cs C8 (Rr:=C8.K w3) (w0:=w) w.heap.size (by rfl) (.tmp 9) (.tmp 11) 26 98 _ 64 rfl Et GU rfl (by decide) (by decide) (.slice (some ⟨B,0,none⟩) 0 0) [] e.log Al e.log.length cl (fun _ => True) (fun _ => False) rfl rfl hr0 hlg (fun _ _ hk => IY hk) (fun _ hk => hk.elim) (fun _ _ => trivial) h1 h1.size (by have:=HL.out;simp;omega) (fun v1 w4 hown hb4 hg4 _ => ?_))
    have hown : OwnRs w4 w.heap.size v1 e.log:=hown
    obtain ⟨Bl,dl,rfl, -, -⟩:=Kd.DK hown
    simp only [Co,sc0,sc1]
    refine ⟨⟨⟨hb4,Nat.le_trans h2 hg4.size,h3.grown hr0 hg4,h4.grown hr0 hg4⟩,fun _ => Kd.LC hd0 (GA hr0) EO hg4,fun _ _ => ht0.over hr0 hg4,fun h => (AA (by kernel_rfl) h).elim,fun _ => hown⟩,?_⟩
    clear h1 h2 h3 h4 hc1 hc2 hc3 hr0 hd0 ht0 hlg hb4 hg4 hown
    refine Ae (i:=14) (v:=?_) HT rfl (by kernel_rfl) rfl (kA Aa (kA (Ab rfl rfl) (kA (Bc rfl rfl rfl rfl) (kA (Ap rfl rfl rfl) (Ab rfl rfl))))) (by rfl) (fun _ _ _ h => h) (fun lx ax wx hS => ?_) ?_
    rotate_left
    · go_simp
      with_reducible rfl
    rotate_left
    simp only [sc0,sc1]
    refine BQ (i:=15) (by kernel_rfl) rfl (fun wx hS => ?_)
    obtain ⟨⟨h1,h2, -,hy⟩, -,hs2, -,hs4⟩:=hS
    have ho : AU wx w.heap.size (.slice Bd e.disk.length dd) (.slice Bm e.mem.length dm) (.slice Bl e.log.length dl) e:=TwoPs.eng (hs2 (by kernel_rfl) (by kernel_rfl)) (hs4 (by kernel_rfl))
    clear hs2 hs4
    have y0:=hy.c0
    have y1:=hy.c1
    have y2:=hy.c2
    have y3:=hy.c3
    have y4:=hy.c4
    have f0:=hy.frz 0
    have f1:=hy.frz 1
    have f2:=hy.frz 2
    have f3:=hy.frz 3
    have f4:=hy.frz 4
    refine Bh (w1:=Go.Proofs.YtpjmlpmhgfghbaaGreat.Az wx (w.heap.size + 1) e (.slice Bd e.disk.length dd) (.slice Bm e.mem.length dm) (.slice Bl e.log.length dl)) rfl (by rfl) (by go_simp) ?_
    have hy2:=hy.Az e (.slice Bd e.disk.length dd) (.slice Bm e.mem.length dm) (.slice Bl e.log.length dl)
    have ho2:=ho.Az (f:=e) (xd:=.slice Bd e.disk.length dd) (xm:=.slice Bm e.mem.length dm) (xl:=.slice Bl e.log.length dl) hy
    have h3:=Ak (g:=w.heap.size + 1) h1 (by omega) e (.slice Bd e.disk.length dd) (.slice Bm e.mem.length dm) (.slice Bl e.log.length dl)
    have z0:=hy2.c0
    have z1:=hy2.c1
    have z2:=hy2.c2
    have z3:=hy2.c3
    have z4:=hy2.c4
    refine BB (by kernel_rfl) ?_
    go_wp2
    exact bodyPost_ret (v:=e.ag (.slice Bd e.disk.length dd) (.slice Bm e.mem.length dm) (.slice Bl e.log.length dl)) (by simp [results,Tryz.results42,go_sem,z0,z1,z2,z3,z4]) rfl ⟨_,_,_,rfl,ho2,h3⟩
end Go.Proofs.YtpjmlpmhgfghbaaGreat
namespace Go.Proofs.YtpjmlpmhgfghbaaGreat
open Go.RowKit Go.Proofs.YtpjmlpmhgfghbaaGreatW.PrintWords Go.Proofs.YtpjmlpmhgfghbaaGreatW.PrintLast Go.Proofs.YtpjmlpmhgfghbaaGreatW.PrintMore
section
variable {P : Program} {ops : Array Oper} {Q : Exit → Act → World → Prop} {S : Array Bool → Act → World → Prop} {m : Nat} {done : List Nat} {L : List Value} {D : List Deferred}
end
theorem reg_later2 {R : Value → Nat → Prop} {G : Prop} (h1 : (∀ a b,R a b) → G) (h2 : ∀ a b,R a b) : G:=h1 h2
structure BO (w0 w : World) (g : Nat) (e : Eng) : Prop where
  ex : ∃ vd vm vl,Ai w g e vd vm vl ∧ AU w w0.heap.size vd vm vl e
  bel : Below w0.heap.size w0 w
  ge : w0.heap.size ≤ g
theorem BO.up {w0 w w1 : World} {g : Nat} {e : Eng} (h : BO w0 w g e) (hb : Below w.heap.size w w1) : BO w0 w1 g e:=by
  obtain ⟨⟨vd,vm,vl,h1,h2⟩,h3,h4⟩:=h
  exact ⟨⟨vd,vm,vl,h1.up hb,h2.below hb⟩,bj h3 hb,h4⟩
def Hy (w0 : World) (g : Nat) (e : Eng) (x : Ending) (w' : World) : Prop:=(∃ v,x = .returned v) ∧ BO w0 w' g e
end Go.Proofs.YtpjmlpmhgfghbaaGreat
namespace Go.Proofs.YtpjmlpmhgfghbaaGreat
open Go.RowKit Go.Proofs.YtpjmlpmhgfghbaaGreatW.PrintWords Go.Proofs.YtpjmlpmhgfghbaaGreatW.PrintLast Go.Proofs.YtpjmlpmhgfghbaaGreatW.PrintMore
set_option maxRecDepth 100000 in
set_option maxHeartbeats 8000000 in
theorem Dq {w0 w : World} {g : Nat} {e : Eng} (tx page : Int) (hlog : AP e.log = true) (h : BO w0 w g e) : Calls Tryz.prog 176 #[ptr g, .int .i64 tx, .int .i64 page] w fun x w' => x = .returned (.bool (DL e tx page)) ∧ Below w.heap.size w w':=by
  obtain ⟨⟨vd,vm,vl,hq,ho⟩, -, -⟩:=h
  obtain ⟨Ad,cd,Am,cm,Al,cl,rfl,rfl,rfl, -,hrd⟩:=ho.reads
  have HLOG:=As hlog
  have HC:=As hrd
  have x2:=hq.c2
  have x4:=hq.c4
  clear hq ho hrd hlog
  cases hd : e.down
  · have HD:=As hd
    rw [hd] at x4
    cases h1 : inB tx 1 3
    · have hM : DL e tx page = false:=by rw [DL,hd,h1];rfl
      rw [hM]
      have H1:=As h1
      clear hM hd h1
      go_enter Tryz.func176,Tryz.ntmps176
      go_wp2_with (go_at_call 173;refine (Ca tx _).mono ?_;rw [H1.out];rintro x w' ⟨rfl,rfl⟩)
      go_ret
      exact ⟨rfl,Below.refl _ _⟩
    · cases h2 : inB page 0 4
      · have hM : DL e tx page = false:=by rw [DL,hd,h1,h2];rfl
        rw [hM]
        have H1:=As h1
        have H2:=As h2
        clear hM hd h1 h2
        go_enter Tryz.func176,Tryz.ntmps176
        go_wp2_with (first
          | (go_at_call 173;refine (Ca tx _).mono ?_;rw [H1.out];rintro x w' ⟨rfl,rfl⟩)
          | (go_at_call 156;refine (Bz page _).mono ?_;rw [H2.out];rintro x w' ⟨rfl,rfl⟩))
        go_ret
        exact ⟨rfl,Below.refl _ _⟩
      · obtain ⟨b,hb⟩ : ∃ b,FE e.log page (Cf e.log 3) 0 true = b:=⟨_,rfl⟩
        have hM : DL e tx page = (b.1 == 0 || b.1 == tx):=by
          rw [DL,hd,h1,h2,show lk e.log page = b.1 by rw [lk,hb]]
          rfl
        rw [hM]
        have H1:=As h1
        have H2:=As h2
        have HBB:=As hb
        clear hM hd h1 h2 hb
        obtain ⟨by_,ok⟩:=b
        rcases BS by_ 0 with ⟨e1,b1,c1⟩ | ⟨e1,b1,c1⟩
        · go_enter Tryz.func176,Tryz.ntmps176
          go_wp2_with (first
            | (go_at_call 173;refine (Ca tx _).mono ?_;rw [H1.out];rintro x w' ⟨rfl,rfl⟩)
            | (go_at_call 156;refine (Bz page _).mono ?_;rw [H2.out];rintro x w' ⟨rfl,rfl⟩)
            | (go_at_call 60;refine (F8 (w0:=w) (c:=cl) page (Below.refl _ _) HC.out.l HLOG.out).mono ?_;rw [HBB.out];rintro x w1 ⟨rfl,hb1⟩;have HB1:=As hb1;clear hb1))
          go_ret
          exact ⟨by simp [b1],HB1.out⟩
        · rcases BS by_ tx with ⟨e2,b2,c2⟩ | ⟨e2,b2,c2⟩
          all_goals
            go_enter Tryz.func176,Tryz.ntmps176
            go_wp2_with (first
              | (go_at_call 173;refine (Ca tx _).mono ?_;rw [H1.out];rintro x w' ⟨rfl,rfl⟩)
              | (go_at_call 156;refine (Bz page _).mono ?_;rw [H2.out];rintro x w' ⟨rfl,rfl⟩)
              | (go_at_call 60;refine (F8 (w0:=w) (c:=cl) page (Below.refl _ _) HC.out.l HLOG.out).mono ?_;rw [HBB.out];rintro x w1 ⟨rfl,hb1⟩;have HB1:=As hb1;clear hb1))
            go_ret
            exact ⟨by simp [b1,b2],HB1.out⟩
  · have hM : DL e tx page = false:=by rw [DL,hd];rfl
    rw [hM]
    rw [hd] at x4
    clear hM hd
    go_enter Tryz.func176,Tryz.ntmps176
    go_wp2
    go_ret
    exact ⟨rfl,Below.refl _ _⟩
def CQ (w : World) (e : Eng) (b : Bool) (x : Ending) (w' : World) : Prop := ∃ vd vm vl,x = .returned (.tuple #[e.ag vd vm vl, .bool b]) ∧ AU w' w.heap.size vd vm vl e ∧ Below w.heap.size w w'
theorem I6 (w : World) (b : Nat) : AU w b (.slice none 0 0) (.slice none 0 0) (.slice none 0 0) zE:=⟨⟨fun _ => True,fun _ => False,fun _ _ h => h,Kd.Tf _ _ _ _ _,Kd.Tf _ _ _ _ _⟩,Kd.Vd _ _ _ _ _⟩
abbrev WR (w : World) (g : Nat) : World:=((((w.setCell ⟨g,0,none⟩ (.slice none 0 0)).setCell ⟨g,1,none⟩ (.slice none 0 0)).setCell ⟨g,2,none⟩ (.slice none 0 0)).setCell ⟨g,3,none⟩ (.int .i64 0)).setCell ⟨g,4,none⟩ (.bool false)
structure VJ (w : World) (g : Nat) : Prop where
  c0 : w.cell? ⟨g,0,none⟩ = some (.slice none 0 0)
  c1 : w.cell? ⟨g,1,none⟩ = some (.slice none 0 0)
  c2 : w.cell? ⟨g,2,none⟩ = some (.slice none 0 0)
  c3 : w.cell? ⟨g,3,none⟩ = some (.int .i64 0)
  c4 : w.cell? ⟨g,4,none⟩ = some (.bool false)
theorem Ai.empty {w : World} {g : Nat} {q : Eng} {ud um ul : Value} (h : Ai w g q ud um ul) : VJ (WR w g) g:=
  have hy:=h.Az zE (.slice none 0 0) (.slice none 0 0) (.slice none 0 0)
  ⟨hy.c0,hy.c1,hy.c2,hy.c3,hy.c4⟩
abbrev zEv : Value:=.agg #[.slice none 0 0, .slice none 0 0, .slice none 0 0, .int .i64 0, .bool false]
def GX (e : Eng) (left : Int) : Eng × Bool:=if eOk e = true ∧ 0 ≤ left then (JG e left,true) else (zE,false)
set_option maxRecDepth 100000 in
set_option maxHeartbeats 8000000 in
theorem NS {w0 w : World} {e : Eng} {Ad Am Al : Option Addr} {cd cm cl : Nat} (left : Int) (hcl : e.log.length ≤ cl) (hb : Below w0.heap.size w0 w) (hr : DF w0 e Ad Am Al) : Calls Tryz.prog 89 #[e.val Ad Am Al cd cm cl, .int .i64 left] w (CQ w (GX e left).1 (GX e left).2):=by
  have HR:=As (hr.up hb)
  clear hr hb
  obtain ⟨w1,hw1⟩ : ∃ w1,w.alloc (e.obox (.slice Ad e.disk.length cd) (.slice Am e.mem.length cm) (.slice Al e.log.length cl)) = w1:=⟨_,rfl⟩
  obtain ⟨w2,hw2⟩ : ∃ w2,w1.alloc (zE.obox (.slice none 0 0) (.slice none 0 0) (.slice none 0 0)) = w2:=⟨_,rfl⟩
  have hz1 : w1.heap.size = w.heap.size + 1:=by rw [← hw1];exact BA _ _
  have hz2 : w2.heap.size = w.heap.size + 2:=by rw [← hw2,BA,hz1]
  have hb12 : Below w1.heap.size w1 w2:=by rw [← hw2];exact Ah (Below.refl _ _) _
  have HB2 : Ac (Below w.heap.size w w2):=⟨by rw [← hw2, ← hw1];exact Ah (Ah (Below.refl _ _) _) _⟩
  have HQ2 : Ac (Ai w2 w.heap.size e (.slice Ad e.disk.length cd) (.slice Am e.mem.length cm) (.slice Al e.log.length cl)):=⟨Ai.up (by rw [← hw1];exact Ai.mk1 _ _ _ _ _) hb12⟩
  have HP2 : Ac (Ai w2 (w.heap.size + 1) zE (.slice none 0 0) (.slice none 0 0) (.slice none 0 0)):=⟨by rw [← hw2, ← hz1];exact Ai.mk1 _ _ _ _ _⟩
  have HW2 : Ac ((w.alloc (e.obox (.slice Ad e.disk.length cd) (.slice Am e.mem.length cm) (.slice Al e.log.length cl))).alloc (zE.obox (.slice none 0 0) (.slice none 0 0) (.slice none 0 0)) = w2):=⟨by rw [hw1,hw2]⟩
  have HZ2:=As hz2
  clear hw1 hw2 hz1 hz2 hb12
  have x2:=HQ2.out.c2
  have x3:=HQ2.out.c3
  cases hv : eOk e
  · have HV:=As hv
    have hE : GX e left = (zE,false):=by rw [GX,if_neg (by rw [hv];simp)]
    rw [hE]
    clear hv hE
    go_enter Tryz.func89,Tryz.ntmps89
    go_wp2_with (go_at_call 36;rw [show (w.alloc (Obj.cells #[Value.slice Ad e.disk.length cd,Value.slice Am e.mem.length cm,Value.slice Al e.log.length cl,Value.int IntKind.i64 e.safe,Value.bool e.down] 28)).alloc (Obj.cells #[Value.slice none 0 0,Value.slice none 0 0,Value.slice none 0 0,Value.int IntKind.i64 0,Value.bool false] 28) = w2 from HW2.out];refine (AL (cd:=cd) (cm:=cm) HV.out hcl HB2.out HR.out).mono ?_;rintro x w3 ⟨rfl,hb3⟩;have HB3:=As (bj HB2.out hb3);have HP3:=As (HP2.out.up hb3);have y0:=HP3.out.c0;have y1:=HP3.out.c1;have y2:=HP3.out.c2;have y3:=HP3.out.c3;have y4:=HP3.out.c4;have f0:=HP3.out.frz 0;have f1:=HP3.out.frz 1;have f2:=HP3.out.frz 2;have f3:=HP3.out.frz 3;have f4:=HP3.out.frz 4;clear hb3)
    obtain ⟨z0,z1,z2,z3,z4⟩:=HP3.out.empty
    exact bodyPost_ret (v:=.tuple #[zEv, .bool false]) (by simp [results,Tryz.results89,go_sem,z0,z1,z2,z3,z4]) rfl ⟨_,_,_,rfl,I6 _ _,Ak (g:=w.heap.size + 1) HB3.out (by omega) zE _ _ _⟩
  · have HV:=As hv
    have HF:=As (Fh.1 hv)
    clear hv
    rcases lts left 0 with ⟨e1,b1,c1⟩ | ⟨e1,b1,c1⟩
    · have hE : GX e left = (zE,false):=by rw [GX,if_neg (by have:=e1.out;omega)]
      rw [hE]
      clear hE
      have hl0:=e1.out
      go_enter Tryz.func89,Tryz.ntmps89
      go_wp2_with (go_at_call 36;rw [show (w.alloc (Obj.cells #[Value.slice Ad e.disk.length cd,Value.slice Am e.mem.length cm,Value.slice Al e.log.length cl,Value.int IntKind.i64 e.safe,Value.bool e.down] 28)).alloc (Obj.cells #[Value.slice none 0 0,Value.slice none 0 0,Value.slice none 0 0,Value.int IntKind.i64 0,Value.bool false] 28) = w2 from HW2.out];refine (AL (cd:=cd) (cm:=cm) HV.out hcl HB2.out HR.out).mono ?_;rintro x w3 ⟨rfl,hb3⟩;have HB3:=As (bj HB2.out hb3);have HP3:=As (HP2.out.up hb3);have y0:=HP3.out.c0;have y1:=HP3.out.c1;have y2:=HP3.out.c2;have y3:=HP3.out.c3;have y4:=HP3.out.c4;have f0:=HP3.out.frz 0;have f1:=HP3.out.frz 1;have f2:=HP3.out.frz 2;have f3:=HP3.out.frz 3;have f4:=HP3.out.frz 4;clear hb3)
      obtain ⟨z0,z1,z2,z3,z4⟩:=HP3.out.empty
      exact bodyPost_ret (v:=.tuple #[zEv, .bool false]) (by simp [results,Tryz.results89,go_sem,z0,z1,z2,z3,z4]) rfl ⟨_,_,_,rfl,I6 _ _,Ak (g:=w.heap.size + 1) HB3.out (by omega) zE _ _ _⟩
    · have hE : GX e left = (JG e left,true):=by rw [GX,if_pos ⟨HV.out,e1.out⟩]
      rw [hE]
      clear hE
      have hl0:=e1.out
      go_enter Tryz.func89,Tryz.ntmps89
      go_wp2_with (go_at_call 36;rw [show (w.alloc (Obj.cells #[Value.slice Ad e.disk.length cd,Value.slice Am e.mem.length cm,Value.slice Al e.log.length cl,Value.int IntKind.i64 e.safe,Value.bool e.down] 28)).alloc (Obj.cells #[Value.slice none 0 0,Value.slice none 0 0,Value.slice none 0 0,Value.int IntKind.i64 0,Value.bool false] 28) = w2 from HW2.out];refine (AL (cd:=cd) (cm:=cm) HV.out hcl HB2.out HR.out).mono ?_;rintro x w3 ⟨rfl,hb3⟩;have HB3:=As (bj HB2.out hb3);have HP3:=As (HP2.out.up hb3);have y0:=HP3.out.c0;have y1:=HP3.out.c1;have y2:=HP3.out.c2;have y3:=HP3.out.c3;have y4:=HP3.out.c4;have f0:=HP3.out.frz 0;have f1:=HP3.out.frz 1;have f2:=HP3.out.frz 2;have f3:=HP3.out.frz 3;have f4:=HP3.out.frz 4;replace x2:=bc hb3 x2;replace x3:=bc hb3 x3;have HX3:=As hb3;clear hb3)
      obtain ⟨n,hn⟩ : ∃ n : Nat,MF e left = n:=⟨_,rfl⟩
      have hle:=NA (left:=left) HF.out.s0 HF.out.s1
      rw [hn] at hle
      have hmax : max (min left (e.log.length : Int)) e.safe = (n : Int):=by rw [← hn];unfold MF;have:=HF.out.s0;have:=HF.out.s1;omega
      rw [hmax]
      have hncl : n ≤ cl:=by omega
      have hl : (e.log.take n).length = n:=by rw [List.length_take];omega
      have HLn:=As hl
      have HE:=As (show JG e left = ⟨e.disk,e.disk,e.log.take n,e.safe,true⟩ by rw [JG,hn])
      have hgd:=Ay HF.out.disk
      have HGD:=As hgd
      have hm150:=Bg HF.out.log
      have hclone : ∀ wx,Below w.heap.size w wx → Calls Tryz.prog 90 #[.slice Al n cl] wx (VQ wx (e.log.take n)):=fun wx hb => by
        have h:=Lv (c:=cl) (by rw [hl];omega) hb (OQ HR.out.l (by omega))
        rw [hl] at h
        exact h
      have x0:=HQ2.out.c0
      clear hgd hle hmax hl hn y0 y1 y2 y3 y4 f0 f1 f2 f3 f4
      refine AX (fun lx a wx => (Below w.heap.size w wx ∧ w.heap.size + 2 ≤ wx.heap.size ∧ Ai wx w.heap.size e (.slice Ad e.disk.length cd) (.slice Am e.mem.length cm) (.slice Al e.log.length cl) ∧ Ai wx (w.heap.size + 1) zE (.slice none 0 0) (.slice none 0 0) (.slice none 0 0)) ∧ (Sl 2 25 (fun v wx => EA wx (w.heap.size + 2) v e.disk) lx a wx ∧ (Sl2 2 25 5 28 (fun v u wx => TwoPs wx (w.heap.size + 2) v u e.disk e.disk) lx a wx ∧ Sl 10 33 (fun v wx => OwnRs wx (w.heap.size + 2) v (e.log.take n)) lx a wx))) 14 rfl (by kernel_rfl) (⟨⟨Aj HB3.out,by have:=HZ2.out;have:=HX3.out.size;show _ ≤ w3.heap.size;omega,HQ2.out.up (Aj HX3.out),HP2.out.up (Aj HX3.out)⟩,AZ,LY,AZ⟩) (fun HT => ?_)
      refine Ae (i:=0) (v:=?_) HT rfl (by kernel_rfl) rfl (kA Aa (kA (Ab rfl rfl) (kA (Bc rfl rfl rfl rfl) (Ab rfl rfl)))) (by rfl) (fun _ _ _ h => h) (fun lx ax wx hS => ?_) ?_;rotate_left;(obtain ⟨⟨-, -,hq, -⟩, -⟩:=hS;have x0:=hq.c0;have x1:=hq.c1;have x2:=hq.c2;have x3:=hq.c3;clear hq;go_simp;with_reducible rfl);rotate_left;simp only [sc0,sc1]
      refine Ae (i:=1) (v:=?_) HT rfl (by kernel_rfl) rfl (kA Aa (kA (Ab rfl rfl) (kA (Bc rfl rfl rfl rfl) (Ab rfl rfl)))) (by rfl) (fun _ _ _ h => h) (fun lx ax wx hS => ?_) ?_;rotate_left;(obtain ⟨⟨-, -,hq, -⟩, -⟩:=hS;have x0:=hq.c0;have x1:=hq.c1;have x2:=hq.c2;have x3:=hq.c3;clear hq;go_simp;with_reducible rfl);rotate_left;simp only [sc0,sc1]
      refine Ae (i:=3) (v:=?_) HT rfl (by kernel_rfl) rfl (kA Aa (kA (Ab rfl rfl) (kA (Bc rfl rfl rfl rfl) (Ab rfl rfl)))) (by rfl) (fun _ _ _ h => h) (fun lx ax wx hS => ?_) ?_;rotate_left;(obtain ⟨⟨-, -,hq, -⟩, -⟩:=hS;have x0:=hq.c0;have x1:=hq.c1;have x2:=hq.c2;have x3:=hq.c3;clear hq;go_simp;with_reducible rfl);rotate_left;simp only [sc0,sc1]
      refine Ae (i:=4) (v:=?_) HT rfl (by kernel_rfl) rfl (kA Aa (kA (Ab rfl rfl) (kA (Bc rfl rfl rfl rfl) (Ab rfl rfl)))) (by rfl) (fun _ _ _ h => h) (fun lx ax wx hS => ?_) ?_;rotate_left;(obtain ⟨⟨-, -,hq, -⟩, -⟩:=hS;have x0:=hq.c0;have x1:=hq.c1;have x2:=hq.c2;have x3:=hq.c3;clear hq;go_simp;with_reducible rfl);rotate_left;simp only [sc0,sc1]
      refine Ae (i:=6) (v:=?_) HT rfl (by kernel_rfl) rfl (kA Aa (kA (Ab rfl rfl) (kA (Bc rfl rfl rfl rfl) (Ab rfl rfl)))) (by rfl) (fun _ _ _ h => h) (fun lx ax wx hS => ?_) ?_;rotate_left;(obtain ⟨⟨-, -,hq, -⟩, -⟩:=hS;have x0:=hq.c0;have x1:=hq.c1;have x2:=hq.c2;have x3:=hq.c3;clear hq;go_simp;with_reducible rfl);rotate_left;simp only [sc0,sc1]
      refine Ae (i:=7) (v:=?_) HT rfl (by kernel_rfl) rfl (kA Aa (kA (Ab rfl rfl) (kA (Bc rfl rfl rfl rfl) (Ab rfl rfl)))) (by rfl) (fun _ _ _ h => h) (fun lx ax wx hS => ?_) ?_;rotate_left;(obtain ⟨⟨-, -,hq, -⟩, -⟩:=hS;have x0:=hq.c0;have x1:=hq.c1;have x2:=hq.c2;have x3:=hq.c3;clear hq;go_simp;with_reducible rfl);rotate_left;simp only [sc0,sc1]
      refine Ae (i:=8) (v:=?_) HT rfl (by kernel_rfl) rfl (kA Aa (kA (Ab rfl rfl) (kA (Bc rfl rfl rfl rfl) (Ab rfl rfl)))) (by rfl) (fun _ _ _ h => h) (fun lx ax wx hS => ?_) ?_;rotate_left;(obtain ⟨⟨-, -,hq, -⟩, -⟩:=hS;have x0:=hq.c0;have x1:=hq.c1;have x2:=hq.c2;have x3:=hq.c3;clear hq;go_simp;with_reducible rfl);rotate_left;simp only [sc0,sc1]
      refine Ae (i:=9) (v:=?_) HT rfl (by kernel_rfl) rfl (kA Aa (kA (Ab rfl rfl) (kA (Bc rfl rfl rfl rfl) (Ab rfl rfl)))) (by rfl) (fun _ _ _ h => h) (fun lx ax wx hS => ?_) ?_;rotate_left;(obtain ⟨⟨-, -,hq, -⟩, -⟩:=hS;have x0:=hq.c0;have x1:=hq.c1;have x2:=hq.c2;have x3:=hq.c3;clear hq;go_simp;with_reducible rfl);rotate_left;simp only [sc0,sc1]
      refine Ae (i:=11) (v:=?_) HT rfl (by kernel_rfl) rfl (kA Aa (kA (Ab rfl rfl) (kA (Bc rfl rfl rfl rfl) (Ab rfl rfl)))) (by rfl) (fun _ _ _ h => h) (fun lx ax wx hS => ?_) ?_;rotate_left;(obtain ⟨⟨-, -,hq, -⟩, -⟩:=hS;have x0:=hq.c0;have x1:=hq.c1;have x2:=hq.c2;have x3:=hq.c3;clear hq;go_simp;with_reducible rfl);rotate_left;simp only [sc0,sc1]
      refine Ae (i:=12) (v:=?_) HT rfl (by kernel_rfl) rfl (kA Aa (kA (Ab rfl rfl) (kA (Bc rfl rfl rfl rfl) (Ab rfl rfl)))) (by rfl) (fun _ _ _ h => h) (fun lx ax wx hS => ?_) ?_;rotate_left;(obtain ⟨⟨-, -,hq, -⟩, -⟩:=hS;have x0:=hq.c0;have x1:=hq.c1;have x2:=hq.c2;have x3:=hq.c3;clear hq;go_simp;with_reducible rfl);rotate_left;simp only [sc0,sc1]
      refine BR (i:=2) (f:=49) (args:=#[.slice Ad e.disk.length cd]) (fun v => ∃ A1 c1,v = .slice A1 e.disk.length c1) rfl (by kernel_rfl) rfl Tryz.func49 (by kernel_rfl) rfl rfl (by rfl) (by simp only [List.map_toArray,List.map_cons,List.map_nil];rfl) (fun wx hS => (EF (Fv HGD.out) (by have:=HGD.out.1;omega) hS.1.1 HR.out.d).mono (by rintro x w6 ⟨v,rfl,ho,hb⟩;obtain ⟨A1,c1,rfl, -, -⟩:=Kd.CJ ho;exact ⟨_,rfl,⟨A1,c1,rfl⟩,⟨bj hS.1.1 hb,Nat.le_trans hS.1.2.1 hb.size,hS.1.2.2.1.up hb,hS.1.2.2.2.up hb⟩,fun _ => Kd.E8 ho hS.1.2.1,fun _ h => (AA h (by kernel_rfl)).elim,fun h => (AA h (by kernel_rfl)).elim⟩)) (fun vx hg => ?_);simp only [sc0,sc1]
      obtain ⟨Bd,dd,rfl⟩:=hg
      refine BR (i:=5) (f:=49) (args:=#[.slice Ad e.disk.length cd]) (fun v => ∃ A1 c1,v = .slice A1 e.disk.length c1) rfl (by kernel_rfl) rfl Tryz.func49 (by kernel_rfl) rfl rfl (by rfl) (by simp only [List.map_toArray,List.map_cons,List.map_nil];rfl) (fun wx hS => (EF (Fv HGD.out) (by have:=HGD.out.1;omega) hS.1.1 HR.out.d).mono (by rintro x w6 ⟨v,rfl,ho,hb⟩;obtain ⟨A1,c1,rfl, -, -⟩:=Kd.CJ ho;exact ⟨_,rfl,⟨A1,c1,rfl⟩,⟨bj hS.1.1 hb,Nat.le_trans hS.1.2.1 hb.size,hS.1.2.2.1.up hb,hS.1.2.2.2.up hb⟩,fun _ => Kd.Bu (hS.2.1 (by kernel_rfl)) hb,fun _ _ => TwoPs.mk (hS.2.1 (by kernel_rfl)) ho hb hS.1.2.1,fun h => (AA h (by kernel_rfl)).elim⟩)) (fun vx hg => ?_);simp only [sc0,sc1]
      obtain ⟨Bm,dm,rfl⟩:=hg
      refine BR (i:=10) (f:=90) (args:=#[.slice Al n cl]) (fun v => ∃ A1 c1,v = .slice A1 n c1) rfl (by kernel_rfl) rfl Tryz.func90 (by kernel_rfl) rfl rfl (by rfl) (by simp only [List.map_toArray,List.map_cons,List.map_nil];rfl) (fun wx hS => (hclone wx hS.1.1).mono (by rintro x w6 ⟨v,rfl,ho,hb⟩;obtain ⟨A1,c1,rfl, -, -⟩:=Kd.DK ho;rw [HLn.out] at ho ⊢;exact ⟨_,rfl,⟨A1,c1,rfl⟩,⟨bj hS.1.1 hb,Nat.le_trans hS.1.2.1 hb.size,hS.1.2.2.1.up hb,hS.1.2.2.2.up hb⟩,fun _ => Kd.Bu (hS.2.1 (by kernel_rfl)) hb,fun _ _ => (hS.2.2.1 (by kernel_rfl) (by kernel_rfl)).below hb,fun _ => Kd.Gu ho hS.1.2.1⟩)) (fun vx hg => ?_);simp only [sc0,sc1]
      obtain ⟨Bl,dl,rfl⟩:=hg
      refine Ae (i:=13) (v:=?_) HT rfl (by kernel_rfl) rfl (kA Aa (kA (Ab rfl rfl) (kA (Bc rfl rfl rfl rfl) (Ab rfl rfl)))) (by rfl) (fun _ _ _ h => h) (fun lx ax wx hS => ?_) ?_;rotate_left;(go_simp;with_reducible rfl);rotate_left;simp only [sc0,sc1]
      refine BQ (i:=14) (by kernel_rfl) rfl (fun wx hS => ?_)
      obtain ⟨⟨h1,h2, -,hy⟩, -,hs2,hs3⟩:=hS
      obtain ⟨E,hEE⟩ : ∃ E : Eng,(⟨e.disk,e.disk,e.log.take n,e.safe,true⟩ : Eng) = E:=⟨_,rfl⟩
      have ho : AU wx (w.heap.size + 2) (.slice Bd e.disk.length dd) (.slice Bm e.disk.length dm) (.slice Bl n dl) E:=by
        rw [← hEE]
        exact ⟨hs2 (by kernel_rfl) (by kernel_rfl),hs3 (by kernel_rfl)⟩
      have HEE:=As hEE
      clear hs2 hs3 hEE
      have y0:=hy.c0
      have y1:=hy.c1
      have y2:=hy.c2
      have y3:=hy.c3
      have y4:=hy.c4
      have f0:=hy.frz 0
      have f1:=hy.frz 1
      have f2:=hy.frz 2
      have f3:=hy.frz 3
      have f4:=hy.frz 4
      refine Bh (w1:=Go.Proofs.YtpjmlpmhgfghbaaGreat.Az wx (w.heap.size + 1) ⟨e.disk,e.disk,e.log.take n,e.safe,true⟩ (.slice Bd e.disk.length dd) (.slice Bm e.disk.length dm) (.slice Bl n dl)) rfl (by rfl) (by go_simp) ?_
      have hy2:=hy.Az ⟨e.disk,e.disk,e.log.take n,e.safe,true⟩ (.slice Bd e.disk.length dd) (.slice Bm e.disk.length dm) (.slice Bl n dl)
      have ho2:=ho.Az (f:=⟨e.disk,e.disk,e.log.take n,e.safe,true⟩) (xd:=.slice Bd e.disk.length dd) (xm:=.slice Bm e.disk.length dm) (xl:=.slice Bl n dl) hy
      have h3:=Ak (g:=w.heap.size + 1) h1 (by omega) ⟨e.disk,e.disk,e.log.take n,e.safe,true⟩ (.slice Bd e.disk.length dd) (.slice Bm e.disk.length dm) (.slice Bl n dl)
      obtain ⟨W8,hW8⟩ : ∃ W8,Go.Proofs.YtpjmlpmhgfghbaaGreat.Az wx (w.heap.size + 1) ⟨e.disk,e.disk,e.log.take n,e.safe,true⟩ (.slice Bd e.disk.length dd) (.slice Bm e.disk.length dm) (.slice Bl n dl) = W8:=⟨_,rfl⟩
      rw [hW8] at hy2 ho2 h3 ⊢
      clear hW8
      have z0:=hy2.c0
      have z1:=hy2.c1
      have z2:=hy2.c2
      have z3:=hy2.c3
      have z4:=hy2.c4
      simp only at z0 z1 z2 z3 z4
      refine Ky (i:=15) (by kernel_rfl) ?_
      refine Bw (w1:=W8) (.bool true) rfl rfl (by rfl) (by go_simp) ?_
      refine BB (by kernel_rfl) ?_
      go_wp2
      exact bodyPost_ret (v:=.tuple #[.agg #[.slice Bd e.disk.length dd, .slice Bm e.disk.length dm, .slice Bl n dl, .int .i64 e.safe, .bool true], .bool true]) (by simp [results,Tryz.results89,go_sem,z0,z1,z2,z3,z4]) rfl ⟨_,_,_,by rw [HE.out],by rw [HE.out,HEE.out];exact ho2.lower (by omega),h3⟩
set_option maxRecDepth 100000 in
set_option maxHeartbeats 16000000 in
theorem Ji {w0 w : World} {e : Eng} {Ad Am Al : Option Addr} {cd cm cl : Nat} (tx page : Int) {p6 p7 p8 p9 : Value} {b : Bool} {X : Eng} (hok : eOk e = true) (hcl : e.log.length ≤ cl) (hb : Below w0.heap.size w0 w) (hr : DF w0 e Ad Am Al)
    (hh : DL e tx page = true → ∀ wb wx g,Below w.heap.size w wb → BO wb wx g e → Calls Tryz.prog 139 #[ptr g,p7,p8,p9] wx fun x w' => x = .returned (.bool b) ∧ Below wx.heap.size wx w')
    (hw : DL e tx page = true → b = true → ∀ wb wx g,Below w.heap.size w wb → BO wb wx g e → Calls Tryz.prog 141 #[ptr g,p6,p7,p8,p9] wx (Hy wb g X))
    (hX : DL e tx page = true → b = true → AP X.log = true) : Calls Tryz.prog 140 #[e.val Ad Am Al cd cm cl, .int .i64 tx, .int .i64 page, .func (.func 139) #[] #[p7,p8,p9], .func (.func 141) #[] #[p6,p7,p8,p9]] w (CQ w (Bp e (DL e tx page && b) X).1 (Bp e (DL e tx page && b) X).2):=by
  have HR:=As (hr.up hb)
  have HH:=As hh
  have HW:=As hw
  have HLX:=As hX
  have HV:=As hok
  have HF:=As (Fh.1 hok)
  have HLG:=As (Bg HF.out.log)
  clear hr hb hh hw hX hok
  obtain ⟨w1,hw1⟩ : ∃ w1,w.alloc (e.obox (.slice Ad e.disk.length cd) (.slice Am e.mem.length cm) (.slice Al e.log.length cl)) = w1:=⟨_,rfl⟩
  obtain ⟨w2,hw2⟩ : ∃ w2,w1.alloc (zE.obox (.slice none 0 0) (.slice none 0 0) (.slice none 0 0)) = w2:=⟨_,rfl⟩
  have hz1 : w1.heap.size = w.heap.size + 1:=by rw [← hw1];exact BA _ _
  have hz2 : w2.heap.size = w.heap.size + 2:=by rw [← hw2,BA,hz1]
  have hb12 : Below w1.heap.size w1 w2:=by rw [← hw2];exact Ah (Below.refl _ _) _
  have HB2 : Ac (Below w.heap.size w w2):=⟨by rw [← hw2, ← hw1];exact Ah (Ah (Below.refl _ _) _) _⟩
  have HQ2 : Ac (Ai w2 w.heap.size e (.slice Ad e.disk.length cd) (.slice Am e.mem.length cm) (.slice Al e.log.length cl)):=⟨Ai.up (by rw [← hw1];exact Ai.mk1 _ _ _ _ _) hb12⟩
  have HP2 : Ac (Ai w2 (w.heap.size + 1) zE (.slice none 0 0) (.slice none 0 0) (.slice none 0 0)):=⟨by rw [← hw2, ← hz1];exact Ai.mk1 _ _ _ _ _⟩
  have HW2 : Ac ((w.alloc (e.obox (.slice Ad e.disk.length cd) (.slice Am e.mem.length cm) (.slice Al e.log.length cl))).alloc (zE.obox (.slice none 0 0) (.slice none 0 0) (.slice none 0 0)) = w2):=⟨by rw [hw1,hw2]⟩
  have HZ2:=As hz2
  clear hw1 hw2 hz1 hz2 hb12
  have x0:=HQ2.out.c0
  have x1:=HQ2.out.c1
  have x2:=HQ2.out.c2
  have x3:=HQ2.out.c3
  have x4:=HQ2.out.c4
  cases hm : DL e tx page
  · have HM:=As hm
    rw [show Bp e (false && b) X = (e,false) by rw [Bp,if_neg (by simp)]]
    clear hm
    go_enter Tryz.func140,Tryz.ntmps140
    go_wp2_with (first
      | (go_at_call 36;rw [show (w.alloc (Obj.cells #[Value.slice Ad e.disk.length cd,Value.slice Am e.mem.length cm,Value.slice Al e.log.length cl,Value.int IntKind.i64 e.safe,Value.bool e.down] 28)).alloc (Obj.cells #[Value.slice none 0 0,Value.slice none 0 0,Value.slice none 0 0,Value.int IntKind.i64 0,Value.bool false] 28) = w2 from HW2.out];refine (AL (cd:=cd) (cm:=cm) HV.out hcl HB2.out HR.out).mono ?_;rintro x w3 ⟨rfl,hb3⟩;have HX3:=As hb3;replace x0:=bc hb3 x0;replace x1:=bc hb3 x1;replace x2:=bc hb3 x2;replace x3:=bc hb3 x3;replace x4:=bc hb3 x4;clear hb3)
      | (go_at_call 38;refine (AV (cd:=cd) (cm:=cm) (cl:=cl) (Ay HF.out.disk) (Ay HF.out.mem) HLG.out (bj HB2.out HX3.out) HR.out).mono ?_;rintro x w4 ⟨vd,vm,vl,rfl,ho,hb4⟩;obtain ⟨Bd,dd,Bm,dm,Bl,dl,rfl,rfl,rfl, -, -⟩:=ho.reads;have HO4:=As ho;have HX4:=As hb4;replace x0:=bc hb4 x0;replace x1:=bc hb4 x1;replace x2:=bc hb4 x2;replace x3:=bc hb4 x3;replace x4:=bc hb4 x4;clear ho hb4)
      | (refine Aw (vd:=.slice Bd e.disk.length dd) (vm:=.slice Bm e.mem.length dm) (vl:=.slice Bl e.log.length dl) e ?_;intro w5 hb5 _ hq5;have HG5 : Ac (BO w3 w5 w4.heap.size e):=⟨⟨⟨_,_,_,hq5,HO4.out.below hb5⟩,bj HX4.out hb5,HX4.out.size⟩⟩;replace x0:=bc hb5 x0;replace x1:=bc hb5 x1;replace x2:=bc hb5 x2;replace x3:=bc hb5 x3;replace x4:=bc hb5 x4;clear hb5 hq5)
      | (go_at_call 176;refine (Dq tx page HF.out.log HG5.out).mono ?_;rw [HM.out];rintro x w6 ⟨rfl,hb6⟩;have HG6:=As (HG5.out.up hb6);replace x0:=bc hb6 x0;replace x1:=bc hb6 x1;replace x2:=bc hb6 x2;replace x3:=bc hb6 x3;replace x4:=bc hb6 x4;clear hb6;clear x0 x1 x2 x3 x4;obtain ⟨ud,um,ul,hq,ho⟩:=HG6.out.ex;obtain ⟨Ed,n1,Em,n2,El,n3,rfl,rfl,rfl, -, -⟩:=ho.reads;have HO7:=As ho;have q0:=hq.c0;have q1:=hq.c1;have q2:=hq.c2;have q3:=hq.c3;have q4:=hq.c4;have hx2:=bj HX3.out HG6.out.bel;have HX7:=As HG6.out.bel;have hp:=HP2.out.up hx2;have HP7:=As hp;have y0:=hp.c0;have y1:=hp.c1;have y2:=hp.c2;have y3:=hp.c3;have y4:=hp.c4;have f0:=hp.frz 0;have f1:=hp.frz 1;have f2:=hp.frz 2;have f3:=hp.frz 3;have f4:=hp.frz 4;clear hp;clear hq ho hx2))
    have hz:=HZ2.out
    have hn3:=HX3.out.size
    have hy:=HP7.out.Az e (.slice Ed e.disk.length n1) (.slice Em e.mem.length n2) (.slice El e.log.length n3)
    have h1:=HO7.out.Az (f:=e) (xd:=.slice Ed e.disk.length n1) (xm:=.slice Em e.mem.length n2) (xl:=.slice El e.log.length n3) HP7.out
    have h2:=Ak (g:=w.heap.size + 1) (bj HB2.out (bj HX3.out HX7.out)) (by omega) e (.slice Ed e.disk.length n1) (.slice Em e.mem.length n2) (.slice El e.log.length n3)
    have z0:=hy.c0
    have z1:=hy.c1
    have z2:=hy.c2
    have z3:=hy.c3
    have z4:=hy.c4
    exact bodyPost_ret (v:=.tuple #[e.ag (.slice Ed e.disk.length n1) (.slice Em e.mem.length n2) (.slice El e.log.length n3), .bool false]) (by simp [results,Tryz.results140,go_sem,z0,z1,z2,z3,z4]) rfl ⟨_,_,_,rfl,h1.lower (by omega),h2⟩
  · have HM:=As hm
    clear hm
    cases b
    · rw [show Bp e (true && false) X = (e,false) by rw [Bp,if_neg (by simp)]]
      go_enter Tryz.func140,Tryz.ntmps140
      go_wp2_with (first
        | (go_at_call 36;rw [show (w.alloc (Obj.cells #[Value.slice Ad e.disk.length cd,Value.slice Am e.mem.length cm,Value.slice Al e.log.length cl,Value.int IntKind.i64 e.safe,Value.bool e.down] 28)).alloc (Obj.cells #[Value.slice none 0 0,Value.slice none 0 0,Value.slice none 0 0,Value.int IntKind.i64 0,Value.bool false] 28) = w2 from HW2.out];refine (AL (cd:=cd) (cm:=cm) HV.out hcl HB2.out HR.out).mono ?_;rintro x w3 ⟨rfl,hb3⟩;have HX3:=As hb3;replace x0:=bc hb3 x0;replace x1:=bc hb3 x1;replace x2:=bc hb3 x2;replace x3:=bc hb3 x3;replace x4:=bc hb3 x4;clear hb3)
        | (go_at_call 38;refine (AV (cd:=cd) (cm:=cm) (cl:=cl) (Ay HF.out.disk) (Ay HF.out.mem) HLG.out (bj HB2.out HX3.out) HR.out).mono ?_;rintro x w4 ⟨vd,vm,vl,rfl,ho,hb4⟩;obtain ⟨Bd,dd,Bm,dm,Bl,dl,rfl,rfl,rfl, -, -⟩:=ho.reads;have HO4:=As ho;have HX4:=As hb4;replace x0:=bc hb4 x0;replace x1:=bc hb4 x1;replace x2:=bc hb4 x2;replace x3:=bc hb4 x3;replace x4:=bc hb4 x4;clear ho hb4)
        | (refine Aw (vd:=.slice Bd e.disk.length dd) (vm:=.slice Bm e.mem.length dm) (vl:=.slice Bl e.log.length dl) e ?_;intro w5 hb5 _ hq5;have HG5 : Ac (BO w3 w5 w4.heap.size e):=⟨⟨⟨_,_,_,hq5,HO4.out.below hb5⟩,bj HX4.out hb5,HX4.out.size⟩⟩;replace x0:=bc hb5 x0;replace x1:=bc hb5 x1;replace x2:=bc hb5 x2;replace x3:=bc hb5 x3;replace x4:=bc hb5 x4;clear hb5 hq5)
        | (go_at_call 176;refine (Dq tx page HF.out.log HG5.out).mono ?_;rw [HM.out];rintro x w6 ⟨rfl,hb6⟩;have HG6:=As (HG5.out.up hb6);replace x0:=bc hb6 x0;replace x1:=bc hb6 x1;replace x2:=bc hb6 x2;replace x3:=bc hb6 x3;replace x4:=bc hb6 x4;clear hb6)
        | (go_at_call 139;refine (HH.out HM.out w3 w6 w4.heap.size (bj HB2.out HX3.out) HG6.out).mono ?_;rintro x w7 ⟨rfl,hb7⟩;have HG7:=As (HG6.out.up hb7);replace x0:=bc hb7 x0;replace x1:=bc hb7 x1;replace x2:=bc hb7 x2;replace x3:=bc hb7 x3;replace x4:=bc hb7 x4;clear hb7;clear x0 x1 x2 x3 x4;obtain ⟨ud,um,ul,hq,ho⟩:=HG7.out.ex;obtain ⟨Ed,n1,Em,n2,El,n3,rfl,rfl,rfl, -, -⟩:=ho.reads;have HO7:=As ho;have q0:=hq.c0;have q1:=hq.c1;have q2:=hq.c2;have q3:=hq.c3;have q4:=hq.c4;have hx2:=bj HX3.out HG7.out.bel;have HX7:=As HG7.out.bel;have hp:=HP2.out.up hx2;have HP7:=As hp;have y0:=hp.c0;have y1:=hp.c1;have y2:=hp.c2;have y3:=hp.c3;have y4:=hp.c4;have f0:=hp.frz 0;have f1:=hp.frz 1;have f2:=hp.frz 2;have f3:=hp.frz 3;have f4:=hp.frz 4;clear hp;clear hq ho hx2))
      have hz:=HZ2.out
      have hn3:=HX3.out.size
      have hy:=HP7.out.Az e (.slice Ed e.disk.length n1) (.slice Em e.mem.length n2) (.slice El e.log.length n3)
      have h1:=HO7.out.Az (f:=e) (xd:=.slice Ed e.disk.length n1) (xm:=.slice Em e.mem.length n2) (xl:=.slice El e.log.length n3) HP7.out
      have h2:=Ak (g:=w.heap.size + 1) (bj HB2.out (bj HX3.out HX7.out)) (by omega) e (.slice Ed e.disk.length n1) (.slice Em e.mem.length n2) (.slice El e.log.length n3)
      have z0:=hy.c0
      have z1:=hy.c1
      have z2:=hy.c2
      have z3:=hy.c3
      have z4:=hy.c4
      exact bodyPost_ret (v:=.tuple #[e.ag (.slice Ed e.disk.length n1) (.slice Em e.mem.length n2) (.slice El e.log.length n3), .bool false]) (by simp [results,Tryz.results140,go_sem,z0,z1,z2,z3,z4]) rfl ⟨_,_,_,rfl,h1.lower (by omega),h2⟩
    · cases hfx : Iw X.log
      all_goals have HFX:=As hfx;have HWW:=As (HW.out HM.out rfl);have HLL:=As (HLX.out HM.out rfl);clear HW HLX
      · rw [show Bp e (true && true) X = (e,false) by rw [Bp,if_neg (by rw [hfx];simp)]]
        clear hfx
        go_enter Tryz.func140,Tryz.ntmps140
        go_wp2_with (first
          | (go_at_call 36;rw [show (w.alloc (Obj.cells #[Value.slice Ad e.disk.length cd,Value.slice Am e.mem.length cm,Value.slice Al e.log.length cl,Value.int IntKind.i64 e.safe,Value.bool e.down] 28)).alloc (Obj.cells #[Value.slice none 0 0,Value.slice none 0 0,Value.slice none 0 0,Value.int IntKind.i64 0,Value.bool false] 28) = w2 from HW2.out];refine (AL (cd:=cd) (cm:=cm) HV.out hcl HB2.out HR.out).mono ?_;rintro x w3 ⟨rfl,hb3⟩;have HX3:=As hb3;replace x0:=bc hb3 x0;replace x1:=bc hb3 x1;replace x2:=bc hb3 x2;replace x3:=bc hb3 x3;replace x4:=bc hb3 x4;clear hb3)
          | (go_at_call 38;refine (AV (cd:=cd) (cm:=cm) (cl:=cl) (Ay HF.out.disk) (Ay HF.out.mem) HLG.out (bj HB2.out HX3.out) HR.out).mono ?_;rintro x w4 ⟨vd,vm,vl,rfl,ho,hb4⟩;obtain ⟨Bd,dd,Bm,dm,Bl,dl,rfl,rfl,rfl, -, -⟩:=ho.reads;have HO4:=As ho;have HX4:=As hb4;replace x0:=bc hb4 x0;replace x1:=bc hb4 x1;replace x2:=bc hb4 x2;replace x3:=bc hb4 x3;replace x4:=bc hb4 x4;clear ho hb4)
          | (refine Aw (vd:=.slice Bd e.disk.length dd) (vm:=.slice Bm e.mem.length dm) (vl:=.slice Bl e.log.length dl) e ?_;intro w5 hb5 _ hq5;have HG5 : Ac (BO w3 w5 w4.heap.size e):=⟨⟨⟨_,_,_,hq5,HO4.out.below hb5⟩,bj HX4.out hb5,HX4.out.size⟩⟩;replace x0:=bc hb5 x0;replace x1:=bc hb5 x1;replace x2:=bc hb5 x2;replace x3:=bc hb5 x3;replace x4:=bc hb5 x4;clear hb5 hq5)
          | (go_at_call 176;refine (Dq tx page HF.out.log HG5.out).mono ?_;rw [HM.out];rintro x w6 ⟨rfl,hb6⟩;have HG6:=As (HG5.out.up hb6);replace x0:=bc hb6 x0;replace x1:=bc hb6 x1;replace x2:=bc hb6 x2;replace x3:=bc hb6 x3;replace x4:=bc hb6 x4;clear hb6)
          | (go_at_call 139;refine (HH.out HM.out w3 w6 w4.heap.size (bj HB2.out HX3.out) HG6.out).mono ?_;rintro x w7 ⟨rfl,hb7⟩;have HG7:=As (HG6.out.up hb7);replace x0:=bc hb7 x0;replace x1:=bc hb7 x1;replace x2:=bc hb7 x2;replace x3:=bc hb7 x3;replace x4:=bc hb7 x4;clear hb7)
          | (go_at_call 141;refine (HWW.out w3 w7 w4.heap.size (bj HB2.out HX3.out) HG7.out).mono ?_;rintro x w8 ⟨⟨v,rfl⟩,hg8⟩;obtain ⟨ud,um,ul,hq,ho⟩:=hg8.ex;obtain ⟨Ed,n1,Em,n2,El,n3,rfl,rfl,rfl, -,hc⟩:=ho.reads;have HO8:=As ho;have HC8:=As hc;have HX8:=As hg8.bel;have q0:=hq.c0;have q1:=hq.c1;have q2:=hq.c2;have q3:=hq.c3;have q4:=hq.c4;clear x0 x1 x2 x3 x4;have hq2:=HQ2.out.up (bj HX3.out hg8.bel);have x0:=hq2.c0;have x1:=hq2.c1;have x2:=hq2.c2;have x3:=hq2.c3;have x4:=hq2.c4;clear hq ho hc hq2 hg8)
          | (go_at_call 78;refine (E5 (w0:=w8) (c:=n3) (Below.refl _ _) HC8.out.l HLL.out).mono ?_;rw [HFX.out];rintro x w9 ⟨rfl,hb9⟩;replace x0:=bc hb9 x0;replace x1:=bc hb9 x1;replace x2:=bc hb9 x2;replace x3:=bc hb9 x3;replace x4:=bc hb9 x4;have HX9:=As (bj HX8.out hb9);clear q0 q1 q2 q3 q4 hb9)
          | (go_at_call 38;refine (AV (cd:=cd) (cm:=cm) (cl:=cl) (Ay HF.out.disk) (Ay HF.out.mem) HLG.out (bj HB2.out (bj HX3.out HX9.out)) HR.out).mono ?_;rintro x w10 ⟨vd,vm,vl,rfl,ho,hb10⟩;obtain ⟨Ed,n1,Em,n2,El,n3,rfl,rfl,rfl, -, -⟩:=ho.reads;have HO7:=As (ho.lower (b':=w3.heap.size) HX9.out.size);have HX7:=As (bj HX9.out hb10);clear x0 x1 x2 x3 x4 ho hb10;have hp:=HP2.out.up (bj HX3.out HX7.out);have HP7:=As hp;have y0:=hp.c0;have y1:=hp.c1;have y2:=hp.c2;have y3:=hp.c3;have y4:=hp.c4;have f0:=hp.frz 0;have f1:=hp.frz 1;have f2:=hp.frz 2;have f3:=hp.frz 3;have f4:=hp.frz 4;clear hp))
        have hz:=HZ2.out
        have hn3:=HX3.out.size
        have hy:=HP7.out.Az e (.slice Ed e.disk.length n1) (.slice Em e.mem.length n2) (.slice El e.log.length n3)
        have h1:=HO7.out.Az (f:=e) (xd:=.slice Ed e.disk.length n1) (xm:=.slice Em e.mem.length n2) (xl:=.slice El e.log.length n3) HP7.out
        have h2:=Ak (g:=w.heap.size + 1) (bj HB2.out (bj HX3.out HX7.out)) (by omega) e (.slice Ed e.disk.length n1) (.slice Em e.mem.length n2) (.slice El e.log.length n3)
        have z0:=hy.c0
        have z1:=hy.c1
        have z2:=hy.c2
        have z3:=hy.c3
        have z4:=hy.c4
        exact bodyPost_ret (v:=.tuple #[e.ag (.slice Ed e.disk.length n1) (.slice Em e.mem.length n2) (.slice El e.log.length n3), .bool false]) (by simp [results,Tryz.results140,go_sem,z0,z1,z2,z3,z4]) rfl ⟨_,_,_,rfl,h1.lower (by omega),h2⟩
      · rw [show Bp e (true && true) X = (X,true) by rw [Bp,if_pos ⟨rfl,hfx⟩]]
        clear hfx
        go_enter Tryz.func140,Tryz.ntmps140
        go_wp2_with (first
          | (go_at_call 36;rw [show (w.alloc (Obj.cells #[Value.slice Ad e.disk.length cd,Value.slice Am e.mem.length cm,Value.slice Al e.log.length cl,Value.int IntKind.i64 e.safe,Value.bool e.down] 28)).alloc (Obj.cells #[Value.slice none 0 0,Value.slice none 0 0,Value.slice none 0 0,Value.int IntKind.i64 0,Value.bool false] 28) = w2 from HW2.out];refine (AL (cd:=cd) (cm:=cm) HV.out hcl HB2.out HR.out).mono ?_;rintro x w3 ⟨rfl,hb3⟩;have HX3:=As hb3;replace x0:=bc hb3 x0;replace x1:=bc hb3 x1;replace x2:=bc hb3 x2;replace x3:=bc hb3 x3;replace x4:=bc hb3 x4;clear hb3)
          | (go_at_call 38;refine (AV (cd:=cd) (cm:=cm) (cl:=cl) (Ay HF.out.disk) (Ay HF.out.mem) HLG.out (bj HB2.out HX3.out) HR.out).mono ?_;rintro x w4 ⟨vd,vm,vl,rfl,ho,hb4⟩;obtain ⟨Bd,dd,Bm,dm,Bl,dl,rfl,rfl,rfl, -, -⟩:=ho.reads;have HO4:=As ho;have HX4:=As hb4;replace x0:=bc hb4 x0;replace x1:=bc hb4 x1;replace x2:=bc hb4 x2;replace x3:=bc hb4 x3;replace x4:=bc hb4 x4;clear ho hb4)
          | (refine Aw (vd:=.slice Bd e.disk.length dd) (vm:=.slice Bm e.mem.length dm) (vl:=.slice Bl e.log.length dl) e ?_;intro w5 hb5 _ hq5;have HG5 : Ac (BO w3 w5 w4.heap.size e):=⟨⟨⟨_,_,_,hq5,HO4.out.below hb5⟩,bj HX4.out hb5,HX4.out.size⟩⟩;replace x0:=bc hb5 x0;replace x1:=bc hb5 x1;replace x2:=bc hb5 x2;replace x3:=bc hb5 x3;replace x4:=bc hb5 x4;clear hb5 hq5)
          | (go_at_call 176;refine (Dq tx page HF.out.log HG5.out).mono ?_;rw [HM.out];rintro x w6 ⟨rfl,hb6⟩;have HG6:=As (HG5.out.up hb6);replace x0:=bc hb6 x0;replace x1:=bc hb6 x1;replace x2:=bc hb6 x2;replace x3:=bc hb6 x3;replace x4:=bc hb6 x4;clear hb6)
          | (go_at_call 139;refine (HH.out HM.out w3 w6 w4.heap.size (bj HB2.out HX3.out) HG6.out).mono ?_;rintro x w7 ⟨rfl,hb7⟩;have HG7:=As (HG6.out.up hb7);replace x0:=bc hb7 x0;replace x1:=bc hb7 x1;replace x2:=bc hb7 x2;replace x3:=bc hb7 x3;replace x4:=bc hb7 x4;clear hb7)
          | (go_at_call 141;refine (HWW.out w3 w7 w4.heap.size (bj HB2.out HX3.out) HG7.out).mono ?_;rintro x w8 ⟨⟨v,rfl⟩,hg8⟩;obtain ⟨ud,um,ul,hq,ho⟩:=hg8.ex;obtain ⟨Ed,n1,Em,n2,El,n3,rfl,rfl,rfl, -,hc⟩:=ho.reads;have HO8:=As ho;have HC8:=As hc;have HX8:=As hg8.bel;have q0:=hq.c0;have q1:=hq.c1;have q2:=hq.c2;have q3:=hq.c3;have q4:=hq.c4;clear x0 x1 x2 x3 x4;have hq2:=HQ2.out.up (bj HX3.out hg8.bel);have x0:=hq2.c0;have x1:=hq2.c1;have x2:=hq2.c2;have x3:=hq2.c3;have x4:=hq2.c4;clear hq ho hc hq2 hg8)
          | (go_at_call 78;refine (E5 (w0:=w8) (c:=n3) (Below.refl _ _) HC8.out.l HLL.out).mono ?_;rw [HFX.out];rintro x w9 ⟨rfl,hb9⟩;replace q0:=bc hb9 q0;replace q1:=bc hb9 q1;replace q2:=bc hb9 q2;replace q3:=bc hb9 q3;replace q4:=bc hb9 q4;clear x0 x1 x2 x3 x4;have HX7:=As (bj HX8.out hb9);have HO7:=As (HO8.out.below hb9);have hp:=HP2.out.up (bj HX3.out HX7.out);have HP7:=As hp;have y0:=hp.c0;have y1:=hp.c1;have y2:=hp.c2;have y3:=hp.c3;have y4:=hp.c4;have f0:=hp.frz 0;have f1:=hp.frz 1;have f2:=hp.frz 2;have f3:=hp.frz 3;have f4:=hp.frz 4;clear hp;clear hb9))
        have hz:=HZ2.out
        have hn3:=HX3.out.size
        have hy:=HP7.out.Az X (.slice Ed X.disk.length n1) (.slice Em X.mem.length n2) (.slice El X.log.length n3)
        have h1:=HO7.out.Az (f:=X) (xd:=.slice Ed X.disk.length n1) (xm:=.slice Em X.mem.length n2) (xl:=.slice El X.log.length n3) HP7.out
        have h2:=Ak (g:=w.heap.size + 1) (bj HB2.out (bj HX3.out HX7.out)) (by omega) X (.slice Ed X.disk.length n1) (.slice Em X.mem.length n2) (.slice El X.log.length n3)
        have z0:=hy.c0
        have z1:=hy.c1
        have z2:=hy.c2
        have z3:=hy.c3
        have z4:=hy.c4
        exact bodyPost_ret (v:=.tuple #[X.ag (.slice Ed X.disk.length n1) (.slice Em X.mem.length n2) (.slice El X.log.length n3), .bool true]) (by simp [results,Tryz.results140,go_sem,z0,z1,z2,z3,z4]) rfl ⟨_,_,_,rfl,h1.lower (by omega),h2⟩
open Go.RowKit Go.Proofs.YtpjmlpmhgfghbaaGreatW.PrintWords Go.Proofs.YtpjmlpmhgfghbaaGreatW.PrintLast
section
variable {P : Program} {ops : Array Oper} {Q : Exit → Act → World → Prop} {md : Region.Mode} {S : Array Bool → Act → World → Prop} {m : Nat}
theorem NY {i k : Nat} {oi : Oper} {v : Value} {T : List Nat} (hm : Tail md ops m) (him : i < m) (hi : ops[i]? = some oi) (hk : Keeps S i oi.dst) (hsel : ∀ (j : Nat) (o : Oper) cs b,ops[j]? = some o → o.op ≠ .select cs b)
    (hQ : ∀ c a w,Q (.panic c) (a.put oi.dst v) w → Q (.panic c) a w) (hT : ∀ t ∈ T, ∀ o,ops[t]? = some o → ∃ e ∈ o.after,Region.binds md e = true ∧ (e.on = i ∨ e.on ∈ T)) (hkT : k ∈ T) :
    ∀ (fuel : Nat) (listed : Array Bool) (a : Act),
      (∀ j oj,ops[j]? = some oj → j ≠ i → listed.getD j true = false → (∀ e ∈ oj.after,Region.binds md e = true → e.on ≠ i) → oi.apart ops oj = true) →
      i ∈ Region.ready md ops listed → (∀ t ∈ T,listed.getD t true = false) → LH P ops (fun l a w => S l a w ∧ l.getD k true = false) oi v a →
      Kr P md ops Q S m fuel (listed.setIfInBounds i true) (a.put oi.dst v) → Kr P md ops Q S m (fuel + 1) listed a:=by
  intro fuel
  induction fuel with
  | zero =>
    intro listed a _ hr hl hy H
    refine ⟨fun h => (by rw [h] at hr;cases hr),fun j hj w hS => ?_⟩
    by_cases hji : j = i
    · subst hji;exact hy.wpOp hi ⟨hS,hl k hkT⟩ (fun w' h' => .inl ⟨(hk _ a v w').2 h'.1,H⟩)
    · have:=ready_mono hj hji
      rw [H.1] at this
      cases this
  | succ fuel ih =>
    intro listed a hfree hr hl hy H
    refine ⟨fun h => (by rw [h] at hr;cases hr),fun j hj w hS => ?_⟩
    by_cases hji : j = i
    · subst hji;exact hy.wpOp hi ⟨hS,hl k hkT⟩ (fun w' h' => .inl ⟨(hk _ a v w').2 h'.1,H⟩)
    · have hjm : j < m:=Nat.lt_of_not_le fun e => hm listed j e hj i hr him
      have h1:=H.2 j (ready_mono hj hji) w ((hk _ a v w).2 hS)
      obtain ⟨hjun,oj,hoj,hall⟩:=mem_ready.1 hj
      have hun : ∀ t,listed.getD t true = false → ∀ e ∈ oj.after,Region.binds md e = true → e.on ≠ t:=fun t h0 e he hb heq => by
        have h1:=hall e he hb
        rw [heq] at h1
        rcases Nat.lt_or_ge t listed.size with h' | h'
        · simp [h'] at h0 h1;rw [h0] at h1;cases h1
        · simp [Array.getElem?_eq_none h'] at h1
      have hnot:=hun i (mem_ready.1 hr).1
      have hjT : j ∉ T:=fun hjT => by
        obtain ⟨e,he,hb,h2⟩:=hT j hjT oj hoj
        rcases h2 with h2 | h2
        · exact hnot e he hb h2
        · exact hun e.on (hl _ h2) e he hb rfl
      have h2:=Oo hoj (hfree j oj hoj hji hjun hnot) (fun cs b => hsel i oi cs b hi) (fun cs b => hsel j oj cs b hoj) hQ hy h1
      have hfree' : ∀ k ok,ops[k]? = some ok → k ≠ i → (listed.setIfInBounds j true).getD k true = false →
          (∀ e ∈ ok.after,Region.binds md e = true → e.on ≠ i) → oi.apart ops ok = true:=fun k ok hk hki hun hno => by
        refine hfree k ok hk hki ?_ hno
        by_cases hjk : j = k
        · subst hjk;exact hjun
        · rw [getD_set_ne true hjk] at hun;exact hun
      have hl' : ∀ t ∈ T,(listed.setIfInBounds j true).getD t true = false:=fun t ht => by
        have hne : j ≠ t:=fun e => hjT (e ▸ ht)
        rw [getD_set_ne true hne]
        exact hl t ht
      refine wpOp_mono (fun a' w' h3 => ?_) h2
      rcases h3.2 with h4 | h4
      · rw [Array.setIfInBounds_comm _ _ (Ne.symm hji)] at h4
        exact .inl ⟨(hk _ a' v w').1 h4.1,ih (listed.setIfInBounds j true) a' hfree' (ready_mono hr (Ne.symm hji)) hl' h3.1 h4.2⟩
      · exact absurd h4.1 (by omega)
def SG (ops : Array Oper) (i k : Nat) : List Nat:=(List.range (k + 1)).foldl (fun T j => match ops[j]? with
  | none => T
  | some o => if (o.after.any fun e => Region.binds .any e && (e.on == i || T.contains e.on)) = true then j :: T else T) []
def UE (ops : Array Oper) (done : List Nat) (i k : Nat) : Bool:=(SG ops i k).contains k && (SG ops i k).all fun t => decide (t < ops.size) && (!done.contains t) && match ops[t]? with
  | none => false
  | some o => o.after.any fun e => Region.binds .any e && (e.on == i || (SG ops i k).contains e.on)
variable {i d : Nat} {o : Oper} {v : Value} {L : List Value} {D : List Deferred} {done : List Nat}
theorem Aq (k : Nat) (ht : Ac (Ju ops m = true)) (hi : ops.toList[i]? = some o) (hok : FN ops m done i = true) (hlate : UE ops done i k = true) (hd : o.dst = some d) (hk : Keeps S i (some d)) (hw : Region.wanted o (yielded ops L.toArray) = true)
    (hQ : ∀ c a w,Q (.panic c) (a.put o.dst v) w → Q (.panic c) a w) (hr : ∀ l a w,l.getD k false = false → S l a w → (execOp (Act.eval ⟨L.toArray,D⟩) o).run P w = .ok (.value v) w) (h : Reg P ops Q S m (i :: done) ⟨(L.set d v).toArray,D⟩) : Reg P ops Q S m done ⟨L.toArray,D⟩:=by
  refine ⟨?_⟩
  have hi' : ops[i]? = some o:=by rw [← Array.getElem?_toList];exact hi
  simp only [FN,Bool.and_eq_true,decide_eq_true_eq] at hok
  obtain ⟨⟨⟨hf,hr0⟩,hl⟩,hm⟩:=hok
  simp only [UE,Bool.and_eq_true,List.contains_iff_mem,List.all_eq_true] at hlate
  obtain ⟨hkT,hall⟩:=hlate
  have hs:=(Bool.and_eq_true_iff.1 ht.out).1
  have h1:=h.out
  rw [List.length_cons, ← Il] at h1
  rw [show ops.size - done.length = (ops.size - (done.length + 1)) + 1 by omega]
  refine NY (T:=SG ops i k) (k:=k) (v:=v) (Np ht.out) hm hi' (by rw [hd];exact hk) (Region.noSelect_spec hs) hQ (fun t h2 o2 ho2 => ?_) hkT _ _ _ (Region.free_spec hi' hf) (by simpa using hr0) (fun t h2 => ?_) (.inl ⟨hw,fun l a w hS => ?_⟩) (by rw [hd,Co];exact h1)
  · have h3:=hall t h2
    rw [ho2] at h3
    obtain ⟨e,he,h4⟩:=Array.any_eq_true'.1 h3.2
    simp only [Bool.and_eq_true,Bool.or_eq_true,beq_iff_eq,List.contains_iff_mem] at h4
    exact ⟨e,he,h4.1,h4.2⟩
  · have h3:=hall t h2
    have h5 : t < ops.size:=by simpa using h3.1.1
    have h6 : t ∉ done:=by simpa using h3.1.2
    simp [lsd,Array.getD,h5,h6]
  · have hkf : l.getD k false = false:=by
      have h3:=hS.2
      rcases Nat.lt_or_ge k l.size with h' | h'
      · simp [Array.getD,h'] at h3 ⊢;exact h3
      · simp [Array.getD,Nat.not_lt.2 h'] at h3
    rw [hr l a w hkf hS.1]
    exact ⟨rfl,hS⟩
end
end Go.Proofs.YtpjmlpmhgfghbaaGreat
namespace Go.Proofs.YtpjmlpmhgfghbaaGreat
open Go.RowKit Go.Proofs.YtpjmlpmhgfghbaaGreatW.PrintWords Go.Proofs.YtpjmlpmhgfghbaaGreatW.PrintLast Go.Proofs.YtpjmlpmhgfghbaaGreatW.PrintMore
def Ci (w : World) (g : Nat) (v : Value) (t : Nat) : Prop:=w.heap[g]? = some (.cells #[v] t (0,0))
theorem Ci.c0 {w : World} {g t : Nat} {v : Value} (h : Ci w g v t) : w.cell? ⟨g,0,none⟩ = some v:=by unfold Ci at h;simp [World.cell?,h]
theorem Ci.frz {w : World} {g t : Nat} {v : Value} (h : Ci w g v t) (k : Nat) : w.frozen? ⟨g,k,none⟩ = false:=by unfold Ci at h;simp [World.frozen?,h]
theorem Ci.lt {w : World} {g t : Nat} {v : Value} (h : Ci w g v t) : g < w.heap.size:=(Array.getElem?_eq_some_iff.1 h).1
theorem Ci.up {w w1 : World} {g t : Nat} {v : Value} (h : Ci w g v t) (hb : Below w.heap.size w w1) : Ci w1 g v t:=(hb.block g h.lt).trans h
theorem Ci.mk1 (w : World) (v : Value) (t : Nat) : Ci (w.alloc (.cells #[v] t)) w.heap.size v t:=by
  show (w.heap.push _)[w.heap.size]? = _
  simp
theorem Dn {P : Program} {ops : Array Oper} {l : List Oper} {Q : Exit → Act → World → Prop} {a : Act} {w : World} {t : Nat} (v : Value) (h : ∀ w1,Below w.heap.size w w1 → w1.heap.size = w.heap.size + 1 → Ci w1 w.heap.size v t → wpList P ops Q l a w1) : wpList P ops Q l a (w.alloc (.cells #[v] t)):=h _ ((Below.refl _ _).alloc (Nat.le_refl _) _) (BA _ _) (Ci.mk1 _ _ _)
def Ys (i : Nat) (p : World → Prop) (l : Array Bool) (_a : Act) (w : World) : Prop:=l.getD i false = true → p w
theorem Au {j i : Nat} {d : Option Nat} {p : World → Prop} (h : (j == i) = false) : Keeps (Ys i p) j d:=fun l a v w => by
  have h : j ≠ i:=by simpa using h
  rw [Ys,Ys,getD_set_ne false h]
theorem Gx {n i : Nat} {p : World → Prop} {a : Act} {w : World} : Ys i p (lsd n []) a w:=fun h => by
  rw [JQ] at h
  simp [Array.getD] at h
theorem Fw {w : World} {g gm b : Nat} {q : Eng} {ud um ul : Value} {ok : Nat → Prop} {n cap : Nat} {ps : List Page} (h : Ai w g q ud um ul) (hp : CB w b ok (.slice (some ⟨gm,0,none⟩) n cap) ps) : g ≠ gm:=fun e => by
  obtain ⟨cells,hc⟩:=Kd.EU hp gm (by simp [Value.ownBlock])
  have h1 : w.heap[g]? = _:=h
  rw [e,hc] at h1
  injection h1 with h1
  injection h1 with _ h2
  exact absurd h2 (by decide)
theorem AU.OX {w w1 : World} {base N : Nat} {vd vl u : Value} {e : Eng} {q : Page} {p g n cap : Nat} {okd okm : Nat → Prop} (hap : ∀ k,okd k → okm k → False) (hd : CB w base (fun k => okd k ∧ k < N) vd e.disk) (hl : OwnRs w base vl e.log) (hu : AR w N u q.vals)
    (hm : CB w1 base (fun k => okm k ∨ some k = u.ownBlock) (.slice (some ⟨g,0,none⟩) n cap) (e.mem.set p q)) (hmg : okm g) (hg : w.grownBy w1 (some g)) (hty : ∃ cells,w.heap[g]? = some (.cells cells 81 (0,0))) : AU w1 base vd (.slice (some ⟨g,0,none⟩) n cap) vl { e with mem:=e.mem.set p q }:=by
  refine ⟨⟨fun k => okd k ∧ k < N,fun k => okm k ∨ some k = u.ownBlock,fun k h1 h2 => ?_,Kd.Tg hd hg (fun k hk e2 => ?_),hm⟩,?_⟩
  · rcases h2 with h2 | h2
    · exact hap k h1.1 h2
    · have:=Cc hu k h2.symm;omega
  · injection e2 with e2
    subst e2
    exact hap k hk.1 hmg
  · refine Kd.Ej (Kd.PI (e':=81) (v:=.slice (some ⟨g,0,none⟩) n cap) hl (fun k hk => ?_) (fun q hq => ?_) hg) (fun _ _ => trivial)
    · simp only [Value.ownBlock,Option.some.injEq] at hk
      subst hk
      exact hty
    · have : q = 98:=by simpa [C8,Kd.iso,Kd.pair,Kd.int,Kd.scalar] using hq
      rw [this];decide
theorem TK {w : World} {b g : Nat} {v u : Value} {xs : List Int} {p : Page} (h : AR w b v xs) (hp : AY w g p u) : ∀ k,v.ownBlock = some k → k ≠ g:=fun k hk e => by
  obtain ⟨cells,hc⟩:=Df h k hk
  have h1 : w.heap[g]? = _:=hp
  rw [← e,hc] at h1
  injection h1 with h1
  injection h1 with _ h2
  exact absurd h2 (by decide)
theorem AR.WS {w : World} {b g : Nat} {v : Value} {xs : List Int} (h : AR w b v xs) (hg : ∀ k,v.ownBlock = some k → k ≠ g) (p : Page) (u : Value) : AR (Go.Proofs.YtpjmlpmhgfghbaaGreat.Cu w g p u) b v xs:=((h.far hg _ _).far hg _ _).far hg _ _
set_option maxRecDepth 100000 in
set_option maxHeartbeats 16000000 in
theorem JI {w0 w : World} {g : Nat} {e : Eng} (r : Rec) (hl : e.log.length + 1 ≤ 150) (hgm : geo e.mem) (hp : 0 ≤ r.page ∧ r.page < 5) (hdo : Ff (pg e.mem r.page.toNat) (Dj r (Ao e.log r.tx e.log.length)) (e.log.length + 1 : Nat) = true) (h : BO w0 w g e) : Calls Tryz.prog 109 #[ptr g,r.val] w (Hy w0 g (e.app r)):=by
  obtain ⟨⟨vd,vm,vl,hq,ho⟩,hb,hg⟩:=h
  obtain ⟨p,hpp⟩ : ∃ p : Nat,r.page = (p : Int):=⟨r.page.toNat,by omega⟩
  obtain ⟨r1,hr1⟩ : ∃ r1,Dj r (Ao e.log r.tx e.log.length) = r1:=⟨_,rfl⟩
  rw [hr1,hpp,Int.toNat_natCast] at hdo
  have hp5 : p < 5:=by omega
  obtain ⟨q,hqq⟩ : ∃ q,doR (pg e.mem p) r1 (e.log.length + 1 : Nat) = q:=⟨_,rfl⟩
  obtain ⟨l1,hl1⟩ : ∃ l1,e.log ++ [r1] = l1:=⟨_,rfl⟩
  have hll : l1.length = e.log.length + 1:=by rw [← hl1];simp
  have hrc : rc l1 e.log.length = r1:=by rw [← hl1];simp [rc,List.getD_eq_getElem?_getD]
  have hchg : Cx r.kind = true:=by
    simp only [Ff,Bool.and_eq_true] at hdo
    have:=hdo.2.2.1
    rw [← hr1] at this
    exact this
  have hE : e.app r = { e with mem:=e.mem.set p q,log:=l1 }:=by
    unfold Eng.app
    rw [if_pos hchg,show r.page.toNat = p by omega, ← hqq, ← hl1, ← hr1]
    rfl
  have HE:=As hE
  have HDO:=As hdo
  have HL:=As hl
  have HG:=As hg
  have HGM:=As hgm
  have HQQ:=As hqq
  have HRC:=As hrc
  have HLL:=As hll
  have HL1:=As hl1
  have HR1:=As hr1
  have HPP:=As hpp
  obtain ⟨w1,hw1⟩ : ∃ w1,w.alloc r.box = w1:=⟨_,rfl⟩
  have hb1 : Below w.heap.size w w1:=by rw [← hw1];exact Ah (Below.refl _ _) _
  have HW1:=As hw1
  have HRB1 : Ac (Db w1 w.heap.size r):=⟨by rw [← hw1];exact Db.mk1 _ _⟩
  have HO1:=As (ho.below hb1)
  have HQ1:=As (hq.up hb1)
  have HB1:=As (bj hb hb1)
  have HGL:=As hq.lt
  have HVL:=As (fun k hk => Kd.U7 ho.l k hk)
  have HBS:=As hb.size
  have r0:=HRB1.out.at.c0
  clear hdo hl hg hgm hqq hl1 hr1 hrc hll hchg hE hw1 hb1 hq ho hb hpp
  go_enter Tryz.func109,Tryz.ntmps109
  go_wp2_with (go_at_call 111;go_loud (rw [HW1.out]);go_loud (refine (K3 r (by have:=HL.out;omega) HB1.out HG.out HQ1.out HO1.out).mono ?_);go_loud (rw [HR1.out]);go_loud (rw [HL1.out]);rintro x w2 ⟨vl2,rfl,hq2,ho2,hb2,hk2⟩;have HQ2:=As hq2;have HO2:=As ho2;have HB2:=As hb2;have HRB2 : Ac (Db w2 w.heap.size r):=⟨(hk2.2 _ HRB1.out.lt (fun hx => hx.elim (fun hx => by have:=HGL.out;omega) (fun hx => by have:=HVL.out _ hx.symm;omega))).trans HRB1.out⟩;clear hq2 ho2 hb2 hk2)
  have hgm5:=HGM.out.1
  obtain ⟨Ad,cd,Am,cm,Al,cl,hvd,hvm,hvl, -,hrd⟩:=HO2.out.reads
  obtain ⟨okd,okm,hap,hpd,hpm⟩:=HO2.out.ex
  obtain ⟨gm,capm,hfm, -,hgml⟩:=Cq hpm (by show 0 < e.mem.length;omega)
  subst hvd hvl hfm
  have hpl : p < e.mem.length:=by omega
  have hp5i : (p : Int) < 5:=by omega
  have hl1l : e.log.length < l1.length:=by have:=HLL.out;omega
  obtain ⟨A2,c2,p0,p1,p2,pC, -⟩:=DC hpm p hpl
  obtain ⟨adl,hal,QR⟩:=Cb hrd.l e.log.length hl1l
  subst hal
  rw [HRC.out] at QR
  obtain ⟨l0,l1',l2,l3,l4,l5,l6,l7⟩:=QR
  have x1:=HQ2.out.c1
  have x2:=HQ2.out.c2
  have z2:=HRB2.out.at.c2
  simp only [Nat.zero_add] at z2
  rw [HPP.out] at z2
  have HPC:=As pC
  have HPD:=As hpd
  have HPM:=As hpm
  have HAP:=As hap
  have HRD:=As hrd.l
  have hl0:=HL.out
  have hwr0 : IntKind.i64.wrap (e.log.length : Int) = (e.log.length : Int):=by simp (disch:=omega) only [IntWalk.i64_in]
  have hwr1 : IntKind.i64.wrap ((e.log.length : Int) + 1 - 1) = (e.log.length : Int):=by rw [show ((e.log.length : Int) + 1 - 1) = (e.log.length : Int) by omega];exact hwr0
  have HGM2 : Ac (gm < w2.heap.size):=⟨hgml⟩
  clear hvm pC hpd hpm hap hrd hgml hp
  have HCR : Ac (∀ wx,Below w2.heap.size w2 wx → Calls Tryz.prog 166 #[(pg e.mem p).val A2 c2,r1.val, .int .i64 ((e.log.length : Int) + 1)] wx (VS wx q)):=⟨fun wx hb => by
    have:=R3 (c:=c2) (n:=(e.log.length : Int) + 1) (by have:=HDO.out;simpa using this) hb HPC.out
    rwa [show doR (pg e.mem p) r1 ((e.log.length : Int) + 1) = q by have:=HQQ.out;simpa using this] at this⟩
  refine AX (fun lx a wx => Below w2.heap.size w2 wx ∧ (Sl 17 28 (fun v wx => ∃ u,v = .tuple #[q.own u, .bool true] ∧ AR wx w2.heap.size u q.vals) lx a wx ∧ (Pre 22 21 5 (fun _ => True) (fun v wx => ∃ B,v = ptr B ∧ w2.heap.size ≤ B ∧ AY wx B zp (.slice none 0 0)) lx a wx ∧ Sl 22 5 (fun v wx => ∃ B u,v = ptr B ∧ w2.heap.size ≤ B ∧ AY wx B q u ∧ AR wx w2.heap.size u q.vals) lx a wx))) 24 rfl (by kernel_rfl) (⟨Aj (Below.refl _ _),AZ,F7 trivial,AZ⟩) (fun HT => ?_)
  refine Ae (i:=0) (v:=?_) HT rfl (by kernel_rfl) rfl (kA Aa (kA (Ab rfl rfl) (kA (Ap rfl rfl rfl) (Ab rfl rfl)))) (by rfl) (fun _ _ _ h => h) (fun lx ax wx hS => ?_) ?_;rotate_left;(have hbx:=hS.1;clear hS;replace x1:=bc hbx x1;replace x2:=bc hbx x2;replace z2:=bc hbx z2;replace p0:=bc hbx p0;replace p1:=bc hbx p1;replace p2:=bc hbx p2;replace l0:=bc hbx l0;replace l1':=bc hbx l1';replace l2:=bc hbx l2;replace l3:=bc hbx l3;replace l4:=bc hbx l4;replace l5:=bc hbx l5;replace l6:=bc hbx l6;replace l7:=bc hbx l7;go_simp;with_reducible rfl);rotate_left;simp only [sc0,sc1]
  refine Ae (i:=1) (v:=?_) HT rfl (by kernel_rfl) rfl (kA Aa (kA (Ab rfl rfl) (kA (Ap rfl rfl rfl) (Ab rfl rfl)))) (by rfl) (fun _ _ _ h => h) (fun lx ax wx hS => ?_) ?_;rotate_left;(have hbx:=hS.1;clear hS;replace x1:=bc hbx x1;replace x2:=bc hbx x2;replace z2:=bc hbx z2;replace p0:=bc hbx p0;replace p1:=bc hbx p1;replace p2:=bc hbx p2;replace l0:=bc hbx l0;replace l1':=bc hbx l1';replace l2:=bc hbx l2;replace l3:=bc hbx l3;replace l4:=bc hbx l4;replace l5:=bc hbx l5;replace l6:=bc hbx l6;replace l7:=bc hbx l7;go_simp;with_reducible rfl);rotate_left;simp only [sc0,sc1]
  refine Ae (i:=2) (v:=?_) HT rfl (by kernel_rfl) rfl (kA Aa (kA (Ab rfl rfl) (kA (Ap rfl rfl rfl) (Ab rfl rfl)))) (by rfl) (fun _ _ _ h => h) (fun lx ax wx hS => ?_) ?_;rotate_left;(have hbx:=hS.1;clear hS;replace x1:=bc hbx x1;replace x2:=bc hbx x2;replace z2:=bc hbx z2;replace p0:=bc hbx p0;replace p1:=bc hbx p1;replace p2:=bc hbx p2;replace l0:=bc hbx l0;replace l1':=bc hbx l1';replace l2:=bc hbx l2;replace l3:=bc hbx l3;replace l4:=bc hbx l4;replace l5:=bc hbx l5;replace l6:=bc hbx l6;replace l7:=bc hbx l7;go_simp;with_reducible rfl);rotate_left;simp only [sc0,sc1]
  refine Ae (i:=3) (v:=?_) HT rfl (by kernel_rfl) rfl (kA Aa (kA (Ab rfl rfl) (kA (Ap rfl rfl rfl) (Ab rfl rfl)))) (by rfl) (fun _ _ _ h => h) (fun lx ax wx hS => ?_) ?_;rotate_left;(have hbx:=hS.1;clear hS;replace x1:=bc hbx x1;replace x2:=bc hbx x2;replace z2:=bc hbx z2;replace p0:=bc hbx p0;replace p1:=bc hbx p1;replace p2:=bc hbx p2;replace l0:=bc hbx l0;replace l1':=bc hbx l1';replace l2:=bc hbx l2;replace l3:=bc hbx l3;replace l4:=bc hbx l4;replace l5:=bc hbx l5;replace l6:=bc hbx l6;replace l7:=bc hbx l7;go_simp;with_reducible rfl);rotate_left;simp only [sc0,sc1]
  refine Ae (i:=4) (v:=?_) HT rfl (by kernel_rfl) rfl (kA Aa (kA (Ab rfl rfl) (kA (Ap rfl rfl rfl) (Ab rfl rfl)))) (by rfl) (fun _ _ _ h => h) (fun lx ax wx hS => ?_) ?_;rotate_left;(have hbx:=hS.1;clear hS;replace x1:=bc hbx x1;replace x2:=bc hbx x2;replace z2:=bc hbx z2;replace p0:=bc hbx p0;replace p1:=bc hbx p1;replace p2:=bc hbx p2;replace l0:=bc hbx l0;replace l1':=bc hbx l1';replace l2:=bc hbx l2;replace l3:=bc hbx l3;replace l4:=bc hbx l4;replace l5:=bc hbx l5;replace l6:=bc hbx l6;replace l7:=bc hbx l7;go_simp;with_reducible rfl);rotate_left;simp only [sc0,sc1]
  refine Ae (i:=5) (v:=?_) HT rfl (by kernel_rfl) rfl (kA Aa (kA (Ab rfl rfl) (kA (Ap rfl rfl rfl) (Ab rfl rfl)))) (by rfl) (fun _ _ _ h => h) (fun lx ax wx hS => ?_) ?_;rotate_left;(have hbx:=hS.1;clear hS;replace x1:=bc hbx x1;replace x2:=bc hbx x2;replace z2:=bc hbx z2;replace p0:=bc hbx p0;replace p1:=bc hbx p1;replace p2:=bc hbx p2;replace l0:=bc hbx l0;replace l1':=bc hbx l1';replace l2:=bc hbx l2;replace l3:=bc hbx l3;replace l4:=bc hbx l4;replace l5:=bc hbx l5;replace l6:=bc hbx l6;replace l7:=bc hbx l7;go_simp;with_reducible rfl);rotate_left;simp only [sc0,sc1]
  refine Ae (i:=6) (v:=?_) HT rfl (by kernel_rfl) rfl (kA Aa (kA (Ab rfl rfl) (kA (Ap rfl rfl rfl) (Ab rfl rfl)))) (by rfl) (fun _ _ _ h => h) (fun lx ax wx hS => ?_) ?_;rotate_left;(have hbx:=hS.1;clear hS;replace x1:=bc hbx x1;replace x2:=bc hbx x2;replace z2:=bc hbx z2;replace p0:=bc hbx p0;replace p1:=bc hbx p1;replace p2:=bc hbx p2;replace l0:=bc hbx l0;replace l1':=bc hbx l1';replace l2:=bc hbx l2;replace l3:=bc hbx l3;replace l4:=bc hbx l4;replace l5:=bc hbx l5;replace l6:=bc hbx l6;replace l7:=bc hbx l7;go_simp;with_reducible rfl);rotate_left;simp only [sc0,sc1]
  refine Ae (i:=7) (v:=?_) HT rfl (by kernel_rfl) rfl (kA Aa (kA (Ab rfl rfl) (kA (Ap rfl rfl rfl) (Ab rfl rfl)))) (by rfl) (fun _ _ _ h => h) (fun lx ax wx hS => ?_) ?_;rotate_left;(have hbx:=hS.1;clear hS;replace x1:=bc hbx x1;replace x2:=bc hbx x2;replace z2:=bc hbx z2;replace p0:=bc hbx p0;replace p1:=bc hbx p1;replace p2:=bc hbx p2;replace l0:=bc hbx l0;replace l1':=bc hbx l1';replace l2:=bc hbx l2;replace l3:=bc hbx l3;replace l4:=bc hbx l4;replace l5:=bc hbx l5;replace l6:=bc hbx l6;replace l7:=bc hbx l7;go_simp;with_reducible rfl);rotate_left;simp only [sc0,sc1]
  refine Ae (i:=8) (v:=?_) HT rfl (by kernel_rfl) rfl (kA Aa (kA (Ab rfl rfl) (kA (Ap rfl rfl rfl) (Ab rfl rfl)))) (by rfl) (fun _ _ _ h => h) (fun lx ax wx hS => ?_) ?_;rotate_left;(have hbx:=hS.1;clear hS;replace x1:=bc hbx x1;replace x2:=bc hbx x2;replace z2:=bc hbx z2;replace p0:=bc hbx p0;replace p1:=bc hbx p1;replace p2:=bc hbx p2;replace l0:=bc hbx l0;replace l1':=bc hbx l1';replace l2:=bc hbx l2;replace l3:=bc hbx l3;replace l4:=bc hbx l4;replace l5:=bc hbx l5;replace l6:=bc hbx l6;replace l7:=bc hbx l7;go_simp;with_reducible rfl);rotate_left;simp only [sc0,sc1]
  refine Ae (i:=9) (v:=?_) HT rfl (by kernel_rfl) rfl (kA Aa (kA (Ab rfl rfl) (kA (Ap rfl rfl rfl) (Ab rfl rfl)))) (by rfl) (fun _ _ _ h => h) (fun lx ax wx hS => ?_) ?_;rotate_left;(have hbx:=hS.1;clear hS;replace x1:=bc hbx x1;replace x2:=bc hbx x2;replace z2:=bc hbx z2;replace p0:=bc hbx p0;replace p1:=bc hbx p1;replace p2:=bc hbx p2;replace l0:=bc hbx l0;replace l1':=bc hbx l1';replace l2:=bc hbx l2;replace l3:=bc hbx l3;replace l4:=bc hbx l4;replace l5:=bc hbx l5;replace l6:=bc hbx l6;replace l7:=bc hbx l7;go_simp;with_reducible rfl);rotate_left;simp only [sc0,sc1]
  refine Ae (i:=10) (v:=?_) HT rfl (by kernel_rfl) rfl (kA Aa (kA (Ab rfl rfl) (kA (Ap rfl rfl rfl) (Ab rfl rfl)))) (by rfl) (fun _ _ _ h => h) (fun lx ax wx hS => ?_) ?_;rotate_left;(have hbx:=hS.1;clear hS;replace x1:=bc hbx x1;replace x2:=bc hbx x2;replace z2:=bc hbx z2;replace p0:=bc hbx p0;replace p1:=bc hbx p1;replace p2:=bc hbx p2;replace l0:=bc hbx l0;replace l1':=bc hbx l1';replace l2:=bc hbx l2;replace l3:=bc hbx l3;replace l4:=bc hbx l4;replace l5:=bc hbx l5;replace l6:=bc hbx l6;replace l7:=bc hbx l7;go_simp;with_reducible rfl);rotate_left;simp only [sc0,sc1]
  refine Ae (i:=11) (v:=?_) HT rfl (by kernel_rfl) rfl (kA Aa (kA (Ab rfl rfl) (kA (Ap rfl rfl rfl) (Ab rfl rfl)))) (by rfl) (fun _ _ _ h => h) (fun lx ax wx hS => ?_) ?_;rotate_left;(have hbx:=hS.1;clear hS;replace x1:=bc hbx x1;replace x2:=bc hbx x2;replace z2:=bc hbx z2;replace p0:=bc hbx p0;replace p1:=bc hbx p1;replace p2:=bc hbx p2;replace l0:=bc hbx l0;replace l1':=bc hbx l1';replace l2:=bc hbx l2;replace l3:=bc hbx l3;replace l4:=bc hbx l4;replace l5:=bc hbx l5;replace l6:=bc hbx l6;replace l7:=bc hbx l7;go_simp;with_reducible rfl);rotate_left;simp only [sc0,sc1]
  refine Ae (i:=12) (v:=?_) HT rfl (by kernel_rfl) rfl (kA Aa (kA (Ab rfl rfl) (kA (Ap rfl rfl rfl) (Ab rfl rfl)))) (by rfl) (fun _ _ _ h => h) (fun lx ax wx hS => ?_) ?_;rotate_left;(have hbx:=hS.1;clear hS;replace x1:=bc hbx x1;replace x2:=bc hbx x2;replace z2:=bc hbx z2;replace p0:=bc hbx p0;replace p1:=bc hbx p1;replace p2:=bc hbx p2;replace l0:=bc hbx l0;replace l1':=bc hbx l1';replace l2:=bc hbx l2;replace l3:=bc hbx l3;replace l4:=bc hbx l4;replace l5:=bc hbx l5;replace l6:=bc hbx l6;replace l7:=bc hbx l7;go_simp;with_reducible rfl);rotate_left;simp only [sc0,sc1]
  refine Ae (i:=13) (v:=?_) HT rfl (by kernel_rfl) rfl (kA Aa (kA (Ab rfl rfl) (kA (Ap rfl rfl rfl) (Ab rfl rfl)))) (by rfl) (fun _ _ _ h => h) (fun lx ax wx hS => ?_) ?_;rotate_left;(have hbx:=hS.1;clear hS;replace x1:=bc hbx x1;replace x2:=bc hbx x2;replace z2:=bc hbx z2;replace p0:=bc hbx p0;replace p1:=bc hbx p1;replace p2:=bc hbx p2;replace l0:=bc hbx l0;replace l1':=bc hbx l1';replace l2:=bc hbx l2;replace l3:=bc hbx l3;replace l4:=bc hbx l4;replace l5:=bc hbx l5;replace l6:=bc hbx l6;replace l7:=bc hbx l7;go_simp;with_reducible rfl);rotate_left;simp only [sc0,sc1]
  refine Ae (i:=14) (v:=?_) HT rfl (by kernel_rfl) rfl (kA Aa (kA (Ab rfl rfl) (kA (Ap rfl rfl rfl) (Ab rfl rfl)))) (by rfl) (fun _ _ _ h => h) (fun lx ax wx hS => ?_) ?_;rotate_left;(have hbx:=hS.1;clear hS;replace x1:=bc hbx x1;replace x2:=bc hbx x2;replace z2:=bc hbx z2;replace p0:=bc hbx p0;replace p1:=bc hbx p1;replace p2:=bc hbx p2;replace l0:=bc hbx l0;replace l1':=bc hbx l1';replace l2:=bc hbx l2;replace l3:=bc hbx l3;replace l4:=bc hbx l4;replace l5:=bc hbx l5;replace l6:=bc hbx l6;replace l7:=bc hbx l7;go_simp;with_reducible rfl);rotate_left;simp only [sc0,sc1]
  refine Ae (i:=15) (v:=?_) HT rfl (by kernel_rfl) rfl (kA Aa (kA (Ab rfl rfl) (kA (Ap rfl rfl rfl) (Ab rfl rfl)))) (by rfl) (fun _ _ _ h => h) (fun lx ax wx hS => ?_) ?_;rotate_left;(have hbx:=hS.1;clear hS;replace x1:=bc hbx x1;replace x2:=bc hbx x2;replace z2:=bc hbx z2;replace p0:=bc hbx p0;replace p1:=bc hbx p1;replace p2:=bc hbx p2;replace l0:=bc hbx l0;replace l1':=bc hbx l1';replace l2:=bc hbx l2;replace l3:=bc hbx l3;replace l4:=bc hbx l4;replace l5:=bc hbx l5;replace l6:=bc hbx l6;replace l7:=bc hbx l7;go_simp;with_reducible rfl);rotate_left;simp only [sc0,sc1]
  refine Ae (i:=16) (v:=?_) HT rfl (by kernel_rfl) rfl (kA Aa (kA (Ab rfl rfl) (kA (Ap rfl rfl rfl) (Ab rfl rfl)))) (by rfl) (fun _ _ _ h => h) (fun lx ax wx hS => ?_) ?_;rotate_left;(have hbx:=hS.1;clear hS;replace x1:=bc hbx x1;replace x2:=bc hbx x2;replace z2:=bc hbx z2;replace p0:=bc hbx p0;replace p1:=bc hbx p1;replace p2:=bc hbx p2;replace l0:=bc hbx l0;replace l1':=bc hbx l1';replace l2:=bc hbx l2;replace l3:=bc hbx l3;replace l4:=bc hbx l4;replace l5:=bc hbx l5;replace l6:=bc hbx l6;replace l7:=bc hbx l7;go_simp;with_reducible rfl);rotate_left;simp only [sc0,sc1]
  apply reg_later2
  · intro hrest
    refine AQ [17,21] (by kernel_rfl) (fun i hi wx hS => ?_)
    rcases List.mem_cons.1 hi with rfl | hi
    · clear hi
      refine CV (f:=166) (args:=#[(pg e.mem p).val A2 c2,r1.val, .int .i64 ((e.log.length : Int) + 1)]) rfl rfl Tryz.func166 (by kernel_rfl) rfl rfl (by rfl) (by simp only [List.map_toArray,List.map_cons,List.map_nil];rfl) ((HCR.out wx hS.1).mono ?_)
      rintro x w6 ⟨u,rfl,ho,hb⟩
      refine ⟨_,rfl,⟨bj hS.1 hb,fun _ => ⟨u,rfl,ho.lower hS.1.size⟩,fun _ => ⟨trivial,fun h => (AA h (by kernel_rfl)).elim⟩,fun h => (AA h (by kernel_rfl)).elim⟩,?_⟩
      clear hS ho hb
      simp only [sc0,sc1]
      refine Ae (i:=18) (v:=?_) HT rfl (by kernel_rfl) rfl (kA Aa (kA (Ab rfl rfl) (kA (Ap rfl rfl rfl) (Ab rfl rfl)))) (by rfl) (fun _ _ _ h => h) (fun lx ax wx hS => ?_) ?_;rotate_left;(go_simp;with_reducible rfl);rotate_left;simp only [sc0,sc1]
      refine Ae (i:=19) (v:=?_) HT rfl (by kernel_rfl) rfl (kA Aa (kA (Ab rfl rfl) (kA (Ap rfl rfl rfl) (Ab rfl rfl)))) (by rfl) (fun _ _ _ h => h) (fun lx ax wx hS => ?_) ?_;rotate_left;(go_simp;with_reducible rfl);rotate_left;simp only [sc0,sc1]
      refine Ae (i:=20) (v:=?_) HT rfl (by kernel_rfl) rfl (kA Aa (kA (Ab rfl rfl) (kA (Ap rfl rfl rfl) (Ab rfl rfl)))) (by rfl) (fun _ _ _ h => h) (fun lx ax wx hS => ?_) ?_;rotate_left;(go_simp;with_reducible rfl);rotate_left;simp only [sc0,sc1]
      refine AQ [21] (by kernel_rfl) (fun i hi wx hS => ?_)
      obtain rfl:=List.mem_singleton.1 hi
      clear hi
      refine Bw (w1:=wx.alloc Cw) (ptr wx.heap.size) rfl rfl (by rfl) (by go_simp) ?_
      refine ⟨⟨bj hS.1 (Ah (Below.refl _ _) _),fun _ => (hS.2.1 (by kernel_rfl)).elim fun u hu => ⟨u,hu.1,hu.2.below (Ah (Below.refl _ _) _)⟩,fun _ => ⟨trivial,fun _ => ⟨wx.heap.size,rfl,hS.1.size,AY.mk1 wx zp _⟩⟩,fun h => (AA h (by kernel_rfl)).elim⟩,?_⟩
      obtain ⟨B,hB⟩ : ∃ B,wx.heap.size = B:=⟨_,rfl⟩
      rw [hB]
      clear hB hS
      simp only [sc0,sc1]
      exact EN (done := [21,20,19,18,17,16,15,14,13,12,11,10,9,8,7,6,5,4,3,2,1,0]) (by kernel_rfl) (hrest u B)
    · obtain rfl:=List.mem_singleton.1 hi
      clear hi
      refine Bw (w1:=wx.alloc Cw) (ptr wx.heap.size) rfl rfl (by rfl) (by go_simp) ?_
      refine ⟨⟨bj hS.1 (Ah (Below.refl _ _) _),fun h => (AA h (by kernel_rfl)).elim,fun _ => ⟨trivial,fun _ => ⟨wx.heap.size,rfl,hS.1.size,AY.mk1 wx zp _⟩⟩,fun h => (AA h (by kernel_rfl)).elim⟩,?_⟩
      obtain ⟨B,hB⟩ : ∃ B,wx.heap.size = B:=⟨_,rfl⟩
      rw [hB]
      clear hB hS
      simp only [sc0,sc1]
      refine AQ [17] (by kernel_rfl) (fun i hi wx hS => ?_)
      obtain rfl:=List.mem_singleton.1 hi
      clear hi
      refine CV (f:=166) (args:=#[(pg e.mem p).val A2 c2,r1.val, .int .i64 ((e.log.length : Int) + 1)]) rfl rfl Tryz.func166 (by kernel_rfl) rfl rfl (by rfl) (by simp only [List.map_toArray,List.map_cons,List.map_nil];rfl) ((HCR.out wx hS.1).mono ?_)
      rintro x w6 ⟨u,rfl,ho,hb⟩
      refine ⟨_,rfl,⟨bj hS.1 hb,fun _ => ⟨u,rfl,ho.lower hS.1.size⟩,fun _ => ⟨trivial,fun _ => ((hS.2.2.1 (by kernel_rfl)).2 (by kernel_rfl)).elim fun B' hB' => ⟨B',hB'.1,hB'.2.1,hB'.2.2.up hb⟩⟩,fun h => (AA h (by kernel_rfl)).elim⟩,?_⟩
      clear hS ho hb
      simp only [sc0,sc1]
      refine Ae (i:=18) (v:=?_) HT rfl (by kernel_rfl) rfl (kA Aa (kA (Ab rfl rfl) (kA (Ap rfl rfl rfl) (Ab rfl rfl)))) (by rfl) (fun _ _ _ h => h) (fun lx ax wx hS => ?_) ?_;rotate_left;(go_simp;with_reducible rfl);rotate_left;simp only [sc0,sc1]
      refine Ae (i:=19) (v:=?_) HT rfl (by kernel_rfl) rfl (kA Aa (kA (Ab rfl rfl) (kA (Ap rfl rfl rfl) (Ab rfl rfl)))) (by rfl) (fun _ _ _ h => h) (fun lx ax wx hS => ?_) ?_;rotate_left;(go_simp;with_reducible rfl);rotate_left;simp only [sc0,sc1]
      refine Ae (i:=20) (v:=?_) HT rfl (by kernel_rfl) rfl (kA Aa (kA (Ab rfl rfl) (kA (Ap rfl rfl rfl) (Ab rfl rfl)))) (by rfl) (fun _ _ _ h => h) (fun lx ax wx hS => ?_) ?_;rotate_left;(go_simp;with_reducible rfl);rotate_left;simp only [sc0,sc1]
      exact EN (done := [21,20,19,18,17,16,15,14,13,12,11,10,9,8,7,6,5,4,3,2,1,0]) (by kernel_rfl) (hrest u B)
  intro u B
  refine AQ [22] (by kernel_rfl) (fun i hi wx hS => ?_)
  obtain rfl:=List.mem_singleton.1 hi
  clear hi
  obtain ⟨h1,h2,h3, -⟩:=hS
  obtain ⟨u1,hu1,hown⟩:=h2 (by kernel_rfl)
  have hu1 : Value.tuple #[q.own u, .bool true] = .tuple #[q.own u1, .bool true]:=hu1
  obtain rfl : u = u1:=by simpa using hu1
  obtain ⟨B',hB',hN,hP⟩:=(h3 (by kernel_rfl)).2 (by kernel_rfl)
  have hB' : ptr B = ptr B':=hB'
  obtain rfl : B = B':=by simpa using hB'
  obtain ⟨A1,c1,rfl, -, -⟩:=hown.reads
  have y0:=hP.c0
  have y1:=hP.c1
  have y2:=hP.c2
  have f0:=hP.frz 0
  have f1:=hP.frz 1
  have f2:=hP.frz 2
  refine Bh (w1:=Go.Proofs.YtpjmlpmhgfghbaaGreat.Cu wx B q (.slice A1 q.vals.length c1)) rfl (by rfl) (by go_simp) ?_
  have hP5:=hP.Cu q (.slice A1 q.vals.length c1)
  have ho5:=hown.WS (TK hown hP) q (.slice A1 q.vals.length c1)
  have hb5 : Below w2.heap.size w2 (Go.Proofs.YtpjmlpmhgfghbaaGreat.Cu wx B q (.slice A1 q.vals.length c1)):=Cr h1 hN q (.slice A1 q.vals.length c1)
  refine ⟨⟨hb5,fun _ => ⟨_,rfl,ho5⟩,fun h => (AA (by kernel_rfl) h).elim,fun _ => ⟨B,_,rfl,hN,hP5,ho5⟩⟩,?_⟩
  clear h1 h2 h3 hu1 hown hB' hN hP f0 f1 f2 hP5 ho5 hb5 y0 y1 y2
  refine Ae (i:=23) (v:=?_) HT rfl (by kernel_rfl) rfl (kA Aa (kA (Ab rfl rfl) (kA (Ap rfl rfl rfl) (Ab rfl rfl)))) (by rfl) (fun _ _ _ h => h) (fun lx ax wx hS => ?_) ?_
  rotate_left
  · go_simp
    with_reducible rfl
  rotate_left
  simp only [sc0,sc1]
  refine DX (by kernel_rfl) (fun w5 hS => ?_)
  obtain ⟨hb5, -, -,h4⟩:=hS
  obtain ⟨B',u',hB',hN,hP5,ho5⟩:=h4 (by kernel_rfl)
  have hB' : ptr B = ptr B':=hB'
  obtain rfl : B = B':=by simpa using hB'
  have HB5:=As hb5
  obtain ⟨A5,c5,rfl, -, -⟩:=ho5.reads
  have HO5:=As ho5
  have y0:=hP5.c0
  have y1:=hP5.c1
  have y2:=hP5.c2
  replace x1:=bc hb5 x1
  replace z2:=bc hb5 z2
  clear hB' hN hP5 ho5 hb5 h4 x2 p0 p1 p2 l0 l1' l2 l3 l4 l5 l6 l7
  go_wp2
  refine AX (fun lx a wx => Below w5.heap.size w5 wx) 8 rfl (by kernel_rfl) (Aj (Below.refl _ _)) (fun HT => ?_)
  refine Ae (i:=0) (v:=?_) HT rfl (by kernel_rfl) rfl (Aa) (by rfl) (fun _ _ _ h => h) (fun lx ax wx hS => ?_) ?_;rotate_left;(replace x1:=bc hS x1;replace z2:=bc hS z2;replace y0:=bc hS y0;replace y1:=bc hS y1;replace y2:=bc hS y2;go_simp;with_reducible rfl);rotate_left;simp only [sc0,sc1]
  refine Ae (i:=1) (v:=?_) HT rfl (by kernel_rfl) rfl (Aa) (by rfl) (fun _ _ _ h => h) (fun lx ax wx hS => ?_) ?_;rotate_left;(replace x1:=bc hS x1;replace z2:=bc hS z2;replace y0:=bc hS y0;replace y1:=bc hS y1;replace y2:=bc hS y2;go_simp;with_reducible rfl);rotate_left;simp only [sc0,sc1]
  refine Ae (i:=2) (v:=?_) HT rfl (by kernel_rfl) rfl (Aa) (by rfl) (fun _ _ _ h => h) (fun lx ax wx hS => ?_) ?_;rotate_left;(replace x1:=bc hS x1;replace z2:=bc hS z2;replace y0:=bc hS y0;replace y1:=bc hS y1;replace y2:=bc hS y2;go_simp;with_reducible rfl);rotate_left;simp only [sc0,sc1]
  refine Ae (i:=3) (v:=?_) HT rfl (by kernel_rfl) rfl (Aa) (by rfl) (fun _ _ _ h => h) (fun lx ax wx hS => ?_) ?_;rotate_left;(replace x1:=bc hS x1;replace z2:=bc hS z2;replace y0:=bc hS y0;replace y1:=bc hS y1;replace y2:=bc hS y2;go_simp;with_reducible rfl);rotate_left;simp only [sc0,sc1]
  refine Ae (i:=4) (v:=?_) HT rfl (by kernel_rfl) rfl (Aa) (by rfl) (fun _ _ _ h => h) (fun lx ax wx hS => ?_) ?_;rotate_left;(replace x1:=bc hS x1;replace z2:=bc hS z2;replace y0:=bc hS y0;replace y1:=bc hS y1;replace y2:=bc hS y2;go_simp;with_reducible rfl);rotate_left;simp only [sc0,sc1]
  refine Ae (i:=5) (v:=?_) HT rfl (by kernel_rfl) rfl (Aa) (by rfl) (fun _ _ _ h => h) (fun lx ax wx hS => ?_) ?_;rotate_left;(replace x1:=bc hS x1;replace z2:=bc hS z2;replace y0:=bc hS y0;replace y1:=bc hS y1;replace y2:=bc hS y2;go_simp;with_reducible rfl);rotate_left;simp only [sc0,sc1]
  refine Ae (i:=6) (v:=?_) HT rfl (by kernel_rfl) rfl (Aa) (by rfl) (fun _ _ _ h => h) (fun lx ax wx hS => ?_) ?_;rotate_left;(replace x1:=bc hS x1;replace z2:=bc hS z2;replace y0:=bc hS y0;replace y1:=bc hS y1;replace y2:=bc hS y2;go_simp;with_reducible rfl);rotate_left;simp only [sc0,sc1]
  refine Ae (i:=7) (v:=?_) HT rfl (by kernel_rfl) rfl (Aa) (by rfl) (fun _ _ _ h => h) (fun lx ax wx hS => ?_) ?_;rotate_left;(replace x1:=bc hS x1;replace z2:=bc hS z2;replace y0:=bc hS y0;replace y1:=bc hS y1;replace y2:=bc hS y2;go_simp;with_reducible rfl);rotate_left;simp only [sc0,sc1]
  refine BQ (i:=8) (by kernel_rfl) rfl (fun wx hS => ?_)
  have h5x:=bj HB5.out hS
  refine Es (ok:=okm) (w0:=w0) (N:=w2.heap.size) (q:=q) p rfl (.tmp 39) (.tmp 38) rfl (by rfl) rfl rfl rfl (HO5.out.below hS) HB2.out.size (Kd.Ep HPM.out h5x) hpl (bj HB2.out h5x) (fun w8 hO8 hB8 hg8 => ?_)
  refine BB (by kernel_rfl) ?_
  have hd8:=Kd.Ep HPD.out h5x
  have hty:=Kd.EU (Kd.Bu HPM.out h5x) gm (by simp [Value.ownBlock])
  have he8:=AU.OX (e:={ e with log:=l1 }) HAP.out hd8 (Kd.Cm HO2.out.l h5x) (HO5.out.below hS) hO8 (KZ HPM.out gm (by simp [Value.ownBlock])) hg8 hty
  have hq8 : Ai w8 g { e with mem:=e.mem.set p q,log:=l1 } (.slice Ad e.disk.length cd) (.slice (some ⟨gm,0,none⟩) e.mem.length capm) (.slice (some adl) l1.length cl):=(hg8.block g (by have:=HQ2.out.lt;have:=h5x.size;omega) (fun e2 => by injection e2 with e2;exact Fw HQ2.out HPM.out e2)).trans (HQ2.out.up h5x)
  have HX8:=As (And.intro hB8 (And.intro he8 hq8))
  clear hS h5x hO8 hB8 hg8 hd8 hty he8 hq8 x1 z2 y0 y1 y2
  go_wp2
  exact bodyPost_ret (v:=.tuple #[]) (by simp [results,Tryz.results109,go_sem]) rfl ⟨⟨_,rfl⟩,by rw [HE.out];exact ⟨⟨_,_,_,HX8.out.2.2,HX8.out.2.1⟩,HX8.out.1,HG.out⟩⟩
set_option maxRecDepth 100000 in
set_option maxHeartbeats 8000000 in
theorem Rl {w0 w : World} {g gp gs gv : Nat} {e : Eng} {p : Nat} {slot val : Int} (hp : p < 5) (hgm : geo e.mem) (h : BO w0 w g e) (bp : Ci w gp (.int .i64 (p : Int)) 3) (bs : Ci w gs (.int .i64 slot) 3) (bv : Ci w gv (.int .i64 val) 3) : Calls Tryz.prog 139 #[ptr g,ptr gp,ptr gs,ptr gv] w fun x w' => x = .returned (.bool ((pg e.mem p).owner != 0 && (inB slot 0 2 && inB val 0 9))) ∧ Below w.heap.size w w':=by
  obtain ⟨⟨vd,vm,vl,hq,ho⟩, -, -⟩:=h
  obtain ⟨okd,okm, -, -,hpm⟩:=ho.ex
  have hg5:=hgm.1
  obtain ⟨gm,capm,rfl, -, -⟩:=Cq hpm (by omega)
  have hpl : p < e.mem.length:=by omega
  obtain ⟨A2,c2,p0,p1,p2, -, -⟩:=DC hpm p hpl
  have hp5i : (p : Int) < 5:=by omega
  have x1:=hq.c1
  have y1:=bp.c0
  have y2:=bs.c0
  have y3:=bv.c0
  clear ho hpm hq bp bs bv hgm p0 p2
  cases h1 : inB slot 0 2
  all_goals cases h2 : inB val 0 9
  all_goals rcases BS (pg e.mem p).owner 0 with ⟨e1,b1,c1⟩ | ⟨e1,b1,c1⟩
  all_goals
    have H1:=As h1
    have H2:=As h2
    clear h1 h2
    go_enter Tryz.func139,Tryz.ntmps139
    go_wp2
    refine Bj (fun w' => Below w.heap.size w w') rfl rfl (by kernel_rfl) (Aj (Below.refl _ _)) (fun HT => ?_)
    repeat (first
      | (refine BX (fun wx hS => ?_))
      | ((with_reducible refine BI (f:=77) rfl ?_);refine BJ (v:=.bool _) (args:=#[.int .i64 slot, .int .i64 0, .int .i64 2]) HT rfl Tryz.func77 (by kernel_rfl) rfl rfl (by rfl) (fun _ _ _ h => h) (by simp only [List.map_toArray,List.map_cons,List.map_nil];rfl) (fun wx hS => (Ce slot 0 2 wx).mono fun _ _ h => ⟨h.1.trans (congrArg (fun b => Ending.returned (Value.bool b)) H1.out),h.2 ▸ hS⟩) ?_;simp only [sc0,sc1])
      | ((with_reducible refine BI (f:=77) rfl ?_);refine BJ (v:=.bool _) (args:=#[.int .i64 val, .int .i64 0, .int .i64 9]) HT rfl Tryz.func77 (by kernel_rfl) rfl rfl (by rfl) (fun _ _ _ h => h) (by simp only [List.map_toArray,List.map_cons,List.map_nil];rfl) (fun wx hS => (Ce val 0 9 wx).mono fun _ _ h => ⟨h.1.trans (congrArg (fun b => Ending.returned (Value.bool b)) H2.out),h.2 ▸ hS⟩) ?_;simp only [sc0,sc1])
      | (refine BH HT rfl (by rfl) (fun _ _ _ h => h) ?_;simp only [sc0,sc1])
      | (refine BV (v:=?_) HT rfl (by rfl) (fun _ _ _ h => h) (fun wx hS => ?_) ?_;rotate_left;(have x1:=bc hS x1;have y1:=bc hS y1;have y2:=bc hS y2;have y3:=bc hS y3;have p1:=bc hS p1;go_simp;with_reducible rfl);rotate_left;simp only [sc0,sc1]))
    have HS:=As hS
    clear hS x1 y1 y2 y3 p1
    go_wp2
    go_ret
    exact ⟨AJ (by simp [b1,c1]),HS.out⟩
set_option maxRecDepth 100000 in
set_option maxHeartbeats 8000000 in
theorem Rk {w0 w : World} {g gt gp gs gv : Nat} {e : Eng} {p s : Nat} {tx val : Int} (hp : p < 5) (hs : s < 3) (hgm : geo e.mem) (hl : e.log.length + 1 ≤ 150) (hdo : Ff (pg e.mem p) (Dj (MU e tx (p : Int) (s : Int) val) (Ao e.log tx e.log.length)) (e.log.length + 1 : Nat) = true) (h : BO w0 w g e) (bt : Ci w gt (.int .i64 tx) 3) (bp : Ci w gp (.int .i64 (p : Int)) 3) (bs : Ci w gs (.int .i64 (s : Int)) 3) (bv : Ci w gv (.int .i64 val) 3) : Calls Tryz.prog 141 #[ptr g,ptr gt,ptr gp,ptr gs,ptr gv] w (Hy w0 g (e.app (MU e tx (p : Int) (s : Int) val))):=by
  have HG:=As h
  obtain ⟨⟨vd,vm,vl,hq,ho⟩, -, -⟩:=h
  obtain ⟨okd,okm, -, -,hpm⟩:=ho.ex
  have hg5:=hgm.1
  obtain ⟨gm,capm,rfl, -, -⟩:=Cq hpm (by omega)
  have hpl : p < e.mem.length:=by omega
  obtain ⟨A2,c2,p0,p1,p2,pC, -⟩:=DC hpm p hpl
  have hv3 : (pg e.mem p).vals.length = 3:=G7 hgm hp
  have hsl : s < (pg e.mem p).vals.length:=by omega
  have hs3i : (s : Int) < 3:=by omega
  obtain ⟨ad,rfl,z0⟩:=Dk pC s hsl
  have hp5i : (p : Int) < 5:=by omega
  have x1:=hq.c1
  have y0:=bt.c0
  have y1:=bp.c0
  have y2:=bs.c0
  have y3:=bv.c0
  have HGM:=As hgm
  have HL:=As hl
  have HDO:=As hdo
  obtain ⟨r,hr⟩ : ∃ r,MU e tx (p : Int) (s : Int) val = r:=⟨_,rfl⟩
  have HR:=As hr
  have HRV : Ac (r.val = .agg #[.int .i64 1, .int .i64 tx, .int .i64 (p : Int), .int .i64 (s : Int), .int .i64 (iv (pg e.mem p).vals s), .int .i64 val, .int .i64 0, .int .i64 0]):=⟨by rw [← hr];rfl⟩
  have HRT : Ac (r.tx = tx):=⟨by rw [← hr];rfl⟩
  have HRP : Ac (r.page = (p : Int)):=⟨by rw [← hr];rfl⟩
  have HCALL : Ac (∀ wx,Below w.heap.size w wx → Calls Tryz.prog 109 #[ptr g, .agg #[.int .i64 1, .int .i64 tx, .int .i64 (p : Int), .int .i64 (s : Int), .int .i64 (iv (pg e.mem p).vals s), .int .i64 val, .int .i64 0, .int .i64 0]] wx (Hy w0 g (e.app r))):=⟨fun wx hb => by
    have h:=JI r HL.out HGM.out (by rw [HRP.out];omega) (by have:=HDO.out;rw [HR.out] at this;rw [HRP.out,HRT.out];simpa using this) (HG.out.up hb)
    rw [HRV.out] at h
    exact h⟩
  rw [hr]
  clear ho hpm hq bt bp bs bv hgm hl hdo hr hv3 p0 p1 pC HR HRV HRT HRP HDO HL HGM HG
  go_enter Tryz.func141,Tryz.ntmps141
  go_wp2
  refine AX (fun lx a wx => Un 17 (fun wx => Below w.heap.size w wx) lx a wx ∧ Sl 17 23 (fun _ wx => BO w0 wx g (e.app r)) lx a wx) 18 rfl (by kernel_rfl) (⟨fun _ => Aj (Below.refl _ _),AZ⟩) (fun HT => ?_)
  refine Aq (i:=0) (v:=?_) 17 HT rfl (by kernel_rfl) (by kernel_rfl) rfl (kA (Af rfl) (Ab rfl rfl)) (by rfl) (fun _ _ _ h => h) (fun lx ax wx hK hS => ?_) ?_;rotate_left;(have hbx:=hS.1 hK;clear hS;replace x1:=bc hbx x1;replace y0:=bc hbx y0;replace y1:=bc hbx y1;replace y2:=bc hbx y2;replace y3:=bc hbx y3;replace p2:=bc hbx p2;replace z0:=bc hbx z0;go_simp;with_reducible rfl);rotate_left;simp only [sc0,sc1]
  refine Aq (i:=1) (v:=?_) 17 HT rfl (by kernel_rfl) (by kernel_rfl) rfl (kA (Af rfl) (Ab rfl rfl)) (by rfl) (fun _ _ _ h => h) (fun lx ax wx hK hS => ?_) ?_;rotate_left;(have hbx:=hS.1 hK;clear hS;replace x1:=bc hbx x1;replace y0:=bc hbx y0;replace y1:=bc hbx y1;replace y2:=bc hbx y2;replace y3:=bc hbx y3;replace p2:=bc hbx p2;replace z0:=bc hbx z0;go_simp;with_reducible rfl);rotate_left;simp only [sc0,sc1]
  refine Aq (i:=2) (v:=?_) 17 HT rfl (by kernel_rfl) (by kernel_rfl) rfl (kA (Af rfl) (Ab rfl rfl)) (by rfl) (fun _ _ _ h => h) (fun lx ax wx hK hS => ?_) ?_;rotate_left;(have hbx:=hS.1 hK;clear hS;replace x1:=bc hbx x1;replace y0:=bc hbx y0;replace y1:=bc hbx y1;replace y2:=bc hbx y2;replace y3:=bc hbx y3;replace p2:=bc hbx p2;replace z0:=bc hbx z0;go_simp;with_reducible rfl);rotate_left;simp only [sc0,sc1]
  refine Aq (i:=3) (v:=?_) 17 HT rfl (by kernel_rfl) (by kernel_rfl) rfl (kA (Af rfl) (Ab rfl rfl)) (by rfl) (fun _ _ _ h => h) (fun lx ax wx hK hS => ?_) ?_;rotate_left;(have hbx:=hS.1 hK;clear hS;replace x1:=bc hbx x1;replace y0:=bc hbx y0;replace y1:=bc hbx y1;replace y2:=bc hbx y2;replace y3:=bc hbx y3;replace p2:=bc hbx p2;replace z0:=bc hbx z0;go_simp;with_reducible rfl);rotate_left;simp only [sc0,sc1]
  refine Aq (i:=4) (v:=?_) 17 HT rfl (by kernel_rfl) (by kernel_rfl) rfl (kA (Af rfl) (Ab rfl rfl)) (by rfl) (fun _ _ _ h => h) (fun lx ax wx hK hS => ?_) ?_;rotate_left;(have hbx:=hS.1 hK;clear hS;replace x1:=bc hbx x1;replace y0:=bc hbx y0;replace y1:=bc hbx y1;replace y2:=bc hbx y2;replace y3:=bc hbx y3;replace p2:=bc hbx p2;replace z0:=bc hbx z0;go_simp;with_reducible rfl);rotate_left;simp only [sc0,sc1]
  refine Aq (i:=5) (v:=?_) 17 HT rfl (by kernel_rfl) (by kernel_rfl) rfl (kA (Af rfl) (Ab rfl rfl)) (by rfl) (fun _ _ _ h => h) (fun lx ax wx hK hS => ?_) ?_;rotate_left;(have hbx:=hS.1 hK;clear hS;replace x1:=bc hbx x1;replace y0:=bc hbx y0;replace y1:=bc hbx y1;replace y2:=bc hbx y2;replace y3:=bc hbx y3;replace p2:=bc hbx p2;replace z0:=bc hbx z0;go_simp;with_reducible rfl);rotate_left;simp only [sc0,sc1]
  refine Aq (i:=6) (v:=?_) 17 HT rfl (by kernel_rfl) (by kernel_rfl) rfl (kA (Af rfl) (Ab rfl rfl)) (by rfl) (fun _ _ _ h => h) (fun lx ax wx hK hS => ?_) ?_;rotate_left;(have hbx:=hS.1 hK;clear hS;replace x1:=bc hbx x1;replace y0:=bc hbx y0;replace y1:=bc hbx y1;replace y2:=bc hbx y2;replace y3:=bc hbx y3;replace p2:=bc hbx p2;replace z0:=bc hbx z0;go_simp;with_reducible rfl);rotate_left;simp only [sc0,sc1]
  refine Aq (i:=7) (v:=?_) 17 HT rfl (by kernel_rfl) (by kernel_rfl) rfl (kA (Af rfl) (Ab rfl rfl)) (by rfl) (fun _ _ _ h => h) (fun lx ax wx hK hS => ?_) ?_;rotate_left;(have hbx:=hS.1 hK;clear hS;replace x1:=bc hbx x1;replace y0:=bc hbx y0;replace y1:=bc hbx y1;replace y2:=bc hbx y2;replace y3:=bc hbx y3;replace p2:=bc hbx p2;replace z0:=bc hbx z0;go_simp;with_reducible rfl);rotate_left;simp only [sc0,sc1]
  refine Aq (i:=8) (v:=?_) 17 HT rfl (by kernel_rfl) (by kernel_rfl) rfl (kA (Af rfl) (Ab rfl rfl)) (by rfl) (fun _ _ _ h => h) (fun lx ax wx hK hS => ?_) ?_;rotate_left;(have hbx:=hS.1 hK;clear hS;replace x1:=bc hbx x1;replace y0:=bc hbx y0;replace y1:=bc hbx y1;replace y2:=bc hbx y2;replace y3:=bc hbx y3;replace p2:=bc hbx p2;replace z0:=bc hbx z0;go_simp;with_reducible rfl);rotate_left;simp only [sc0,sc1]
  refine Aq (i:=9) (v:=?_) 17 HT rfl (by kernel_rfl) (by kernel_rfl) rfl (kA (Af rfl) (Ab rfl rfl)) (by rfl) (fun _ _ _ h => h) (fun lx ax wx hK hS => ?_) ?_;rotate_left;(have hbx:=hS.1 hK;clear hS;replace x1:=bc hbx x1;replace y0:=bc hbx y0;replace y1:=bc hbx y1;replace y2:=bc hbx y2;replace y3:=bc hbx y3;replace p2:=bc hbx p2;replace z0:=bc hbx z0;go_simp;with_reducible rfl);rotate_left;simp only [sc0,sc1]
  refine Aq (i:=10) (v:=?_) 17 HT rfl (by kernel_rfl) (by kernel_rfl) rfl (kA (Af rfl) (Ab rfl rfl)) (by rfl) (fun _ _ _ h => h) (fun lx ax wx hK hS => ?_) ?_;rotate_left;(have hbx:=hS.1 hK;clear hS;replace x1:=bc hbx x1;replace y0:=bc hbx y0;replace y1:=bc hbx y1;replace y2:=bc hbx y2;replace y3:=bc hbx y3;replace p2:=bc hbx p2;replace z0:=bc hbx z0;go_simp;with_reducible rfl);rotate_left;simp only [sc0,sc1]
  refine Aq (i:=11) (v:=?_) 17 HT rfl (by kernel_rfl) (by kernel_rfl) rfl (kA (Af rfl) (Ab rfl rfl)) (by rfl) (fun _ _ _ h => h) (fun lx ax wx hK hS => ?_) ?_;rotate_left;(have hbx:=hS.1 hK;clear hS;replace x1:=bc hbx x1;replace y0:=bc hbx y0;replace y1:=bc hbx y1;replace y2:=bc hbx y2;replace y3:=bc hbx y3;replace p2:=bc hbx p2;replace z0:=bc hbx z0;go_simp;with_reducible rfl);rotate_left;simp only [sc0,sc1]
  refine Aq (i:=12) (v:=?_) 17 HT rfl (by kernel_rfl) (by kernel_rfl) rfl (kA (Af rfl) (Ab rfl rfl)) (by rfl) (fun _ _ _ h => h) (fun lx ax wx hK hS => ?_) ?_;rotate_left;(have hbx:=hS.1 hK;clear hS;replace x1:=bc hbx x1;replace y0:=bc hbx y0;replace y1:=bc hbx y1;replace y2:=bc hbx y2;replace y3:=bc hbx y3;replace p2:=bc hbx p2;replace z0:=bc hbx z0;go_simp;with_reducible rfl);rotate_left;simp only [sc0,sc1]
  refine Aq (i:=13) (v:=?_) 17 HT rfl (by kernel_rfl) (by kernel_rfl) rfl (kA (Af rfl) (Ab rfl rfl)) (by rfl) (fun _ _ _ h => h) (fun lx ax wx hK hS => ?_) ?_;rotate_left;(have hbx:=hS.1 hK;clear hS;replace x1:=bc hbx x1;replace y0:=bc hbx y0;replace y1:=bc hbx y1;replace y2:=bc hbx y2;replace y3:=bc hbx y3;replace p2:=bc hbx p2;replace z0:=bc hbx z0;go_simp;with_reducible rfl);rotate_left;simp only [sc0,sc1]
  refine Aq (i:=14) (v:=?_) 17 HT rfl (by kernel_rfl) (by kernel_rfl) rfl (kA (Af rfl) (Ab rfl rfl)) (by rfl) (fun _ _ _ h => h) (fun lx ax wx hK hS => ?_) ?_;rotate_left;(have hbx:=hS.1 hK;clear hS;replace x1:=bc hbx x1;replace y0:=bc hbx y0;replace y1:=bc hbx y1;replace y2:=bc hbx y2;replace y3:=bc hbx y3;replace p2:=bc hbx p2;replace z0:=bc hbx z0;go_simp;with_reducible rfl);rotate_left;simp only [sc0,sc1]
  refine Aq (i:=15) (v:=?_) 17 HT rfl (by kernel_rfl) (by kernel_rfl) rfl (kA (Af rfl) (Ab rfl rfl)) (by rfl) (fun _ _ _ h => h) (fun lx ax wx hK hS => ?_) ?_;rotate_left;(have hbx:=hS.1 hK;clear hS;replace x1:=bc hbx x1;replace y0:=bc hbx y0;replace y1:=bc hbx y1;replace y2:=bc hbx y2;replace y3:=bc hbx y3;replace p2:=bc hbx p2;replace z0:=bc hbx z0;go_simp;with_reducible rfl);rotate_left;simp only [sc0,sc1]
  refine Aq (i:=16) (v:=?_) 17 HT rfl (by kernel_rfl) (by kernel_rfl) rfl (kA (Af rfl) (Ab rfl rfl)) (by rfl) (fun _ _ _ h => h) (fun lx ax wx hK hS => ?_) ?_;rotate_left;(have hbx:=hS.1 hK;clear hS;replace x1:=bc hbx x1;replace y0:=bc hbx y0;replace y1:=bc hbx y1;replace y2:=bc hbx y2;replace y3:=bc hbx y3;replace p2:=bc hbx p2;replace z0:=bc hbx z0;go_simp;with_reducible rfl);rotate_left;simp only [sc0,sc1]
  refine BR (i:=17) (f:=109) (args:=#[ptr g, .agg #[.int .i64 1, .int .i64 tx, .int .i64 (p : Int), .int .i64 (s : Int), .int .i64 (iv (pg e.mem p).vals s), .int .i64 val, .int .i64 0, .int .i64 0]]) (fun _ => True) rfl (by kernel_rfl) rfl Tryz.func109 (by kernel_rfl) rfl rfl (by rfl) (by simp only [List.map_toArray,List.map_cons,List.map_nil];rfl) (fun wx hS => (HCALL.out wx (hS.1 (by kernel_rfl))).mono (by rintro x w6 ⟨⟨v,rfl⟩,hg6⟩;exact ⟨v,rfl,trivial,fun h => (AA (by kernel_rfl) h).elim,fun _ => hg6⟩)) (fun vx hg => ?_);simp only [sc0,sc1]
  refine DX (by kernel_rfl) (fun w6 hS => ?_)
  have HG6:=As (hS.2 (by kernel_rfl))
  clear hS hg x1 y0 y1 y2 y3 p2 z0
  go_wp2
  exact bodyPost_ret (v:=.tuple #[]) (by simp [results,Tryz.results141,go_sem]) rfl ⟨⟨_,rfl⟩,HG6.out⟩
theorem Ta (e : Eng) (r : Rec) : (e.app r).log = e.log ++ [{ r with prev:=Ao e.log r.tx e.log.length }]:=rfl
theorem J5 (e : Eng) (r : Rec) : (e.app r).log.length = e.log.length + 1:=by rw [Ta];simp
theorem Inv.VO {e : Eng} {C C' : Nat → Page} {B B' : Nat} {r : Rec} (h : Inv e C B) (hup : e.down = false) (hx : Inv (e.app r) C' B') (hc : Cx r.kind = true) (hp : 0 ≤ r.page ∧ r.page < 5) : Ff (pg e.mem r.page.toNat) { r with prev:=Ao e.log r.tx e.log.length } (e.log.length + 1 : Nat) = true:=by
  have hlen:=J5 e r
  have hr:=hx.core.room (e.log.length + 1) (by omega)
  have hb:=hx.core.b150
  have hF:=(AB hx.core.log (k:=e.log.length) (by omega)).ok
  rw [Ta,BL] at hF
  have hpn : r.page.toNat < 5:=by omega
  have hM:=h.upm hup _ hpn
  have hm:=JZ (r:=r) h.mlen (fun _ => by omega) r.page.toNat
  rw [if_pos ⟨hc,by omega⟩] at hm
  have hok:=(Cv.1 hx.Gb).2 _ hpn
  rw [hm] at hok
  have hl:=hM.lsn
  simp only [Ff,Bool.and_eq_true,decide_eq_true_eq]
  refine ⟨hM.ok,hF,hc,?_,by omega,hok⟩
  show (pg e.mem r.page.toNat).lsn < ((e.log.length + 1 : Nat) : Int)
  omega
theorem Inv.TU {x : Eng} {C : Nat → Page} {B n : Nat} (hx : Inv x C B) (hl : x.log.length = n + 1) : n + 1 ≤ 150:=by
  have hr:=hx.core.room (n + 1) (by omega)
  have hb:=hx.core.b150
  omega
theorem Inv.Sr {x : Eng} {C : Nat → Page} {B n : Nat} {l : List Rec} (hx : Inv x C B) (hl : x.log = l) (hn : l.length = n + 1) : n + 1 + Br l (n + 1) ≤ 150:=by
  subst hl
  have hr:=hx.core.room (n + 1) (by omega)
  have hb:=hx.core.b150
  omega
theorem Inv.Pv {e x : Eng} {C : Nat → Page} {B : Nat} {ok : Bool} (hx : ok = true → Inv x C B) : Bp e ok x = if ok = true then (x,true) else (e,false):=by
  unfold Bp
  cases ok
  · rw [if_neg (by simp),if_neg (by simp)]
  · rw [if_pos ⟨rfl,Vy (hx rfl).core⟩,if_pos rfl]
theorem Q9 {e : Eng} {tx page slot val : Int} : OT e tx page slot val = (DL e tx page && ((pg e.mem page.toNat).owner != 0 && (inB slot 0 2 && inB val 0 9))):=rfl
def Cy (e : Eng) : List Int → Eng
  | [] => e
  | p :: ps => Cy (CS e p.toNat) ps
theorem EL : ∀ (ps : List Int) (e : Eng),(Cy e ps).mem = e.mem ∧ (Cy e ps).log = e.log ∧ (Cy e ps).down = e.down ∧ (Cy e ps).disk.length = e.disk.length
  | [],e => ⟨rfl,rfl,rfl,rfl⟩
  | p :: ps,e => by
    obtain ⟨h1,h2,h3,h4⟩:=EL ps (CS e p.toNat)
    exact ⟨h1,h2,h3,h4.trans (by simp [CS])⟩
theorem KQ : ∀ (ps : List Int) (e : Eng) (q : Nat),e.disk.length = 5 → q < 5 → (∀ p ∈ ps,0 ≤ p ∧ p < 5) → pg (Cy e ps).disk q = if (q : Int) ∈ ps then pg e.mem q else pg e.disk q
  | [],e,q,_,_,_ => by rw [if_neg (by simp)];rfl
  | p :: ps,e,q,h5,hq,hp => by
    have h1:=hp p (List.mem_cons_self ..)
    have ih:=KQ ps (CS e p.toNat) q (by simp [CS,h5]) hq (fun x hx => hp x (List.mem_cons_of_mem _ hx))
    show pg (Cy (CS e p.toNat) ps).disk q = _
    rw [ih]
    by_cases h : (q : Int) ∈ ps
    · rw [if_pos h,if_pos (List.mem_cons_of_mem _ h)];rfl
    · rw [if_neg h]
      show pg (e.disk.set p.toNat (pg e.mem p.toNat)) q = _
      rw [Fg (by omega)]
      by_cases e1 : p.toNat = q
      · rw [if_pos e1,if_pos (by rw [show (q : Int) = p by omega];exact List.mem_cons_self ..),e1]
      · rw [if_neg e1,if_neg (fun hx => by
          rcases List.mem_cons.1 hx with hx | hx
          · omega
          · exact h hx)]
theorem ML {e : Eng} {tx : Int} {ps : List Int} (h5 : e.disk.length = 5) (hm : ∀ p : Nat,p < 5 → ((p : Int) ∈ ps ↔ ld e.log tx e.log.length p = true)) (hp : ∀ p ∈ ps,0 ≤ p ∧ p < 5) : { (Cy e ps).app ⟨4,tx,0,0,0,0,0,0⟩ with safe:=(e.log.length + 1 : Nat) } = DN e tx:=by
  obtain ⟨h1,h2,h3,h4⟩:=EL ps e
  have hd : (Cy e ps).disk = FH e tx:=by
    refine List.ext_getElem (by rw [h4,h5];simp [FH]) (fun i h1' h2' => ?_)
    have hi : i < 5:=by rw [h4,h5] at h1';exact h1'
    have hx:=KQ ps e i h5 hi hp
    have hy:=Jy e tx hi
    simp only [pg,List.getD_eq_getElem?_getD,List.getElem?_eq_getElem h1',Option.getD_some] at hx
    simp only [pg,List.getD_eq_getElem?_getD,List.getElem?_eq_getElem h2',Option.getD_some] at hy
    rw [hx,hy]
    by_cases hl : ld e.log tx e.log.length i = true
    · rw [if_pos ((hm i hi).2 hl),if_pos hl]
    · rw [if_neg (fun h => hl ((hm i hi).1 h)),if_neg hl]
  unfold Eng.app DN
  rw [if_neg (by simp [Cx])]
  rw [hd,h1,h2,h3]
theorem KP : ∀ (ps : List Int) (e : Eng) (p : Int),Cy e (ps ++ [p]) = CS (Cy e ps) p.toNat
  | [],_,_ => rfl
  | q :: ps,e,p => KP ps (CS e q.toNat) p
theorem Mi : ∀ (ps : List Int) (e : Eng),geo e.disk → geo e.mem → (∀ p ∈ ps,0 ≤ p ∧ p < 5) → geo (Cy e ps).disk
  | [],_,hd,_,_ => hd
  | q :: ps,e,hd,hm,hp => by
    have h1:=hp q (List.mem_cons_self ..)
    exact Mi ps (CS e q.toNat) (Lm hd (G7 hm (by omega))) hm (fun x hx => hp x (List.mem_cons_of_mem _ hx))
theorem F9 {l : List Rec} (hl : AP l = true) {tx : Int} (h : Ao l tx l.length ≠ 0) : tx = 1 ∨ tx = 2 ∨ tx = 3:=by
  have hle:=Bb l tx l.length
  have hF:=AB hl (k:=Ao l tx l.length - 1) (by omega)
  rcases GR l tx l.length with h1 | h1
  · exact absurd h1 h
  · have h2:=hF.tx1
    have h3:=hF.tx3
    rw [h1] at h2 h3
    omega
def Cz (e : Eng) (tx : Int) (X : Eng) : Eng × Bool:=if e.down = false ∧ Ao e.log tx e.log.length ≠ 0 then (X,true) else (e,false)
theorem PN {w0 w : World} {e : Eng} {C : Nat → Page} {B : Nat} {Ad Am Al : Option Addr} {cd cm cl gt gp gs gv : Nat} (tx page slot val : Int) (hi : Inv e C B) (hB : B + 3 ≤ 150) (hcl : e.log.length ≤ cl) (hb : Below w0.heap.size w0 w) (hr : DF w0 e Ad Am Al) (bt : Ci w gt (.int .i64 tx) 3) (bp : Ci w gp (.int .i64 page) 3) (bs : Ci w gs (.int .i64 slot) 3) (bv : Ci w gv (.int .i64 val) 3) : Calls Tryz.prog 140 #[e.val Ad Am Al cd cm cl, .int .i64 tx, .int .i64 page, .func (.func 139) #[] #[ptr gp,ptr gs,ptr gv], .func (.func 141) #[] #[ptr gt,ptr gp,ptr gs,ptr gv]] w (CQ w (KY e tx page slot val).1 (KY e tx page slot val).2):=by
  refine Ji (b:=(pg e.mem page.toNat).owner != 0 && (inB slot 0 2 && inB val 0 9)) (X:=e.app (MU e tx page slot val)) tx page hi.ok hcl hb hr (fun hm wb wx g hbw hg => ?_) (fun hm hbt wb wx g hbw hg => ?_) (fun hm hbt => ?_)
  · obtain ⟨-, -,h3, -⟩:=Dv.1 hm
    obtain ⟨p,rfl⟩ : ∃ p : Nat,page = (p : Int):=⟨page.toNat,by omega⟩
    have hx:=bj hbw hg.bel
    rw [Int.toNat_natCast]
    exact Rl (show p < 5 by omega) (Ay hi.Gb) hg (bp.up hx) (bs.up hx) (bv.up hx)
  · have hp : OT e tx page slot val = true:=by rw [Q9,hm,hbt];rfl
    have hI:=hi.Uq hB hp
    obtain ⟨hd, -,h3, -⟩:=Dv.1 hm
    obtain ⟨p,rfl⟩ : ∃ p : Nat,page = (p : Int):=⟨page.toNat,by omega⟩
    have hsl : 0 ≤ slot ∧ slot ≤ 2:=by simp only [Bool.and_eq_true,DI] at hbt;omega
    obtain ⟨s,rfl⟩ : ∃ s : Nat,slot = (s : Int):=⟨slot.toNat,by omega⟩
    have hx:=bj hbw hg.bel
    have hdo:=hi.VO (r:=MU e tx (p : Int) (s : Int) val) hd hI rfl ⟨by show (0 : Int) ≤ (p : Int);omega,by show (p : Int) < 5;omega⟩
    rw [show (MU e tx (p : Int) (s : Int) val).page.toNat = p from Int.toNat_natCast p] at hdo
    exact Rk (by omega) (by omega) (Ay hi.Gb) (hI.TU (J5 _ _)) hdo hg (bt.up hx) (bp.up hx) (bs.up hx) (bv.up hx)
  · exact (hi.Uq hB (by rw [Q9,hm,hbt];rfl)).core.log
set_option maxRecDepth 100000 in
set_option maxHeartbeats 16000000 in
theorem N7 {w0 w : World} {e : Eng} {C : Nat → Page} {B : Nat} {Ad Am Al : Option Addr} {cd cm cl : Nat} (tx page slot val : Int) (hi : Inv e C B) (hB : B + 3 ≤ 150) (hcl : e.log.length ≤ cl) (hb : Below w0.heap.size w0 w) (hr : DF w0 e Ad Am Al) : Calls Tryz.prog 82 #[e.val Ad Am Al cd cm cl, .int .i64 tx, .int .i64 page, .int .i64 slot, .int .i64 val] w (CQ w (KY e tx page slot val).1 (KY e tx page slot val).2):=by
  obtain ⟨E,bb,hE⟩ : ∃ E bb,KY e tx page slot val = (E,bb):=⟨_,_,rfl⟩
  have HIN : Ac (∀ wx g_tx g_page g_slot g_val,Below w.heap.size w wx → Ci wx g_tx (.int .i64 tx) 3 → Ci wx g_page (.int .i64 page) 3 → Ci wx g_slot (.int .i64 slot) 3 → Ci wx g_val (.int .i64 val) 3 → Calls Tryz.prog 140 #[e.val Ad Am Al cd cm cl, .int .i64 tx, .int .i64 page, .func (.func 139) #[] #[ptr g_page,ptr g_slot,ptr g_val], .func (.func 141) #[] #[ptr g_tx,ptr g_page,ptr g_slot,ptr g_val]] wx (CQ wx E bb)):=⟨fun wx g_tx g_page g_slot g_val hbx b_tx b_page b_slot b_val => by
    have h:=PN (cd:=cd) (cm:=cm) tx page slot val hi hB hcl (bj hb hbx) hr b_tx b_page b_slot b_val
    rw [hE] at h
    exact h⟩
  rw [hE]
  clear hi hb hr hE hcl hB
  go_enter Tryz.func82,Tryz.ntmps82
  go_wp2_with (first
    | (with_reducible refine Aw (vd:=.slice Ad e.disk.length cd) (vm:=.slice Am e.mem.length cm) (vl:=.slice Al e.log.length cl) e ?_;intro w1 hb1 hz1 hq1;clear hz1;have HB:=As hb1;have HQ:=As hq1;clear hb1 hq1)
    | (with_reducible refine Dn (t:=3) (.int .i64 tx) ?_;intro w2 hb1 hz1 hq1;clear hz1;replace HB:=As (bj HB.out hb1);replace HQ:=As (HQ.out.up hb1);have HC_tx:=As hq1;clear hb1 hq1)
    | (with_reducible refine Dn (t:=3) (.int .i64 page) ?_;intro w3 hb1 hz1 hq1;clear hz1;replace HB:=As (bj HB.out hb1);replace HQ:=As (HQ.out.up hb1);replace HC_tx:=As (HC_tx.out.up hb1);have HC_page:=As hq1;clear hb1 hq1)
    | (with_reducible refine Dn (t:=3) (.int .i64 slot) ?_;intro w4 hb1 hz1 hq1;clear hz1;replace HB:=As (bj HB.out hb1);replace HQ:=As (HQ.out.up hb1);replace HC_tx:=As (HC_tx.out.up hb1);replace HC_page:=As (HC_page.out.up hb1);have HC_slot:=As hq1;clear hb1 hq1)
    | (with_reducible refine Dn (t:=3) (.int .i64 val) ?_;intro w5 hb1 hz1 hq1;clear hz1;replace HB:=As (bj HB.out hb1);replace HQ:=As (HQ.out.up hb1);replace HC_tx:=As (HC_tx.out.up hb1);replace HC_page:=As (HC_page.out.up hb1);replace HC_slot:=As (HC_slot.out.up hb1);have HC_val:=As hq1;clear hb1 hq1)
    | (refine Aw (vd:=.slice none 0 0) (vm:=.slice none 0 0) (vl:=.slice none 0 0) zE ?_;intro w6 hb1 hz1 hq1;have HBG:=As HB.out.size;replace HB:=As (bj HB.out hb1);replace HQ:=As (HQ.out.up hb1);replace HC_tx:=As (HC_tx.out.up hb1);replace HC_page:=As (HC_page.out.up hb1);replace HC_slot:=As (HC_slot.out.up hb1);replace HC_val:=As (HC_val.out.up hb1);have HP:=As hq1;have HZ:=As hz1;have x0:=HQ.out.c0;have x1:=HQ.out.c1;have x2:=HQ.out.c2;have x3:=HQ.out.c3;have x4:=HQ.out.c4;have c_tx:=HC_tx.out.c0;have c_page:=HC_page.out.c0;have c_slot:=HC_slot.out.c0;have c_val:=HC_val.out.c0;clear hb1 hz1 hq1)
    | (go_at_call 140;refine (HIN.out w6 _ _ _ _ HB.out HC_tx.out HC_page.out HC_slot.out HC_val.out).mono ?_;rintro x w7 ⟨vd,vm,vl,rfl,ho,hb2⟩;obtain ⟨Ed,n1,Em,n2,El,n3,rfl,rfl,rfl, -, -⟩:=ho.reads;have HO:=As ho;have HX:=As hb2;have hp:=HP.out.up hb2;have HP2:=As hp;have y0:=hp.c0;have y1:=hp.c1;have y2:=hp.c2;have y3:=hp.c3;have y4:=hp.c4;have f0:=hp.frz 0;have f1:=hp.frz 1;have f2:=hp.frz 2;have f3:=hp.frz 3;have f4:=hp.frz 4;clear hp hb2 ho x0 x1 x2 x3 x4 c_tx c_page c_slot c_val))
  have hy:=HP2.out.Az E (.slice Ed E.disk.length n1) (.slice Em E.mem.length n2) (.slice El E.log.length n3)
  have h1:=HO.out.Az (f:=E) (xd:=.slice Ed E.disk.length n1) (xm:=.slice Em E.mem.length n2) (xl:=.slice El E.log.length n3) HP2.out
  have hge:=HBG.out
  have hzz:=HZ.out
  have h2:=Ak (g:=w5.heap.size) (bj HB.out HX.out) hge E (.slice Ed E.disk.length n1) (.slice Em E.mem.length n2) (.slice El E.log.length n3)
  have z0:=hy.c0
  have z1:=hy.c1
  have z2:=hy.c2
  have z3:=hy.c3
  have z4:=hy.c4
  exact bodyPost_ret (v:=.tuple #[E.ag (.slice Ed E.disk.length n1) (.slice Em E.mem.length n2) (.slice El E.log.length n3), .bool bb]) (by simp [results,Tryz.results82,go_sem,z0,z1,z2,z3,z4]) rfl ⟨_,_,_,rfl,h1.lower (by omega),h2⟩
set_option maxRecDepth 100000 in
set_option maxHeartbeats 16000000 in
theorem Jj {w0 w : World} {e : Eng} {Ad Am Al : Option Addr} {cd cm cl : Nat} (tx page : Int) {p5 p6 p7 : Value} {b : Bool} {X : Eng} (hok : eOk e = true) (hcl : e.log.length ≤ cl) (hb : Below w0.heap.size w0 w) (hr : DF w0 e Ad Am Al)
    (hh : DL e tx page = true → ∀ wb wx g,Below w.heap.size w wb → BO wb wx g e → Calls Tryz.prog 142 #[ptr g,p6,p7] wx fun x w' => x = .returned (.bool b) ∧ Below wx.heap.size wx w')
    (hw : DL e tx page = true → b = true → ∀ wb wx g,Below w.heap.size w wb → BO wb wx g e → Calls Tryz.prog 144 #[ptr g,p5,p6,p7] wx (Hy wb g X))
    (hX : DL e tx page = true → b = true → AP X.log = true) : Calls Tryz.prog 140 #[e.val Ad Am Al cd cm cl, .int .i64 tx, .int .i64 page, .func (.func 142) #[] #[p6,p7], .func (.func 144) #[] #[p5,p6,p7]] w (CQ w (Bp e (DL e tx page && b) X).1 (Bp e (DL e tx page && b) X).2):=by
  have HR:=As (hr.up hb)
  have HH:=As hh
  have HW:=As hw
  have HLX:=As hX
  have HV:=As hok
  have HF:=As (Fh.1 hok)
  have HLG:=As (Bg HF.out.log)
  clear hr hb hh hw hX hok
  obtain ⟨w1,hw1⟩ : ∃ w1,w.alloc (e.obox (.slice Ad e.disk.length cd) (.slice Am e.mem.length cm) (.slice Al e.log.length cl)) = w1:=⟨_,rfl⟩
  obtain ⟨w2,hw2⟩ : ∃ w2,w1.alloc (zE.obox (.slice none 0 0) (.slice none 0 0) (.slice none 0 0)) = w2:=⟨_,rfl⟩
  have hz1 : w1.heap.size = w.heap.size + 1:=by rw [← hw1];exact BA _ _
  have hz2 : w2.heap.size = w.heap.size + 2:=by rw [← hw2,BA,hz1]
  have hb12 : Below w1.heap.size w1 w2:=by rw [← hw2];exact Ah (Below.refl _ _) _
  have HB2 : Ac (Below w.heap.size w w2):=⟨by rw [← hw2, ← hw1];exact Ah (Ah (Below.refl _ _) _) _⟩
  have HQ2 : Ac (Ai w2 w.heap.size e (.slice Ad e.disk.length cd) (.slice Am e.mem.length cm) (.slice Al e.log.length cl)):=⟨Ai.up (by rw [← hw1];exact Ai.mk1 _ _ _ _ _) hb12⟩
  have HP2 : Ac (Ai w2 (w.heap.size + 1) zE (.slice none 0 0) (.slice none 0 0) (.slice none 0 0)):=⟨by rw [← hw2, ← hz1];exact Ai.mk1 _ _ _ _ _⟩
  have HW2 : Ac ((w.alloc (e.obox (.slice Ad e.disk.length cd) (.slice Am e.mem.length cm) (.slice Al e.log.length cl))).alloc (zE.obox (.slice none 0 0) (.slice none 0 0) (.slice none 0 0)) = w2):=⟨by rw [hw1,hw2]⟩
  have HZ2:=As hz2
  clear hw1 hw2 hz1 hz2 hb12
  have x0:=HQ2.out.c0
  have x1:=HQ2.out.c1
  have x2:=HQ2.out.c2
  have x3:=HQ2.out.c3
  have x4:=HQ2.out.c4
  cases hm : DL e tx page
  · have HM:=As hm
    rw [show Bp e (false && b) X = (e,false) by rw [Bp,if_neg (by simp)]]
    clear hm
    go_enter Tryz.func140,Tryz.ntmps140
    go_wp2_with (first
      | (go_at_call 36;rw [show (w.alloc (Obj.cells #[Value.slice Ad e.disk.length cd,Value.slice Am e.mem.length cm,Value.slice Al e.log.length cl,Value.int IntKind.i64 e.safe,Value.bool e.down] 28)).alloc (Obj.cells #[Value.slice none 0 0,Value.slice none 0 0,Value.slice none 0 0,Value.int IntKind.i64 0,Value.bool false] 28) = w2 from HW2.out];refine (AL (cd:=cd) (cm:=cm) HV.out hcl HB2.out HR.out).mono ?_;rintro x w3 ⟨rfl,hb3⟩;have HX3:=As hb3;replace x0:=bc hb3 x0;replace x1:=bc hb3 x1;replace x2:=bc hb3 x2;replace x3:=bc hb3 x3;replace x4:=bc hb3 x4;clear hb3)
      | (go_at_call 38;refine (AV (cd:=cd) (cm:=cm) (cl:=cl) (Ay HF.out.disk) (Ay HF.out.mem) HLG.out (bj HB2.out HX3.out) HR.out).mono ?_;rintro x w4 ⟨vd,vm,vl,rfl,ho,hb4⟩;obtain ⟨Bd,dd,Bm,dm,Bl,dl,rfl,rfl,rfl, -, -⟩:=ho.reads;have HO4:=As ho;have HX4:=As hb4;replace x0:=bc hb4 x0;replace x1:=bc hb4 x1;replace x2:=bc hb4 x2;replace x3:=bc hb4 x3;replace x4:=bc hb4 x4;clear ho hb4)
      | (refine Aw (vd:=.slice Bd e.disk.length dd) (vm:=.slice Bm e.mem.length dm) (vl:=.slice Bl e.log.length dl) e ?_;intro w5 hb5 _ hq5;have HG5 : Ac (BO w3 w5 w4.heap.size e):=⟨⟨⟨_,_,_,hq5,HO4.out.below hb5⟩,bj HX4.out hb5,HX4.out.size⟩⟩;replace x0:=bc hb5 x0;replace x1:=bc hb5 x1;replace x2:=bc hb5 x2;replace x3:=bc hb5 x3;replace x4:=bc hb5 x4;clear hb5 hq5)
      | (go_at_call 176;refine (Dq tx page HF.out.log HG5.out).mono ?_;rw [HM.out];rintro x w6 ⟨rfl,hb6⟩;have HG6:=As (HG5.out.up hb6);replace x0:=bc hb6 x0;replace x1:=bc hb6 x1;replace x2:=bc hb6 x2;replace x3:=bc hb6 x3;replace x4:=bc hb6 x4;clear hb6;clear x0 x1 x2 x3 x4;obtain ⟨ud,um,ul,hq,ho⟩:=HG6.out.ex;obtain ⟨Ed,n1,Em,n2,El,n3,rfl,rfl,rfl, -, -⟩:=ho.reads;have HO7:=As ho;have q0:=hq.c0;have q1:=hq.c1;have q2:=hq.c2;have q3:=hq.c3;have q4:=hq.c4;have hx2:=bj HX3.out HG6.out.bel;have HX7:=As HG6.out.bel;have hp:=HP2.out.up hx2;have HP7:=As hp;have y0:=hp.c0;have y1:=hp.c1;have y2:=hp.c2;have y3:=hp.c3;have y4:=hp.c4;have f0:=hp.frz 0;have f1:=hp.frz 1;have f2:=hp.frz 2;have f3:=hp.frz 3;have f4:=hp.frz 4;clear hp;clear hq ho hx2))
    have hz:=HZ2.out
    have hn3:=HX3.out.size
    have hy:=HP7.out.Az e (.slice Ed e.disk.length n1) (.slice Em e.mem.length n2) (.slice El e.log.length n3)
    have h1:=HO7.out.Az (f:=e) (xd:=.slice Ed e.disk.length n1) (xm:=.slice Em e.mem.length n2) (xl:=.slice El e.log.length n3) HP7.out
    have h2:=Ak (g:=w.heap.size + 1) (bj HB2.out (bj HX3.out HX7.out)) (by omega) e (.slice Ed e.disk.length n1) (.slice Em e.mem.length n2) (.slice El e.log.length n3)
    have z0:=hy.c0
    have z1:=hy.c1
    have z2:=hy.c2
    have z3:=hy.c3
    have z4:=hy.c4
    exact bodyPost_ret (v:=.tuple #[e.ag (.slice Ed e.disk.length n1) (.slice Em e.mem.length n2) (.slice El e.log.length n3), .bool false]) (by simp [results,Tryz.results140,go_sem,z0,z1,z2,z3,z4]) rfl ⟨_,_,_,rfl,h1.lower (by omega),h2⟩
  · have HM:=As hm
    clear hm
    cases b
    · rw [show Bp e (true && false) X = (e,false) by rw [Bp,if_neg (by simp)]]
      go_enter Tryz.func140,Tryz.ntmps140
      go_wp2_with (first
        | (go_at_call 36;rw [show (w.alloc (Obj.cells #[Value.slice Ad e.disk.length cd,Value.slice Am e.mem.length cm,Value.slice Al e.log.length cl,Value.int IntKind.i64 e.safe,Value.bool e.down] 28)).alloc (Obj.cells #[Value.slice none 0 0,Value.slice none 0 0,Value.slice none 0 0,Value.int IntKind.i64 0,Value.bool false] 28) = w2 from HW2.out];refine (AL (cd:=cd) (cm:=cm) HV.out hcl HB2.out HR.out).mono ?_;rintro x w3 ⟨rfl,hb3⟩;have HX3:=As hb3;replace x0:=bc hb3 x0;replace x1:=bc hb3 x1;replace x2:=bc hb3 x2;replace x3:=bc hb3 x3;replace x4:=bc hb3 x4;clear hb3)
        | (go_at_call 38;refine (AV (cd:=cd) (cm:=cm) (cl:=cl) (Ay HF.out.disk) (Ay HF.out.mem) HLG.out (bj HB2.out HX3.out) HR.out).mono ?_;rintro x w4 ⟨vd,vm,vl,rfl,ho,hb4⟩;obtain ⟨Bd,dd,Bm,dm,Bl,dl,rfl,rfl,rfl, -, -⟩:=ho.reads;have HO4:=As ho;have HX4:=As hb4;replace x0:=bc hb4 x0;replace x1:=bc hb4 x1;replace x2:=bc hb4 x2;replace x3:=bc hb4 x3;replace x4:=bc hb4 x4;clear ho hb4)
        | (refine Aw (vd:=.slice Bd e.disk.length dd) (vm:=.slice Bm e.mem.length dm) (vl:=.slice Bl e.log.length dl) e ?_;intro w5 hb5 _ hq5;have HG5 : Ac (BO w3 w5 w4.heap.size e):=⟨⟨⟨_,_,_,hq5,HO4.out.below hb5⟩,bj HX4.out hb5,HX4.out.size⟩⟩;replace x0:=bc hb5 x0;replace x1:=bc hb5 x1;replace x2:=bc hb5 x2;replace x3:=bc hb5 x3;replace x4:=bc hb5 x4;clear hb5 hq5)
        | (go_at_call 176;refine (Dq tx page HF.out.log HG5.out).mono ?_;rw [HM.out];rintro x w6 ⟨rfl,hb6⟩;have HG6:=As (HG5.out.up hb6);replace x0:=bc hb6 x0;replace x1:=bc hb6 x1;replace x2:=bc hb6 x2;replace x3:=bc hb6 x3;replace x4:=bc hb6 x4;clear hb6)
        | (go_at_call 142;refine (HH.out HM.out w3 w6 w4.heap.size (bj HB2.out HX3.out) HG6.out).mono ?_;rintro x w7 ⟨rfl,hb7⟩;have HG7:=As (HG6.out.up hb7);replace x0:=bc hb7 x0;replace x1:=bc hb7 x1;replace x2:=bc hb7 x2;replace x3:=bc hb7 x3;replace x4:=bc hb7 x4;clear hb7;clear x0 x1 x2 x3 x4;obtain ⟨ud,um,ul,hq,ho⟩:=HG7.out.ex;obtain ⟨Ed,n1,Em,n2,El,n3,rfl,rfl,rfl, -, -⟩:=ho.reads;have HO7:=As ho;have q0:=hq.c0;have q1:=hq.c1;have q2:=hq.c2;have q3:=hq.c3;have q4:=hq.c4;have hx2:=bj HX3.out HG7.out.bel;have HX7:=As HG7.out.bel;have hp:=HP2.out.up hx2;have HP7:=As hp;have y0:=hp.c0;have y1:=hp.c1;have y2:=hp.c2;have y3:=hp.c3;have y4:=hp.c4;have f0:=hp.frz 0;have f1:=hp.frz 1;have f2:=hp.frz 2;have f3:=hp.frz 3;have f4:=hp.frz 4;clear hp;clear hq ho hx2))
      have hz:=HZ2.out
      have hn3:=HX3.out.size
      have hy:=HP7.out.Az e (.slice Ed e.disk.length n1) (.slice Em e.mem.length n2) (.slice El e.log.length n3)
      have h1:=HO7.out.Az (f:=e) (xd:=.slice Ed e.disk.length n1) (xm:=.slice Em e.mem.length n2) (xl:=.slice El e.log.length n3) HP7.out
      have h2:=Ak (g:=w.heap.size + 1) (bj HB2.out (bj HX3.out HX7.out)) (by omega) e (.slice Ed e.disk.length n1) (.slice Em e.mem.length n2) (.slice El e.log.length n3)
      have z0:=hy.c0
      have z1:=hy.c1
      have z2:=hy.c2
      have z3:=hy.c3
      have z4:=hy.c4
      exact bodyPost_ret (v:=.tuple #[e.ag (.slice Ed e.disk.length n1) (.slice Em e.mem.length n2) (.slice El e.log.length n3), .bool false]) (by simp [results,Tryz.results140,go_sem,z0,z1,z2,z3,z4]) rfl ⟨_,_,_,rfl,h1.lower (by omega),h2⟩
    · cases hfx : Iw X.log
      all_goals have HFX:=As hfx;have HWW:=As (HW.out HM.out rfl);have HLL:=As (HLX.out HM.out rfl);clear HW HLX
      · rw [show Bp e (true && true) X = (e,false) by rw [Bp,if_neg (by rw [hfx];simp)]]
        clear hfx
        go_enter Tryz.func140,Tryz.ntmps140
        go_wp2_with (first
          | (go_at_call 36;rw [show (w.alloc (Obj.cells #[Value.slice Ad e.disk.length cd,Value.slice Am e.mem.length cm,Value.slice Al e.log.length cl,Value.int IntKind.i64 e.safe,Value.bool e.down] 28)).alloc (Obj.cells #[Value.slice none 0 0,Value.slice none 0 0,Value.slice none 0 0,Value.int IntKind.i64 0,Value.bool false] 28) = w2 from HW2.out];refine (AL (cd:=cd) (cm:=cm) HV.out hcl HB2.out HR.out).mono ?_;rintro x w3 ⟨rfl,hb3⟩;have HX3:=As hb3;replace x0:=bc hb3 x0;replace x1:=bc hb3 x1;replace x2:=bc hb3 x2;replace x3:=bc hb3 x3;replace x4:=bc hb3 x4;clear hb3)
          | (go_at_call 38;refine (AV (cd:=cd) (cm:=cm) (cl:=cl) (Ay HF.out.disk) (Ay HF.out.mem) HLG.out (bj HB2.out HX3.out) HR.out).mono ?_;rintro x w4 ⟨vd,vm,vl,rfl,ho,hb4⟩;obtain ⟨Bd,dd,Bm,dm,Bl,dl,rfl,rfl,rfl, -, -⟩:=ho.reads;have HO4:=As ho;have HX4:=As hb4;replace x0:=bc hb4 x0;replace x1:=bc hb4 x1;replace x2:=bc hb4 x2;replace x3:=bc hb4 x3;replace x4:=bc hb4 x4;clear ho hb4)
          | (refine Aw (vd:=.slice Bd e.disk.length dd) (vm:=.slice Bm e.mem.length dm) (vl:=.slice Bl e.log.length dl) e ?_;intro w5 hb5 _ hq5;have HG5 : Ac (BO w3 w5 w4.heap.size e):=⟨⟨⟨_,_,_,hq5,HO4.out.below hb5⟩,bj HX4.out hb5,HX4.out.size⟩⟩;replace x0:=bc hb5 x0;replace x1:=bc hb5 x1;replace x2:=bc hb5 x2;replace x3:=bc hb5 x3;replace x4:=bc hb5 x4;clear hb5 hq5)
          | (go_at_call 176;refine (Dq tx page HF.out.log HG5.out).mono ?_;rw [HM.out];rintro x w6 ⟨rfl,hb6⟩;have HG6:=As (HG5.out.up hb6);replace x0:=bc hb6 x0;replace x1:=bc hb6 x1;replace x2:=bc hb6 x2;replace x3:=bc hb6 x3;replace x4:=bc hb6 x4;clear hb6)
          | (go_at_call 142;refine (HH.out HM.out w3 w6 w4.heap.size (bj HB2.out HX3.out) HG6.out).mono ?_;rintro x w7 ⟨rfl,hb7⟩;have HG7:=As (HG6.out.up hb7);replace x0:=bc hb7 x0;replace x1:=bc hb7 x1;replace x2:=bc hb7 x2;replace x3:=bc hb7 x3;replace x4:=bc hb7 x4;clear hb7)
          | (go_at_call 144;refine (HWW.out w3 w7 w4.heap.size (bj HB2.out HX3.out) HG7.out).mono ?_;rintro x w8 ⟨⟨v,rfl⟩,hg8⟩;obtain ⟨ud,um,ul,hq,ho⟩:=hg8.ex;obtain ⟨Ed,n1,Em,n2,El,n3,rfl,rfl,rfl, -,hc⟩:=ho.reads;have HO8:=As ho;have HC8:=As hc;have HX8:=As hg8.bel;have q0:=hq.c0;have q1:=hq.c1;have q2:=hq.c2;have q3:=hq.c3;have q4:=hq.c4;clear x0 x1 x2 x3 x4;have hq2:=HQ2.out.up (bj HX3.out hg8.bel);have x0:=hq2.c0;have x1:=hq2.c1;have x2:=hq2.c2;have x3:=hq2.c3;have x4:=hq2.c4;clear hq ho hc hq2 hg8)
          | (go_at_call 78;refine (E5 (w0:=w8) (c:=n3) (Below.refl _ _) HC8.out.l HLL.out).mono ?_;rw [HFX.out];rintro x w9 ⟨rfl,hb9⟩;replace x0:=bc hb9 x0;replace x1:=bc hb9 x1;replace x2:=bc hb9 x2;replace x3:=bc hb9 x3;replace x4:=bc hb9 x4;have HX9:=As (bj HX8.out hb9);clear q0 q1 q2 q3 q4 hb9)
          | (go_at_call 38;refine (AV (cd:=cd) (cm:=cm) (cl:=cl) (Ay HF.out.disk) (Ay HF.out.mem) HLG.out (bj HB2.out (bj HX3.out HX9.out)) HR.out).mono ?_;rintro x w10 ⟨vd,vm,vl,rfl,ho,hb10⟩;obtain ⟨Ed,n1,Em,n2,El,n3,rfl,rfl,rfl, -, -⟩:=ho.reads;have HO7:=As (ho.lower (b':=w3.heap.size) HX9.out.size);have HX7:=As (bj HX9.out hb10);clear x0 x1 x2 x3 x4 ho hb10;have hp:=HP2.out.up (bj HX3.out HX7.out);have HP7:=As hp;have y0:=hp.c0;have y1:=hp.c1;have y2:=hp.c2;have y3:=hp.c3;have y4:=hp.c4;have f0:=hp.frz 0;have f1:=hp.frz 1;have f2:=hp.frz 2;have f3:=hp.frz 3;have f4:=hp.frz 4;clear hp))
        have hz:=HZ2.out
        have hn3:=HX3.out.size
        have hy:=HP7.out.Az e (.slice Ed e.disk.length n1) (.slice Em e.mem.length n2) (.slice El e.log.length n3)
        have h1:=HO7.out.Az (f:=e) (xd:=.slice Ed e.disk.length n1) (xm:=.slice Em e.mem.length n2) (xl:=.slice El e.log.length n3) HP7.out
        have h2:=Ak (g:=w.heap.size + 1) (bj HB2.out (bj HX3.out HX7.out)) (by omega) e (.slice Ed e.disk.length n1) (.slice Em e.mem.length n2) (.slice El e.log.length n3)
        have z0:=hy.c0
        have z1:=hy.c1
        have z2:=hy.c2
        have z3:=hy.c3
        have z4:=hy.c4
        exact bodyPost_ret (v:=.tuple #[e.ag (.slice Ed e.disk.length n1) (.slice Em e.mem.length n2) (.slice El e.log.length n3), .bool false]) (by simp [results,Tryz.results140,go_sem,z0,z1,z2,z3,z4]) rfl ⟨_,_,_,rfl,h1.lower (by omega),h2⟩
      · rw [show Bp e (true && true) X = (X,true) by rw [Bp,if_pos ⟨rfl,hfx⟩]]
        clear hfx
        go_enter Tryz.func140,Tryz.ntmps140
        go_wp2_with (first
          | (go_at_call 36;rw [show (w.alloc (Obj.cells #[Value.slice Ad e.disk.length cd,Value.slice Am e.mem.length cm,Value.slice Al e.log.length cl,Value.int IntKind.i64 e.safe,Value.bool e.down] 28)).alloc (Obj.cells #[Value.slice none 0 0,Value.slice none 0 0,Value.slice none 0 0,Value.int IntKind.i64 0,Value.bool false] 28) = w2 from HW2.out];refine (AL (cd:=cd) (cm:=cm) HV.out hcl HB2.out HR.out).mono ?_;rintro x w3 ⟨rfl,hb3⟩;have HX3:=As hb3;replace x0:=bc hb3 x0;replace x1:=bc hb3 x1;replace x2:=bc hb3 x2;replace x3:=bc hb3 x3;replace x4:=bc hb3 x4;clear hb3)
          | (go_at_call 38;refine (AV (cd:=cd) (cm:=cm) (cl:=cl) (Ay HF.out.disk) (Ay HF.out.mem) HLG.out (bj HB2.out HX3.out) HR.out).mono ?_;rintro x w4 ⟨vd,vm,vl,rfl,ho,hb4⟩;obtain ⟨Bd,dd,Bm,dm,Bl,dl,rfl,rfl,rfl, -, -⟩:=ho.reads;have HO4:=As ho;have HX4:=As hb4;replace x0:=bc hb4 x0;replace x1:=bc hb4 x1;replace x2:=bc hb4 x2;replace x3:=bc hb4 x3;replace x4:=bc hb4 x4;clear ho hb4)
          | (refine Aw (vd:=.slice Bd e.disk.length dd) (vm:=.slice Bm e.mem.length dm) (vl:=.slice Bl e.log.length dl) e ?_;intro w5 hb5 _ hq5;have HG5 : Ac (BO w3 w5 w4.heap.size e):=⟨⟨⟨_,_,_,hq5,HO4.out.below hb5⟩,bj HX4.out hb5,HX4.out.size⟩⟩;replace x0:=bc hb5 x0;replace x1:=bc hb5 x1;replace x2:=bc hb5 x2;replace x3:=bc hb5 x3;replace x4:=bc hb5 x4;clear hb5 hq5)
          | (go_at_call 176;refine (Dq tx page HF.out.log HG5.out).mono ?_;rw [HM.out];rintro x w6 ⟨rfl,hb6⟩;have HG6:=As (HG5.out.up hb6);replace x0:=bc hb6 x0;replace x1:=bc hb6 x1;replace x2:=bc hb6 x2;replace x3:=bc hb6 x3;replace x4:=bc hb6 x4;clear hb6)
          | (go_at_call 142;refine (HH.out HM.out w3 w6 w4.heap.size (bj HB2.out HX3.out) HG6.out).mono ?_;rintro x w7 ⟨rfl,hb7⟩;have HG7:=As (HG6.out.up hb7);replace x0:=bc hb7 x0;replace x1:=bc hb7 x1;replace x2:=bc hb7 x2;replace x3:=bc hb7 x3;replace x4:=bc hb7 x4;clear hb7)
          | (go_at_call 144;refine (HWW.out w3 w7 w4.heap.size (bj HB2.out HX3.out) HG7.out).mono ?_;rintro x w8 ⟨⟨v,rfl⟩,hg8⟩;obtain ⟨ud,um,ul,hq,ho⟩:=hg8.ex;obtain ⟨Ed,n1,Em,n2,El,n3,rfl,rfl,rfl, -,hc⟩:=ho.reads;have HO8:=As ho;have HC8:=As hc;have HX8:=As hg8.bel;have q0:=hq.c0;have q1:=hq.c1;have q2:=hq.c2;have q3:=hq.c3;have q4:=hq.c4;clear x0 x1 x2 x3 x4;have hq2:=HQ2.out.up (bj HX3.out hg8.bel);have x0:=hq2.c0;have x1:=hq2.c1;have x2:=hq2.c2;have x3:=hq2.c3;have x4:=hq2.c4;clear hq ho hc hq2 hg8)
          | (go_at_call 78;refine (E5 (w0:=w8) (c:=n3) (Below.refl _ _) HC8.out.l HLL.out).mono ?_;rw [HFX.out];rintro x w9 ⟨rfl,hb9⟩;replace q0:=bc hb9 q0;replace q1:=bc hb9 q1;replace q2:=bc hb9 q2;replace q3:=bc hb9 q3;replace q4:=bc hb9 q4;clear x0 x1 x2 x3 x4;have HX7:=As (bj HX8.out hb9);have HO7:=As (HO8.out.below hb9);have hp:=HP2.out.up (bj HX3.out HX7.out);have HP7:=As hp;have y0:=hp.c0;have y1:=hp.c1;have y2:=hp.c2;have y3:=hp.c3;have y4:=hp.c4;have f0:=hp.frz 0;have f1:=hp.frz 1;have f2:=hp.frz 2;have f3:=hp.frz 3;have f4:=hp.frz 4;clear hp;clear hb9))
        have hz:=HZ2.out
        have hn3:=HX3.out.size
        have hy:=HP7.out.Az X (.slice Ed X.disk.length n1) (.slice Em X.mem.length n2) (.slice El X.log.length n3)
        have h1:=HO7.out.Az (f:=X) (xd:=.slice Ed X.disk.length n1) (xm:=.slice Em X.mem.length n2) (xl:=.slice El X.log.length n3) HP7.out
        have h2:=Ak (g:=w.heap.size + 1) (bj HB2.out (bj HX3.out HX7.out)) (by omega) X (.slice Ed X.disk.length n1) (.slice Em X.mem.length n2) (.slice El X.log.length n3)
        have z0:=hy.c0
        have z1:=hy.c1
        have z2:=hy.c2
        have z3:=hy.c3
        have z4:=hy.c4
        exact bodyPost_ret (v:=.tuple #[X.ag (.slice Ed X.disk.length n1) (.slice Em X.mem.length n2) (.slice El X.log.length n3), .bool true]) (by simp [results,Tryz.results140,go_sem,z0,z1,z2,z3,z4]) rfl ⟨_,_,_,rfl,h1.lower (by omega),h2⟩
set_option maxRecDepth 100000 in
set_option maxHeartbeats 8000000 in
theorem G9 {w0 w : World} {A : Option Addr} {c : Nat} {p : Page} {b : Bool} (hok : Bv p = true) (hv : EK p.vals = b) (hb : Below w0.heap.size w0 w) (hr : Kd.C (Kd.int .i64) w0 A p.vals.length p.vals) : Calls Tryz.prog 143 #[p.val A c] w fun x w' => x = .returned (.bool b) ∧ Below w.heap.size w w':=by
  have HR:=As (BM hr hb)
  have HV:=As hok
  have HZ:=As hv
  obtain ⟨w1,hw1⟩ : ∃ w1,w.alloc (Obj.cells #[Value.int IntKind.i64 p.lsn,Value.int IntKind.i64 p.owner,Value.slice A p.vals.length c] 81) = w1:=⟨_,rfl⟩
  have HB1 : Ac (Below w.heap.size w w1):=⟨by rw [← hw1];exact Ah (Below.refl _ _) _⟩
  have HP : Ac (AY w1 w.heap.size p (.slice A p.vals.length c)):=⟨by rw [← hw1];exact AY.mk1 _ _ _⟩
  have HW1:=As hw1
  have x0:=HP.out.c0
  have x1:=HP.out.c1
  have x2:=HP.out.c2
  clear hr hb hok hv hw1
  go_enter Tryz.func143,Tryz.ntmps143
  go_wp2_with (first
    | (go_at_call 131;rw [HW1.out];refine (Dz HV.out HB1.out HR.out).mono ?_;rintro x w2 ⟨rfl,hb2⟩;replace x2:=bc hb2 x2;have HB2:=As (bj HB1.out hb2);clear hb2 x0 x1)
    | (go_at_call 172;refine (Kn HZ.out HB2.out HR.out).mono ?_;rintro x w3 ⟨rfl,rfl⟩))
  go_ret
  exact ⟨rfl,HB2.out⟩
set_option maxRecDepth 100000 in
set_option maxHeartbeats 8000000 in
theorem Rs {w0 w : World} {g gp gt : Nat} {e : Eng} {p : Nat} {table : Int} (hp : p < 5) (hps : H8 e.mem = true) (h : BO w0 w g e) (bp : Ci w gp (.int .i64 (p : Int)) 3) (bt : Ci w gt (.int .i64 table) 3) : Calls Tryz.prog 142 #[ptr g,ptr gp,ptr gt] w fun x w' => x = .returned (.bool (inB table 0 3 && (((pg e.mem p).owner == 0) != (table == 0) && EK (pg e.mem p).vals))) ∧ Below w.heap.size w w':=by
  obtain ⟨⟨vd,vm,vl,hq,ho⟩, -, -⟩:=h
  obtain ⟨okd,okm, -, -,hpm⟩:=ho.ex
  have hg5:=(Ay hps).1
  obtain ⟨gm,capm,rfl, -, -⟩:=Cq hpm (by omega)
  have hpl : p < e.mem.length:=by omega
  obtain ⟨A2,c2,p0,p1,p2,pC, -⟩:=DC hpm p hpl
  have hp5i : (p : Int) < 5:=by omega
  have x1:=hq.c1
  have y1:=bp.c0
  have y2:=bt.c0
  obtain ⟨z,hz⟩ : ∃ z,EK (pg e.mem p).vals = z:=⟨_,rfl⟩
  have HZ:=As hz
  have HOK:=As ((Cv.1 hps).2 p hp)
  have HC:=As pC
  obtain ⟨P,hP⟩ : ∃ P,pg e.mem p = P:=⟨_,rfl⟩
  rw [hP] at HZ HOK HC p0 p1 p2 ⊢
  rw [HZ.out]
  clear ho hpm hq bp bt hps hz pC hP
  cases h1 : inB table 0 3
  all_goals rcases BS P.owner 0 with ⟨e1,b1,c1⟩ | ⟨e1,b1,c1⟩
  all_goals rcases BS table 0 with ⟨e2,b2,c2_⟩ | ⟨e2,b2,c2_⟩
  all_goals
    have H1:=As h1
    clear h1
    go_enter Tryz.func142,Tryz.ntmps142
    go_wp2
    refine AX (fun lx a wx => Below w.heap.size w wx ∧ Sl 7 5 (fun v wx => ∃ B,v = ptr B ∧ w.heap.size ≤ B ∧ AY wx B zp (.slice none 0 0)) lx a wx) 8 rfl (by kernel_rfl) (⟨Aj (Below.refl _ _),AZ⟩) (fun HT => ?_)
    refine Ae (i:=0) (v:=?_) HT rfl (by kernel_rfl) rfl (kA Aa (Ab rfl rfl)) (by rfl) (fun _ _ _ h => h) (fun lx ax wx hS => ?_) ?_;rotate_left;(have hbx:=hS.1;clear hS;replace x1:=bc hbx x1;replace y1:=bc hbx y1;replace p0:=bc hbx p0;replace p1:=bc hbx p1;replace p2:=bc hbx p2;go_simp;with_reducible rfl);rotate_left;simp only [sc0,sc1]
    refine Ae (i:=1) (v:=?_) HT rfl (by kernel_rfl) rfl (kA Aa (Ab rfl rfl)) (by rfl) (fun _ _ _ h => h) (fun lx ax wx hS => ?_) ?_;rotate_left;(have hbx:=hS.1;clear hS;replace x1:=bc hbx x1;replace y1:=bc hbx y1;replace p0:=bc hbx p0;replace p1:=bc hbx p1;replace p2:=bc hbx p2;go_simp;with_reducible rfl);rotate_left;simp only [sc0,sc1]
    refine Ae (i:=2) (v:=?_) HT rfl (by kernel_rfl) rfl (kA Aa (Ab rfl rfl)) (by rfl) (fun _ _ _ h => h) (fun lx ax wx hS => ?_) ?_;rotate_left;(have hbx:=hS.1;clear hS;replace x1:=bc hbx x1;replace y1:=bc hbx y1;replace p0:=bc hbx p0;replace p1:=bc hbx p1;replace p2:=bc hbx p2;go_simp;with_reducible rfl);rotate_left;simp only [sc0,sc1]
    refine Ae (i:=3) (v:=?_) HT rfl (by kernel_rfl) rfl (kA Aa (Ab rfl rfl)) (by rfl) (fun _ _ _ h => h) (fun lx ax wx hS => ?_) ?_;rotate_left;(have hbx:=hS.1;clear hS;replace x1:=bc hbx x1;replace y1:=bc hbx y1;replace p0:=bc hbx p0;replace p1:=bc hbx p1;replace p2:=bc hbx p2;go_simp;with_reducible rfl);rotate_left;simp only [sc0,sc1]
    refine Ae (i:=4) (v:=?_) HT rfl (by kernel_rfl) rfl (kA Aa (Ab rfl rfl)) (by rfl) (fun _ _ _ h => h) (fun lx ax wx hS => ?_) ?_;rotate_left;(have hbx:=hS.1;clear hS;replace x1:=bc hbx x1;replace y1:=bc hbx y1;replace p0:=bc hbx p0;replace p1:=bc hbx p1;replace p2:=bc hbx p2;go_simp;with_reducible rfl);rotate_left;simp only [sc0,sc1]
    refine Ae (i:=5) (v:=?_) HT rfl (by kernel_rfl) rfl (kA Aa (Ab rfl rfl)) (by rfl) (fun _ _ _ h => h) (fun lx ax wx hS => ?_) ?_;rotate_left;(have hbx:=hS.1;clear hS;replace x1:=bc hbx x1;replace y1:=bc hbx y1;replace p0:=bc hbx p0;replace p1:=bc hbx p1;replace p2:=bc hbx p2;go_simp;with_reducible rfl);rotate_left;simp only [sc0,sc1]
    refine Ae (i:=6) (v:=?_) HT rfl (by kernel_rfl) rfl (kA Aa (Ab rfl rfl)) (by rfl) (fun _ _ _ h => h) (fun lx ax wx hS => ?_) ?_;rotate_left;(have hbx:=hS.1;clear hS;replace x1:=bc hbx x1;replace y1:=bc hbx y1;replace p0:=bc hbx p0;replace p1:=bc hbx p1;replace p2:=bc hbx p2;go_simp;with_reducible rfl);rotate_left;simp only [sc0,sc1]
    refine AQ [7] (by kernel_rfl) (fun i hi wx hS => ?_)
    obtain rfl:=List.mem_singleton.1 hi
    clear hi
    refine Bw (w1:=wx.alloc Cw) (ptr wx.heap.size) rfl rfl (by rfl) (by go_simp) ?_
    refine ⟨⟨bj hS.1 (Ah (Below.refl _ _) _),fun _ => ⟨wx.heap.size,rfl,hS.1.size,AY.mk1 wx zp _⟩⟩,?_⟩
    obtain ⟨B,hB⟩ : ∃ B,wx.heap.size = B:=⟨_,rfl⟩
    rw [hB]
    clear hB hS
    simp only [sc0,sc1]
    refine BQ (i:=8) (by kernel_rfl) rfl (fun wx hS => ?_)
    obtain ⟨h1,h2⟩:=hS
    obtain ⟨B',hB',hN,hQ⟩:=h2 (by kernel_rfl)
    have hB' : ptr B = ptr B':=hB'
    obtain rfl : B = B':=by simpa using hB'
    have z0:=hQ.c0
    have z1:=hQ.c1
    have z2:=hQ.c2
    have f0:=hQ.frz 0
    have f1:=hQ.frz 1
    have f2:=hQ.frz 2
    refine Bh (w1:=Go.Proofs.YtpjmlpmhgfghbaaGreat.Cu wx B P (.slice A2 P.vals.length c2)) rfl (by rfl) (by go_simp) ?_
    refine BB (by kernel_rfl) ?_
    obtain ⟨w5,hw5⟩ : ∃ w5,Go.Proofs.YtpjmlpmhgfghbaaGreat.Cu wx B P (.slice A2 P.vals.length c2) = w5:=⟨_,rfl⟩
    have hb5 : Below w.heap.size w w5:=by rw [← hw5];exact Cr h1 hN P (.slice A2 P.vals.length c2)
    have hq5 : AY w5 B P (.slice A2 P.vals.length c2):=by rw [← hw5];exact hQ.Cu P (.slice A2 P.vals.length c2)
    rw [hw5]
    have HB5:=As hb5
    have q0:=hq5.c0
    have q1:=hq5.c1
    have q2:=hq5.c2
    have y2':=bc hb5 y2
    clear h1 h2 hB' hN hQ f0 f1 f2 z0 z1 z2 hw5 hq5 x1 y1 y2 p0 p1 p2 hb5
    go_wp2_with (first
      | (go_at_call 77;refine (Ce table 0 3 _).mono ?_;rw [H1.out];rintro e w' ⟨rfl,rfl⟩)
      | (go_at_call 143;refine (G9 HOK.out HZ.out HB5.out HC.out).mono ?_;rintro x w6 ⟨rfl,hb6⟩;have HB6:=As (bj HB5.out hb6);clear hb6))
    go_ret
    exact ⟨AJ (by simp [b1,b2]),by first | exact HB6.out | exact HB5.out⟩
set_option maxRecDepth 100000 in
set_option maxHeartbeats 8000000 in
theorem Rq {w0 w : World} {g gx gp gt : Nat} {e : Eng} {p : Nat} {tx table : Int} (hp : p < 5) (hgm : geo e.mem) (hl : e.log.length + 1 ≤ 150) (hdo : Ff (pg e.mem p) (Dj (MV e tx (p : Int) table) (Ao e.log tx e.log.length)) (e.log.length + 1 : Nat) = true) (h : BO w0 w g e) (bx : Ci w gx (.int .i64 tx) 3) (bp : Ci w gp (.int .i64 (p : Int)) 3) (bt : Ci w gt (.int .i64 table) 3) : Calls Tryz.prog 144 #[ptr g,ptr gx,ptr gp,ptr gt] w (Hy w0 g (e.app (MV e tx (p : Int) table))):=by
  have HG:=As h
  obtain ⟨⟨vd,vm,vl,hq,ho⟩, -, -⟩:=h
  obtain ⟨okd,okm, -, -,hpm⟩:=ho.ex
  have hg5:=hgm.1
  obtain ⟨gm,capm,rfl, -, -⟩:=Cq hpm (by omega)
  have hpl : p < e.mem.length:=by omega
  obtain ⟨A2,c2,p0,p1,p2,pC, -⟩:=DC hpm p hpl
  have hp5i : (p : Int) < 5:=by omega
  have x1:=hq.c1
  have y0:=bx.c0
  have y1:=bp.c0
  have y2:=bt.c0
  have HGM:=As hgm
  have HL:=As hl
  have HDO:=As hdo
  obtain ⟨r,hr⟩ : ∃ r,MV e tx (p : Int) table = r:=⟨_,rfl⟩
  have HR:=As hr
  have HRV : Ac (r.val = .agg #[.int .i64 2, .int .i64 tx, .int .i64 (p : Int), .int .i64 (-1), .int .i64 (pg e.mem p).owner, .int .i64 table, .int .i64 0, .int .i64 0]):=⟨by rw [← hr];rfl⟩
  have HRT : Ac (r.tx = tx):=⟨by rw [← hr];rfl⟩
  have HRP : Ac (r.page = (p : Int)):=⟨by rw [← hr];rfl⟩
  have HCALL : Ac (∀ wx,Below w.heap.size w wx → Calls Tryz.prog 109 #[ptr g, .agg #[.int .i64 2, .int .i64 tx, .int .i64 (p : Int), .int .i64 (-1), .int .i64 (pg e.mem p).owner, .int .i64 table, .int .i64 0, .int .i64 0]] wx (Hy w0 g (e.app r))):=⟨fun wx hb => by
    have h:=JI r HL.out HGM.out (by rw [HRP.out];omega) (by have:=HDO.out;rw [HR.out] at this;rw [HRP.out,HRT.out];simpa using this) (HG.out.up hb)
    rw [HRV.out] at h
    exact h⟩
  rw [hr]
  clear ho hpm hq bx bt bp hgm hl hdo hr p0 p2 pC HR HRV HRT HRP HDO HL HGM HG
  go_enter Tryz.func144,Tryz.ntmps144
  go_wp2
  refine AX (fun lx a wx => Un 13 (fun wx => Below w.heap.size w wx) lx a wx ∧ Sl 13 18 (fun _ wx => BO w0 wx g (e.app r)) lx a wx) 14 rfl (by kernel_rfl) (⟨fun _ => Aj (Below.refl _ _),AZ⟩) (fun HT => ?_)
  refine Aq (i:=0) (v:=?_) 13 HT rfl (by kernel_rfl) (by kernel_rfl) rfl (kA (Af rfl) (Ab rfl rfl)) (by rfl) (fun _ _ _ h => h) (fun lx ax wx hK hS => ?_) ?_;rotate_left;(have hbx:=hS.1 hK;clear hS;replace x1:=bc hbx x1;replace y0:=bc hbx y0;replace y1:=bc hbx y1;replace y2:=bc hbx y2;replace p1:=bc hbx p1;go_simp;with_reducible rfl);rotate_left;simp only [sc0,sc1]
  refine Aq (i:=1) (v:=?_) 13 HT rfl (by kernel_rfl) (by kernel_rfl) rfl (kA (Af rfl) (Ab rfl rfl)) (by rfl) (fun _ _ _ h => h) (fun lx ax wx hK hS => ?_) ?_;rotate_left;(have hbx:=hS.1 hK;clear hS;replace x1:=bc hbx x1;replace y0:=bc hbx y0;replace y1:=bc hbx y1;replace y2:=bc hbx y2;replace p1:=bc hbx p1;go_simp;with_reducible rfl);rotate_left;simp only [sc0,sc1]
  refine Aq (i:=2) (v:=?_) 13 HT rfl (by kernel_rfl) (by kernel_rfl) rfl (kA (Af rfl) (Ab rfl rfl)) (by rfl) (fun _ _ _ h => h) (fun lx ax wx hK hS => ?_) ?_;rotate_left;(have hbx:=hS.1 hK;clear hS;replace x1:=bc hbx x1;replace y0:=bc hbx y0;replace y1:=bc hbx y1;replace y2:=bc hbx y2;replace p1:=bc hbx p1;go_simp;with_reducible rfl);rotate_left;simp only [sc0,sc1]
  refine Aq (i:=3) (v:=?_) 13 HT rfl (by kernel_rfl) (by kernel_rfl) rfl (kA (Af rfl) (Ab rfl rfl)) (by rfl) (fun _ _ _ h => h) (fun lx ax wx hK hS => ?_) ?_;rotate_left;(have hbx:=hS.1 hK;clear hS;replace x1:=bc hbx x1;replace y0:=bc hbx y0;replace y1:=bc hbx y1;replace y2:=bc hbx y2;replace p1:=bc hbx p1;go_simp;with_reducible rfl);rotate_left;simp only [sc0,sc1]
  refine Aq (i:=4) (v:=?_) 13 HT rfl (by kernel_rfl) (by kernel_rfl) rfl (kA (Af rfl) (Ab rfl rfl)) (by rfl) (fun _ _ _ h => h) (fun lx ax wx hK hS => ?_) ?_;rotate_left;(have hbx:=hS.1 hK;clear hS;replace x1:=bc hbx x1;replace y0:=bc hbx y0;replace y1:=bc hbx y1;replace y2:=bc hbx y2;replace p1:=bc hbx p1;go_simp;with_reducible rfl);rotate_left;simp only [sc0,sc1]
  refine Aq (i:=5) (v:=?_) 13 HT rfl (by kernel_rfl) (by kernel_rfl) rfl (kA (Af rfl) (Ab rfl rfl)) (by rfl) (fun _ _ _ h => h) (fun lx ax wx hK hS => ?_) ?_;rotate_left;(have hbx:=hS.1 hK;clear hS;replace x1:=bc hbx x1;replace y0:=bc hbx y0;replace y1:=bc hbx y1;replace y2:=bc hbx y2;replace p1:=bc hbx p1;go_simp;with_reducible rfl);rotate_left;simp only [sc0,sc1]
  refine Aq (i:=6) (v:=?_) 13 HT rfl (by kernel_rfl) (by kernel_rfl) rfl (kA (Af rfl) (Ab rfl rfl)) (by rfl) (fun _ _ _ h => h) (fun lx ax wx hK hS => ?_) ?_;rotate_left;(have hbx:=hS.1 hK;clear hS;replace x1:=bc hbx x1;replace y0:=bc hbx y0;replace y1:=bc hbx y1;replace y2:=bc hbx y2;replace p1:=bc hbx p1;go_simp;with_reducible rfl);rotate_left;simp only [sc0,sc1]
  refine Aq (i:=7) (v:=?_) 13 HT rfl (by kernel_rfl) (by kernel_rfl) rfl (kA (Af rfl) (Ab rfl rfl)) (by rfl) (fun _ _ _ h => h) (fun lx ax wx hK hS => ?_) ?_;rotate_left;(have hbx:=hS.1 hK;clear hS;replace x1:=bc hbx x1;replace y0:=bc hbx y0;replace y1:=bc hbx y1;replace y2:=bc hbx y2;replace p1:=bc hbx p1;go_simp;with_reducible rfl);rotate_left;simp only [sc0,sc1]
  refine Aq (i:=8) (v:=?_) 13 HT rfl (by kernel_rfl) (by kernel_rfl) rfl (kA (Af rfl) (Ab rfl rfl)) (by rfl) (fun _ _ _ h => h) (fun lx ax wx hK hS => ?_) ?_;rotate_left;(have hbx:=hS.1 hK;clear hS;replace x1:=bc hbx x1;replace y0:=bc hbx y0;replace y1:=bc hbx y1;replace y2:=bc hbx y2;replace p1:=bc hbx p1;go_simp;with_reducible rfl);rotate_left;simp only [sc0,sc1]
  refine Aq (i:=9) (v:=?_) 13 HT rfl (by kernel_rfl) (by kernel_rfl) rfl (kA (Af rfl) (Ab rfl rfl)) (by rfl) (fun _ _ _ h => h) (fun lx ax wx hK hS => ?_) ?_;rotate_left;(have hbx:=hS.1 hK;clear hS;replace x1:=bc hbx x1;replace y0:=bc hbx y0;replace y1:=bc hbx y1;replace y2:=bc hbx y2;replace p1:=bc hbx p1;go_simp;with_reducible rfl);rotate_left;simp only [sc0,sc1]
  refine Aq (i:=10) (v:=?_) 13 HT rfl (by kernel_rfl) (by kernel_rfl) rfl (kA (Af rfl) (Ab rfl rfl)) (by rfl) (fun _ _ _ h => h) (fun lx ax wx hK hS => ?_) ?_;rotate_left;(have hbx:=hS.1 hK;clear hS;replace x1:=bc hbx x1;replace y0:=bc hbx y0;replace y1:=bc hbx y1;replace y2:=bc hbx y2;replace p1:=bc hbx p1;go_simp;with_reducible rfl);rotate_left;simp only [sc0,sc1]
  refine Aq (i:=11) (v:=?_) 13 HT rfl (by kernel_rfl) (by kernel_rfl) rfl (kA (Af rfl) (Ab rfl rfl)) (by rfl) (fun _ _ _ h => h) (fun lx ax wx hK hS => ?_) ?_;rotate_left;(have hbx:=hS.1 hK;clear hS;replace x1:=bc hbx x1;replace y0:=bc hbx y0;replace y1:=bc hbx y1;replace y2:=bc hbx y2;replace p1:=bc hbx p1;go_simp;with_reducible rfl);rotate_left;simp only [sc0,sc1]
  refine Aq (i:=12) (v:=?_) 13 HT rfl (by kernel_rfl) (by kernel_rfl) rfl (kA (Af rfl) (Ab rfl rfl)) (by rfl) (fun _ _ _ h => h) (fun lx ax wx hK hS => ?_) ?_;rotate_left;(have hbx:=hS.1 hK;clear hS;replace x1:=bc hbx x1;replace y0:=bc hbx y0;replace y1:=bc hbx y1;replace y2:=bc hbx y2;replace p1:=bc hbx p1;go_simp;with_reducible rfl);rotate_left;simp only [sc0,sc1]
  refine BR (i:=13) (f:=109) (args:=#[ptr g, .agg #[.int .i64 2, .int .i64 tx, .int .i64 (p : Int), .int .i64 (-1), .int .i64 (pg e.mem p).owner, .int .i64 table, .int .i64 0, .int .i64 0]]) (fun _ => True) rfl (by kernel_rfl) rfl Tryz.func109 (by kernel_rfl) rfl rfl (by rfl) (by simp only [List.map_toArray,List.map_cons,List.map_nil];rfl) (fun wx hS => (HCALL.out wx (hS.1 (by kernel_rfl))).mono (by rintro x w6 ⟨⟨v,rfl⟩,hg6⟩;exact ⟨v,rfl,trivial,fun h => (AA (by kernel_rfl) h).elim,fun _ => hg6⟩)) (fun vx hg => ?_);simp only [sc0,sc1]
  refine DX (by kernel_rfl) (fun w6 hS => ?_)
  have HG6:=As (hS.2 (by kernel_rfl))
  clear hS hg x1 y0 y1 y2 p1
  go_wp2
  exact bodyPost_ret (v:=.tuple #[]) (by simp [results,Tryz.results144,go_sem]) rfl ⟨⟨_,rfl⟩,HG6.out⟩
end Go.Proofs.YtpjmlpmhgfghbaaGreat
