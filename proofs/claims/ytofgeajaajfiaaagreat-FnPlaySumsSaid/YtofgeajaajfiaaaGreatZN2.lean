/- A part of the proof: what the last text of the claim says leans on this one. -/
import Derived.Test.YtofgeajaajfiaaaGreatZN1
import Derived.Test.YtofgeajaajfiaaaGreatZV1
import Derived.Test.YtofgeajaajfiaaaGreatZP1
set_option linter.unusedVariables false
set_option linter.unusedSimpArgs false
namespace Go.Proofs.YtofgeajaajfiaaaGreat
open Go.RowKit Go.Proofs.YtofgeajaajfiaaaGreatW.PrintWords Go.Proofs.YtofgeajaajfiaaaGreatW.PrintLast Go.Proofs.YtofgeajaajfiaaaGreatW.PrintMore
theorem JK (e : Eng) (ok : Bool) (x : Eng) : (Bp e ok x).1 = if (Bp e ok x).2 = true then (Bp e ok x).1 else e:=by
 unfold Bp
 split <;> simp
theorem TW {e : Eng} {C : Nat → Page} {B : Nat} (hi : Inv e C B) (v : Evt) : Az e v = if (Dk e v).2 = true then (Dk e v).1 else e:=by
 unfold Az Dk
 by_cases k1 : v.kind = 1
 ·rw [if_pos k1,if_pos k1];exact JK _ _ _
 rw [if_neg k1,if_neg k1]
 by_cases k2 : v.kind = 2
 ·rw [if_pos k2,if_pos k2];exact JK _ _ _
 rw [if_neg k2,if_neg k2]
 by_cases k3 : v.kind = 3
 ·rw [if_pos k3,if_pos k3];exact JK _ _ _
 rw [if_neg k3,if_neg k3]
 have hop : ∀ tx,Ia e tx = true ↔ e.down = false ∧ Ai e.log tx e.log.length ≠ 0:=fun tx => by
  rw [Dz]
  exact ⟨fun h => ⟨h.1,h.2.2⟩,fun h => ⟨h.1,FP hi.core.log h.2,h.2⟩⟩
 have hend : ∀ tx X,(if Ia e tx = true then X else e) = if (Cz e tx X).2 = true then (Cz e tx X).1 else e:=fun tx X => by
  unfold Cz
  by_cases h : e.down = false ∧ Ai e.log tx e.log.length ≠ 0
  ·rw [if_pos ((hop tx).2 h),if_pos h,if_pos rfl]
  ·rw [if_neg (fun h2 => h ((hop tx).1 h2)),if_neg h,if_neg (by simp)]
 by_cases k4 : v.kind = 4
 ·rw [if_pos k4,if_pos k4];exact hend _ _
 rw [if_neg k4,if_neg k4]
 by_cases k5 : v.kind = 5
 ·rw [if_pos k5,if_pos k5];exact hend _ _
 rw [if_neg k5,if_neg k5]
 by_cases k6 : v.kind = 6
 ·rw [if_pos k6,if_pos k6,Fs]
  split <;> simp
 rw [if_neg k6,if_neg k6]
 by_cases k7 : v.kind = 7
 ·rw [if_pos k7,if_pos k7,Gs]
  split <;> simp
 rw [if_neg k7,if_neg k7]
 by_cases k8 : v.kind = 8
 ·rw [if_pos k8,if_pos k8]
  by_cases h : 0 ≤ v.n
  ·rw [if_pos h,show Il e v.n = (Jk e v.n,true) by rw [Il,if_pos ⟨hi.ok,h⟩],if_pos rfl]
  ·rw [if_neg h,show Il e v.n = (zE,false) by rw [Il,if_neg (fun h2 => h h2.2)],if_neg (by simp)]
 rw [if_neg k8,if_neg k8]
 by_cases k9 : v.kind = 9
 ·rw [if_pos k9,if_pos k9]
  by_cases h : 0 ≤ v.n
  ·cases hd : e.down
   ·rw [if_neg (by simp),show upR e v.n = (e,false) by rw [upR,if_pos ⟨hi.ok,h⟩,if_neg (by rw [hd];simp)]]
    simp
   ·rw [if_pos ⟨rfl,h⟩,show upR e v.n = (upE (Df v.n.toNat (Fz e)),decide (Ay (Df v.n.toNat (Fz e)) = 0)) by rw [upR,if_pos ⟨hi.ok,h⟩,if_pos hd],if_pos (by simp [h]),Rv]
  ·rw [if_neg (fun h2 => h h2.2),show upR e v.n = (zE,false) by rw [upR,if_neg (fun h2 => h h2.2)],if_neg (by simp [h])]
 rw [if_neg k9,if_neg k9]
 simp
set_option maxRecDepth 100000 in
set_option maxHeartbeats 16000000 in
theorem Es {w0 w : World} {e : Eng} {C : Nat → Page} {B : Nat} {Ad Am Al A : Option Addr} {cd cm cl c : Nat} (v : Evt) (hi : Inv e C B) (hB : B + 3 ≤ 150) (hcl : e.log.length ≤ cl) (hb : Below w0.heap.size w0 w) (hr : DC w0 e Ad Am Al) (hv : Kd.C (Kd.int .i64) w0 A v.vals.length v.vals) : Calls Tryz.prog 18 #[e.val Ad Am Al cd cm cl,v.val A c] w (U2 w (Az e v)):=by
 rw [TW hi]
 obtain ⟨E,r,hE⟩ : ∃ E r,Dk e v = (E,r):=⟨_,_,rfl⟩
 rw [hE]
 have HIN : Aa (∀ wx,Below w.heap.size w wx → Calls Tryz.prog 44 #[e.val Ad Am Al cd cm cl,v.val A c] wx (D9 wx E r)):=⟨fun wx hbx => by
  have h:=SH (cd:=cd) (cm:=cm) (c:=c) v hi hB hcl (bj hb hbx) hr hv
  rw [hE] at h
  exact h⟩
 have HOK:=As hi.ok
 have HF:=As (Fv.1 hi.ok)
 have HLG:=As (Bo HF.out.log)
 have HR:=As (hr.up hb)
 clear hi hb hr hv hE hB
 cases r
 ·rw [if_neg (by simp)]
  go_enter Tryz.func18,Tryz.ntmps18
  go_wp2_with (first
   | (with_reducible refine Ag (vd:=.slice Ad e.disk.length cd) (vm:=.slice Am e.mem.length cm) (vl:=.slice Al e.log.length cl) e ?_;intro w1 hb1 hz1 hq1;clear hz1;have HB:=As hb1;have HQ:=As hq1;clear hb1 hq1)
   | (with_reducible refine EJ (A:=A) (c:=c) v ?_;intro w2 hb1 hz1 hq1;clear hz1;have HN1:=As HB.out.size;replace HB:=As (bj HB.out hb1);replace HQ:=As (HQ.out.up hb1);have HV:=As hq1;have HL1:=As hq1.lt;clear hb1 hq1)
   | (refine Ag (vd:=.slice none 0 0) (vm:=.slice none 0 0) (vl:=.slice none 0 0) zE ?_;intro w3 hb1 hz1 hq1;have HBG:=As HB.out.size;replace HB:=As (bj HB.out hb1);replace HQ:=As (HQ.out.up hb1);replace HV:=As (HV.out.up hb1);have HP:=As hq1;have HZ:=As hz1;have x0:=HQ.out.c0;have x1:=HQ.out.c1;have x2:=HQ.out.c2;have x3:=HQ.out.c3;have x4:=HQ.out.c4;have v0:=HV.out.c0;have v1:=HV.out.c1;have v2:=HV.out.c2;have v3:=HV.out.c3;have v4:=HV.out.c4;have v5:=HV.out.c5;have y0:=HP.out.c0;have y1:=HP.out.c1;have y2:=HP.out.c2;have y3:=HP.out.c3;have y4:=HP.out.c4;have f0:=HP.out.frz 0;have f1:=HP.out.frz 1;have f2:=HP.out.frz 2;have f3:=HP.out.frz 3;have f4:=HP.out.frz 4;clear hb1 hz1 hq1)
   | (go_at_call 43;refine (Aw (cd:=cd) (cm:=cm) HOK.out hcl HB.out HR.out).mono ?_;rintro x w4 ⟨rfl,hb2⟩;have HX4:=As hb2;replace x0:=bc hb2 x0;replace x1:=bc hb2 x1;replace x2:=bc hb2 x2;replace x3:=bc hb2 x3;replace x4:=bc hb2 x4;replace v0:=bc hb2 v0;replace v1:=bc hb2 v1;replace v2:=bc hb2 v2;replace v3:=bc hb2 v3;replace v4:=bc hb2 v4;replace v5:=bc hb2 v5;have HB3:=HB;replace HB:=As (bj HB.out hb2);clear hb2)
   | (go_at_call 44;refine (HIN.out w4 HB.out).mono ?_;rintro x w5 ⟨vd,vm,vl,rfl,ho,hb2⟩;obtain ⟨Ed,n1,Em,n2,El,n3,rfl,rfl,rfl, -, -⟩:=ho.reads;have HO:=As ho;have HX:=As hb2;clear v0 v1 v2 v3 v4 v5 y0 y1 y2 y3 y4 f0 f1 f2 f3 f4;clear hb2 ho)
   | (refine Ag (vd:=.slice Ed E.disk.length n1) (vm:=.slice Em E.mem.length n2) (vl:=.slice El E.log.length n3) E ?_;intro w6 hb5 hz5 hq5;clear hz5;have HX5:=As (bj HX.out hb5);have HX35:=As (bj HX4.out HX5.out);replace x0:=bc HX5.out x0;replace x1:=bc HX5.out x1;replace x2:=bc HX5.out x2;replace x3:=bc HX5.out x3;replace x4:=bc HX5.out x4;clear hb5 hq5)
   | (go_at_call 45;refine (AP (cd:=cd) (cm:=cm) (cl:=cl) (Ak HF.out.disk) (Ak HF.out.mem) HLG.out (bj HB.out HX5.out) HR.out).mono ?_;rintro x w7 ⟨vd,vm,vl,rfl,ho,hb2⟩;obtain ⟨Bd,k1,Bm,k2,Bl,k3,rfl,rfl,rfl, -, -⟩:=ho.reads;have HO7:=As ho;have HX7:=As (bj HX35.out hb2);have HS7:=As HX35.out.size;have hp:=HP.out.up HX7.out;have HP2:=As hp;clear x0 x1 x2 x3 x4;have y0:=hp.c0;have y1:=hp.c1;have y2:=hp.c2;have y3:=hp.c3;have y4:=hp.c4;have f0:=hp.frz 0;have f1:=hp.frz 1;have f2:=hp.frz 2;have f3:=hp.frz 3;have f4:=hp.frz 4;clear hp hb2 ho))
  have hs7:=HS7.out
  have hy:=HP2.out.Ao e (.slice Bd e.disk.length k1) (.slice Bm e.mem.length k2) (.slice Bl e.log.length k3)
  have h1:=HO7.out.Ao (f:=e) (xd:=.slice Bd e.disk.length k1) (xm:=.slice Bm e.mem.length k2) (xl:=.slice Bl e.log.length k3) HP2.out
  have hge:=HBG.out
  have hzz:=HZ.out
  have hx4:=HX4.out.size
  have h2:=Ah (g:=w2.heap.size) (bj HB3.out HX7.out) hge e (.slice Bd e.disk.length k1) (.slice Bm e.mem.length k2) (.slice Bl e.log.length k3)
  have z0:=hy.c0
  have z1:=hy.c1
  have z2:=hy.c2
  have z3:=hy.c3
  have z4:=hy.c4
  exact bodyPost_ret (v:=e.ag (.slice Bd e.disk.length k1) (.slice Bm e.mem.length k2) (.slice Bl e.log.length k3)) (by simp [results,Tryz.results18,go_sem,z0,z1,z2,z3,z4]) rfl ⟨_,_,_,rfl,h1.lower (by omega),h2⟩
 ·rw [if_pos rfl]
  go_enter Tryz.func18,Tryz.ntmps18
  go_wp2_with (first
   | (with_reducible refine Ag (vd:=.slice Ad e.disk.length cd) (vm:=.slice Am e.mem.length cm) (vl:=.slice Al e.log.length cl) e ?_;intro w1 hb1 hz1 hq1;clear hz1;have HB:=As hb1;have HQ:=As hq1;clear hb1 hq1)
   | (with_reducible refine EJ (A:=A) (c:=c) v ?_;intro w2 hb1 hz1 hq1;clear hz1;have HN1:=As HB.out.size;replace HB:=As (bj HB.out hb1);replace HQ:=As (HQ.out.up hb1);have HV:=As hq1;have HL1:=As hq1.lt;clear hb1 hq1)
   | (refine Ag (vd:=.slice none 0 0) (vm:=.slice none 0 0) (vl:=.slice none 0 0) zE ?_;intro w3 hb1 hz1 hq1;have HBG:=As HB.out.size;replace HB:=As (bj HB.out hb1);replace HQ:=As (HQ.out.up hb1);replace HV:=As (HV.out.up hb1);have HP:=As hq1;have HZ:=As hz1;have x0:=HQ.out.c0;have x1:=HQ.out.c1;have x2:=HQ.out.c2;have x3:=HQ.out.c3;have x4:=HQ.out.c4;have v0:=HV.out.c0;have v1:=HV.out.c1;have v2:=HV.out.c2;have v3:=HV.out.c3;have v4:=HV.out.c4;have v5:=HV.out.c5;have y0:=HP.out.c0;have y1:=HP.out.c1;have y2:=HP.out.c2;have y3:=HP.out.c3;have y4:=HP.out.c4;have f0:=HP.out.frz 0;have f1:=HP.out.frz 1;have f2:=HP.out.frz 2;have f3:=HP.out.frz 3;have f4:=HP.out.frz 4;clear hb1 hz1 hq1)
   | (go_at_call 43;refine (Aw (cd:=cd) (cm:=cm) HOK.out hcl HB.out HR.out).mono ?_;rintro x w4 ⟨rfl,hb2⟩;have HX4:=As hb2;replace x0:=bc hb2 x0;replace x1:=bc hb2 x1;replace x2:=bc hb2 x2;replace x3:=bc hb2 x3;replace x4:=bc hb2 x4;replace v0:=bc hb2 v0;replace v1:=bc hb2 v1;replace v2:=bc hb2 v2;replace v3:=bc hb2 v3;replace v4:=bc hb2 v4;replace v5:=bc hb2 v5;have HB3:=HB;replace HB:=As (bj HB.out hb2);clear hb2)
   | (go_at_call 44;refine (HIN.out w4 HB.out).mono ?_;rintro x w5 ⟨vd,vm,vl,rfl,ho,hb2⟩;obtain ⟨Ed,n1,Em,n2,El,n3,rfl,rfl,rfl, -, -⟩:=ho.reads;have HO:=As ho;have HX:=As hb2;clear v0 v1 v2 v3 v4 v5 y0 y1 y2 y3 y4 f0 f1 f2 f3 f4;clear hb2 ho)
   | (refine Ag (vd:=.slice Ed E.disk.length n1) (vm:=.slice Em E.mem.length n2) (vl:=.slice El E.log.length n3) E ?_;intro w6 hb5 hz5 hq5;clear hz5;have HX5:=As (bj HX.out hb5);have HX35:=As (bj HX4.out HX5.out);have HO5:=As (HO.out.below hb5);have m0:=hq5.c0;have m1:=hq5.c1;have m2:=hq5.c2;have m3:=hq5.c3;have m4:=hq5.c4;have hp:=HP.out.up HX35.out;have HP2:=As hp;clear x0 x1 x2 x3 x4;have y0:=hp.c0;have y1:=hp.c1;have y2:=hp.c2;have y3:=hp.c3;have y4:=hp.c4;have f0:=hp.frz 0;have f1:=hp.frz 1;have f2:=hp.frz 2;have f3:=hp.frz 3;have f4:=hp.frz 4;clear hp hb5 hq5))
  have hy:=HP2.out.Ao E (.slice Ed E.disk.length n1) (.slice Em E.mem.length n2) (.slice El E.log.length n3)
  have h1:=HO5.out.Ao (f:=E) (xd:=.slice Ed E.disk.length n1) (xm:=.slice Em E.mem.length n2) (xl:=.slice El E.log.length n3) HP2.out
  have hge:=HBG.out
  have hzz:=HZ.out
  have hx4:=HX4.out.size
  have h2:=Ah (g:=w2.heap.size) (bj HB3.out HX35.out) hge E (.slice Ed E.disk.length n1) (.slice Em E.mem.length n2) (.slice El E.log.length n3)
  have z0:=hy.c0
  have z1:=hy.c1
  have z2:=hy.c2
  have z3:=hy.c3
  have z4:=hy.c4
  exact bodyPost_ret (v:=E.ag (.slice Ed E.disk.length n1) (.slice Em E.mem.length n2) (.slice El E.log.length n3)) (by simp [results,Tryz.results18,go_sem,z0,z1,z2,z3,z4]) rfl ⟨_,_,_,rfl,h1.lower (by omega),h2⟩
set_option maxRecDepth 100000 in
set_option maxHeartbeats 8000000 in
theorem MH (w : World) : Calls Tryz.prog 106 #[] w (PX w newP):=by
 have hmk:=Uw
 go_enter Tryz.func106,Tryz.ntmps106
 go_wp2
 obtain ⟨w1,hw1⟩ : ∃ w1,w.alloc (Obj.cells #[.int .i64 0, .int .i64 0, .slice (some ⟨w.heap.size + 1,0,none⟩) 3 3] 41) = w1:=⟨_,rfl⟩
 have hz1 : w1.heap.size = w.heap.size + 1:=by rw [← hw1,BJ]
 obtain ⟨w2,hw2⟩ : ∃ w2,w1.alloc (.cells (madeCells #[.int .i64 0] 3) 3) = w2:=⟨_,rfl⟩
 have ho : AL w2 w1.heap.size (.slice (some ⟨w1.heap.size,0,none⟩) 3 3) [0,0,0]:=by rw [← hw2];exact KS w1 w1.heap.size 3 .i64 3 (Nat.le_refl _) (by decide)
 have hq : AU w2 w.heap.size newP (.slice (some ⟨w.heap.size + 1,0,none⟩) 3 3):=by rw [← hw2, ← hw1];exact (AU.mk1 w newP _).up (Ab (Below.refl _ _) _)
 have hb : Below w.heap.size w w2:=by rw [← hw2, ← hw1];exact Ab (Ab (Below.refl _ _) _) _
 rw [hw1,hw2]
 rw [hz1] at ho
 have z0:=hq.c0
 have z1:=hq.c1
 have z2:=hq.c2
 exact bodyPost_ret (v:=newP.own (.slice (some ⟨w.heap.size + 1,0,none⟩) 3 3)) (by simp [results,Tryz.results106,go_sem,z0,z1,z2]) rfl ⟨_,rfl,ho.lower (by omega),hb⟩
theorem Qu {k : Nat} (h : k < 5) : (List.replicate 5 newP).take (k + 1) = (List.replicate 5 newP).take k ++ [newP]:=by
 match k,h with
 | 0,_ => rfl
 | 1,_ => rfl
 | 2,_ => rfl
 | 3,_ => rfl
 | 4,_ => rfl
set_option maxRecDepth 100000 in
set_option maxHeartbeats 8000000 in
theorem GD (w : World) : Calls Tryz.prog 64 #[] w (N7 w (List.replicate 5 newP)):=by
 go_enter Tryz.func64,Tryz.ntmps64
 go_wp2
 go_loopw [1,2] (fun v i wr => ∃ k : Nat,k ≤ 5 ∧ i = .int .i64 (k : Int) ∧ Aa (EH wr w.heap.size v ((List.replicate 5 newP).take k)) ∧ Aa (Below w.heap.size w wr)) (fun _ i _ => (5 - intOf i).toNat)
 case atStart => exact ⟨0,Nat.zero_le _,rfl,⟨Kd.SN _ _ _ _ _⟩,⟨Below.refl _ _⟩⟩
 case round =>
  obtain ⟨k,hk,rfl,HO,HW⟩:=hrel
  by_cases hlt : k < 5
  ·have HT:=As (Qu hlt)
   have HLN : Aa (((List.replicate 5 newP).take k).length = k):=⟨by simp;omega⟩
   have hki : (k : Int) < 5:=by omega
   go_wp2_with (first | (go_at_call 106;refine (MH _).mono ?_;rintro e w2 ⟨v,rfl,ho,hb2⟩;have HOv:=As ho;have HW2:=As hb2;have HO2:=As (Kd.Ee HO.out HW2.out);clear ho hb2) | (at_builtin;refine GV (p:=newP) rfl (.tmp 4) (.tmp 6) rfl rfl rfl HOv.out HO2.out (bj HW.out HW2.out) (by have:=HLN.out;omega) HW.out.size ?_;intro v1 w3 hR hb3;have HR3:=As hR;have HW3:=As hb3;clear hR hb3))
   go_roundw
   case rel => exact ⟨k + 1,by omega,by go_num,⟨by rw [HT.out];exact HR3.out⟩,HW3⟩
   case measure => simp [intOf];omega
  ·have hke : k = 5:=by omega
   subst hke
   go_wp2
   go_ret
   exact ⟨_,rfl,HO.out,HW.out⟩
set_option maxRecDepth 100000 in
set_option maxHeartbeats 8000000 in
theorem JW (w : World) : Calls Tryz.prog 34 #[] w (U2 w newE):=by
 go_enter Tryz.func34,Tryz.ntmps34
 go_wp2_with (first
  | (refine Ag (vd:=.slice none 0 0) (vm:=.slice none 0 0) (vl:=.slice none 0 0) zE ?_;intro w1 hb1 hz1 hq1;clear hz1;have HB:=As hb1;have HP:=As hq1;clear hb1 hq1)
  | (go_at_call 64;refine (GD w1).mono ?_;rintro x w2 ⟨vd,rfl,ho,hb2⟩;obtain ⟨Dd,kd,rfl, -, -⟩:=Kd.BI ho;have HD : Aa (EH w2 w1.heap.size (.slice Dd 5 kd) (List.replicate 5 newP)):=⟨ho⟩;have HB2:=As hb2;clear ho hb2)
  | (go_at_call 64;refine (GD w2).mono ?_;rintro x w3 ⟨vm,rfl,ho,hb2⟩;obtain ⟨Dm,km,rfl, -, -⟩:=Kd.BI ho;have HM : Aa (EH w3 w2.heap.size (.slice Dm 5 km) (List.replicate 5 newP)):=⟨ho⟩;have HB3:=As hb2;have hp:=(HP.out.up HB2.out).up hb2;have HP3:=As hp;have y0:=hp.c0;have y1:=hp.c1;have y2:=hp.c2;have y3:=hp.c3;have y4:=hp.c4;have f0:=hp.frz 0;have f1:=hp.frz 1;have f2:=hp.frz 2;have f3:=hp.frz 3;have f4:=hp.frz 4;clear hp ho hb2))
 have hO : AO w3 w1.heap.size (.slice Dd 5 kd) (.slice Dm 5 km) (.slice none 0 0) newE:=AO.mk2 (w0:=w2) HD.out HM.out HB3.out HB2.out.size (Uk _ _)
 have hy:=HP3.out.Ao ⟨[], [], [],0,false⟩ (.slice Dd 5 kd) (.slice Dm 5 km) (.slice none 0 0)
 have h1:=hO.Ao (f:=⟨[], [], [],0,false⟩) (xd:=.slice Dd 5 kd) (xm:=.slice Dm 5 km) (xl:=.slice none 0 0) HP3.out
 have h2:=Ah (g:=w.heap.size) (bj HB.out (bj HB2.out HB3.out)) (Nat.le_refl _) ⟨[], [], [],0,false⟩ (.slice Dd 5 kd) (.slice Dm 5 km) (.slice none 0 0)
 have hs:=HB.out.size
 have z0:=hy.c0
 have z1:=hy.c1
 have z2:=hy.c2
 have z3:=hy.c3
 have z4:=hy.c4
 simp only at z3 z4
 exact bodyPost_ret (v:=.agg #[.slice Dd 5 kd, .slice Dm 5 km, .slice none 0 0, .int .i64 0, .bool false]) (by simp [results,Tryz.results34,go_sem,z0,z1,z2,z3,z4]) rfl ⟨.slice Dd 5 kd, .slice Dm 5 km, .slice none 0 0,rfl,h1.lower hs,h2⟩
structure YS (w : World) (a : Addr) (v : Evt) (A : Option Addr) (c : Nat) : Prop where
 c0 : w.cell? a = some (.int .i64 v.kind)
 c1 : w.cell? ⟨a.block,a.off + 1,none⟩ = some (.int .i64 v.tx)
 c2 : w.cell? ⟨a.block,a.off + 2,none⟩ = some (.int .i64 v.page)
 c3 : w.cell? ⟨a.block,a.off + 3,none⟩ = some (.int .i64 v.slot)
 c4 : w.cell? ⟨a.block,a.off + 4,none⟩ = some (.int .i64 v.n)
 c5 : w.cell? ⟨a.block,a.off + 5,none⟩ = some (.slice A v.vals.length c)
theorem R6 {w : World} {A : Option Addr} {n : Nat} {xs : List Evt} (h : Kd.C kEvt w A n xs) (i : Nat) (h1 : i < n) : ∃ ad A2 c2,A = some ad ∧ YS w (ad.add (i * 6)) (ev xs i) A2 c2 ∧ (ev xs i).vals.length ≤ c2 ∧ (Kd.int .i64).C w A2 (ev xs i).vals.length (ev xs i).vals:=by
 obtain ⟨ad,c,e,_,hK,hc0⟩:=Kd.Ta h v0 (i : Int) (by omega) (by omega)
 have hc : ∀ j u,c[j]? = some u → w.cell? (ad.add (i * 6 + j)) = some u:=hc0
 obtain ⟨A2,c2,rfl,l2,g2⟩:=Vy hK
 exact ⟨ad,A2,c2,e,⟨hc 0 _ rfl,by rw [← Dq _ _ 1 (by omega)];exact hc 1 _ rfl,by rw [← Dq _ _ 2 (by omega)];exact hc 2 _ rfl,by rw [← Dq _ _ 3 (by omega)];exact hc 3 _ rfl,by rw [← Dq _ _ 4 (by omega)];exact hc 4 _ rfl,by rw [← Dq _ _ 5 (by omega)];exact hc 5 _ rfl⟩,l2,g2⟩
theorem Hq : ∀ (vs : List Evt) (e : Eng) (v : Evt),runE e (vs ++ [v]) = Az (runE e vs) v
 | [],_,_ => rfl
 | u :: vs,e,v => Hq vs (Az e u) v
theorem KZ {vs : List Evt} {k : Nat} (h : k < vs.length) : vs.take (k + 1) = vs.take k ++ [ev vs k]:=by
 rw [List.take_succ_eq_append_getElem h,ev,List.getD_eq_getElem?_getD,List.getElem?_eq_getElem h]
 rfl
theorem Pf (vs : List Evt) (k : Nat) (hk : k ≤ 40) : ∃ C,Inv (runE newE (vs.take k)) C (3 * 40):=by
 have h1 : (vs.take k).length ≤ k:=by rw [List.length_take];omega
 exact ⟨_,(Inv.run UF (vs:=vs.take k) (by omega)).mono (by omega) (by omega)⟩
def Kl (vs : List Evt) : Eng × Bool:=if 40 < vs.length then (zE,false) else (runE newE vs,true)
set_option maxRecDepth 100000 in
set_option maxHeartbeats 16000000 in
theorem Cy {w0 w : World} {A : Option Addr} {c : Nat} {vs : List Evt} (hb : Below w0.heap.size w0 w) (hr : Kd.C kEvt w0 A vs.length vs) : Calls Tryz.prog 14 #[.slice A vs.length c] w (D9 w (Kl vs).1 (Kl vs).2):=by
 have HR:=As (BA hr hb)
 have hmx:=(Cg hr).2
 clear hr hb
 by_cases h40 : 40 < vs.length
 ·rw [Kl,if_pos h40]
  go_enter Tryz.func14,Tryz.ntmps14
  go_wp2_with (refine Ag (vd:=.slice none 0 0) (vm:=.slice none 0 0) (vl:=.slice none 0 0) zE ?_;intro w1 hb1 hz1 hq1;clear hz1;have HB:=As hb1;have HP:=As hq1;have y0:=hq1.c0;have y1:=hq1.c1;have y2:=hq1.c2;have y3:=hq1.c3;have y4:=hq1.c4;have f0:=hq1.frz 0;have f1:=hq1.frz 1;have f2:=hq1.frz 2;have f3:=hq1.frz 3;have f4:=hq1.frz 4;clear hb1 hq1)
  obtain ⟨z0,z1,z2,z3,z4⟩:=HP.out.empty
  exact bodyPost_ret (v:=.tuple #[zEv, .bool false]) (by simp [results,Tryz.results14,go_sem,z0,z1,z2,z3,z4]) rfl ⟨_,_,_,rfl,IW _ _,Ah (g:=w.heap.size) HB.out (Nat.le_refl _) zE _ _ _⟩
 ·rw [Kl,if_neg h40]
  have hn40 : ¬ (40 : Int) < (vs.length : Int):=by omega
  have HONE : True:=trivial
  go_enter Tryz.func14,Tryz.ntmps14
  go_wp2_with (first
   | (refine Ag (vd:=.slice none 0 0) (vm:=.slice none 0 0) (vl:=.slice none 0 0) zE ?_;clear HONE;intro w1 hb1 hz1 hq1;clear hz1;have HB:=As hb1;have HP:=As hq1;clear hb1 hq1)
   | (go_at_call 34;refine (JW w1).mono ?_;rintro x w2 ⟨vd,vm,vl,rfl,ho,hb2⟩;obtain ⟨Ed,n1,Em,n2,El,n3,rfl,rfl,rfl, -, -⟩:=ho.reads;have HO:=As ho;have HX:=As hb2;clear hb2 ho)
   | (refine Ag (vd:=.slice Ed newE.disk.length n1) (vm:=.slice Em newE.mem.length n2) (vl:=.slice El newE.log.length n3) newE ?_;intro w3 hb3 hz3 hq3;clear hz3;have HEG : Aa (BR w1 w3 w2.heap.size newE):=⟨⟨⟨_,_,_,hq3,HO.out.below hb3⟩,bj HX.out hb3,HX.out.size⟩⟩;clear hb3 hq3))
  go_loopw [14] (fun i wr => ∃ k : Nat,k ≤ vs.length ∧ i = .int .i64 (k : Int) ∧ Aa (BR w1 wr w2.heap.size (runE newE (vs.take k)))) (fun i _ => (vs.length - intOf i).toNat)
  case atStart => exact ⟨0,Nat.zero_le _,rfl,HEG⟩
  case round =>
   obtain ⟨k,hk,rfl,HE⟩:=hrel
   obtain ⟨⟨vd,vm,vl,hq,ho⟩, -, -⟩:=HE.out
   obtain ⟨Ed',m1,Em',m2,El',m3,rfl,rfl,rfl,hcl,hrd⟩:=ho.reads
   have HRD:=As hrd
   have HQ:=As hq
   have HO:=As ho
   have x0:=hq.c0
   have x1:=hq.c1
   have x2:=hq.c2
   have x3:=hq.c3
   have x4:=hq.c4
   by_cases hlt : k < vs.length
   ·obtain ⟨ad,A2,c2,rfl,QV, -,hv⟩:=R6 (BA HR.out (bj HB.out HE.out.bel)) k hlt
    obtain ⟨z0,z1,z2,z3,z4,z5⟩:=QV
    have HV:=As hv
    have HT:=As (show runE newE (vs.take (k + 1)) = Az (runE newE (vs.take k)) (ev vs k) by rw [KZ hlt,Hq])
    have HINV:=As (Pf vs k (by omega))
    obtain ⟨X,hX⟩ : ∃ X,runE newE (vs.take k) = X:=⟨_,rfl⟩
    obtain ⟨v,hvv⟩ : ∃ v,ev vs k = v:=⟨_,rfl⟩
    rw [hX] at HRD HQ HO x0 x1 x2 x3 x4 HT HINV HE hcl
    rw [hvv] at z0 z1 z2 z3 z4 z5 HV HT
    have HCL:=As hcl
    obtain ⟨X1,hX1⟩ : ∃ X1,Az X v = X1:=⟨_,rfl⟩
    rw [hX1] at HT
    have HX1:=As hX1
    clear hq ho hrd hv hX hvv hcl hX1
    go_wp2_with (first
     | (with_reducible refine EJ (A:=A2) (c:=c2) v ?_;intro w4 hb4 hz4 hq4;clear hz4;have HB4:=As hb4;replace x0:=bc hb4 x0;replace x1:=bc hb4 x1;replace x2:=bc hb4 x2;replace x3:=bc hb4 x3;replace x4:=bc hb4 x4;have v0:=hq4.c0;have v1:=hq4.c1;have v2:=hq4.c2;have v3:=hq4.c3;have v4:=hq4.c4;have v5:=hq4.c5;clear z0 z1 z2 z3 z4 z5 hb4 hq4)
     | (go_at_call 18;obtain ⟨C,hi⟩:=HINV.out;go_loud (refine (Es (w0:=wr) (cd:=m1) (cm:=m2) (cl:=m3) (c:=c2) v hi (by omega) HCL.out HB4.out HRD.out HV.out).mono ?_);rw [HX1.out];rintro x w5 ⟨ud,um,ul,rfl,ho,hb5⟩;obtain ⟨Fd,k1,Fm,k2,Fl,k3,rfl,rfl,rfl, -, -⟩:=ho.reads;have hb45:=bj HB4.out hb5;have hq5:=HQ.out.up hb45;have HQ5:=As hq5;have HO5:=As (ho.lower (b':=w1.heap.size) (by have:=HE.out.bel.size;have:=HB4.out.size;omega));have HB5:=As (bj HE.out.bel hb45);clear x0 x1 x2 x3 x4 v0 v1 v2 v3 v4 v5;have y0:=hq5.c0;have y1:=hq5.c1;have y2:=hq5.c2;have y3:=hq5.c3;have y4:=hq5.c4;have f0:=hq5.frz 0;have f1:=hq5.frz 1;have f2:=hq5.frz 2;have f3:=hq5.frz 3;have f4:=hq5.frz 4;clear ho hb5 hb45 hq5 hi))
    go_roundw
    case rel => exact ⟨k + 1,by omega,by go_num,⟨by rw [HT.out];exact ⟨⟨_,_,_,HQ5.out.Ao X1 _ _ _,HO5.out.Ao (f:=X1) HQ5.out⟩,Ah HB5.out HE.out.ge X1 _ _ _,HE.out.ge⟩⟩⟩
    case measure => simp [intOf];omega
   ·have hke : vs.take k = vs:=List.take_of_length_le (by omega)
    have HT:=As (show runE newE (vs.take k) = runE newE vs by rw [hke])
    have HBr:=As HE.out.bel
    obtain ⟨X,hX⟩ : ∃ X,runE newE (vs.take k) = X:=⟨_,rfl⟩
    rw [hX] at HO x0 x1 x2 x3 x4 HT
    have hp:=HP.out.up HE.out.bel
    have HP2:=As hp
    have y0:=hp.c0
    have y1:=hp.c1
    have y2:=hp.c2
    have y3:=hp.c3
    have y4:=hp.c4
    have f0:=hp.frz 0
    have f1:=hp.frz 1
    have f2:=hp.frz 2
    have f3:=hp.frz 3
    have f4:=hp.frz 4
    clear hq ho hrd hcl hX hp hke
    go_wp2
    have hy:=HP2.out.Ao X (.slice Ed' X.disk.length m1) (.slice Em' X.mem.length m2) (.slice El' X.log.length m3)
    have h1:=HO.out.Ao (f:=X) (xd:=.slice Ed' X.disk.length m1) (xm:=.slice Em' X.mem.length m2) (xl:=.slice El' X.log.length m3) HP2.out
    have h2:=Ah (g:=w.heap.size) (bj HB.out HBr.out) (Nat.le_refl _) X (.slice Ed' X.disk.length m1) (.slice Em' X.mem.length m2) (.slice El' X.log.length m3)
    have hs:=HB.out.size
    have z0:=hy.c0
    have z1:=hy.c1
    have z2:=hy.c2
    have z3:=hy.c3
    have z4:=hy.c4
    exact bodyPost_ret (v:=.tuple #[X.ag (.slice Ed' X.disk.length m1) (.slice Em' X.mem.length m2) (.slice El' X.log.length m3), .bool true]) (by simp [results,Tryz.results14,go_sem,z0,z1,z2,z3,z4]) rfl (by rw [← HT.out];exact ⟨_,_,_,rfl,h1.lower hs,h2⟩)
abbrev Evt.own (v : Evt) (u : Value) : Value:=.agg #[.int .i64 v.kind, .int .i64 v.tx, .int .i64 v.page, .int .i64 v.slot, .int .i64 v.n,u]
def EvB (w : World) (g : Nat) (v : Evt) (u : Value) : Prop:=w.heap[g]? = some (.cells #[.int .i64 v.kind, .int .i64 v.tx, .int .i64 v.page, .int .i64 v.slot, .int .i64 v.n,u] 36 (0,0))
section
variable {w w1 : World} {g : Nat} {v : Evt} {u : Value}
theorem EvB.c0 (h : EvB w g v u) : w.cell? ⟨g,0,none⟩ = some (.int .i64 v.kind):=by unfold EvB at h;simp [World.cell?,h]
theorem EvB.c1 (h : EvB w g v u) : w.cell? ⟨g,1,none⟩ = some (.int .i64 v.tx):=by unfold EvB at h;simp [World.cell?,h]
theorem EvB.c2 (h : EvB w g v u) : w.cell? ⟨g,2,none⟩ = some (.int .i64 v.page):=by unfold EvB at h;simp [World.cell?,h]
theorem EvB.c3 (h : EvB w g v u) : w.cell? ⟨g,3,none⟩ = some (.int .i64 v.slot):=by unfold EvB at h;simp [World.cell?,h]
theorem EvB.c4 (h : EvB w g v u) : w.cell? ⟨g,4,none⟩ = some (.int .i64 v.n):=by unfold EvB at h;simp [World.cell?,h]
theorem EvB.c5 (h : EvB w g v u) : w.cell? ⟨g,5,none⟩ = some u:=by unfold EvB at h;simp [World.cell?,h]
theorem EvB.frz (h : EvB w g v u) (k : Nat) : w.frozen? ⟨g,k,none⟩ = false:=by unfold EvB at h;simp [World.frozen?,h]
theorem EvB.lt (h : EvB w g v u) : g < w.heap.size:=(Array.getElem?_eq_some_iff.1 h).1
theorem EvB.up (h : EvB w g v u) (hb : Below w.heap.size w w1) : EvB w1 g v u:=(hb.block g h.lt).trans h
theorem EvB.far {b : Nat} (h : EvB w g v u) (hne : b ≠ g) (j : Nat) (x : Value) : EvB (w.setCell ⟨b,j,none⟩ x) g v u:=(Below.heap_setCell w ⟨b,j,none⟩ x g (Ne.symm hne)).trans h
theorem EvB.set0 (h : EvB w g v u) (x : Int) : EvB (w.setCell ⟨g,0,none⟩ (.int .i64 x)) g ⟨x,v.tx,v.page,v.slot,v.n,v.vals⟩ u:=heap_setCell_same h _
theorem EvB.set1 (h : EvB w g v u) (x : Int) : EvB (w.setCell ⟨g,1,none⟩ (.int .i64 x)) g ⟨v.kind,x,v.page,v.slot,v.n,v.vals⟩ u:=heap_setCell_same h _
theorem EvB.set2 (h : EvB w g v u) (x : Int) : EvB (w.setCell ⟨g,2,none⟩ (.int .i64 x)) g ⟨v.kind,v.tx,x,v.slot,v.n,v.vals⟩ u:=heap_setCell_same h _
theorem EvB.CK (h : EvB w g v u) (x : Int) : EvB (w.setCell ⟨g,3,none⟩ (.int .i64 x)) g ⟨v.kind,v.tx,v.page,x,v.n,v.vals⟩ u:=heap_setCell_same h _
theorem EvB.XY (h : EvB w g v u) (x : Int) : EvB (w.setCell ⟨g,4,none⟩ (.int .i64 x)) g ⟨v.kind,v.tx,v.page,v.slot,x,v.vals⟩ u:=heap_setCell_same h _
theorem EvB.YT (h : EvB w g v u) (x : Value) : EvB (w.setCell ⟨g,5,none⟩ x) g v x:=heap_setCell_same h _
end
theorem EvB.mk1 (w : World) (v : Evt) (u : Value) : EvB (w.alloc (.cells #[.int .i64 v.kind, .int .i64 v.tx, .int .i64 v.page, .int .i64 v.slot, .int .i64 v.n,u] 36)) w.heap.size v u:=by
 show (w.heap.push _)[w.heap.size]? = _
 simp
abbrev FB (w : World) (g : Nat) (p : Evt) (u : Value) : World:=(((((w.setCell ⟨g,0,none⟩ (.int .i64 p.kind)).setCell ⟨g,1,none⟩ (.int .i64 p.tx)).setCell ⟨g,2,none⟩ (.int .i64 p.page)).setCell ⟨g,3,none⟩ (.int .i64 p.slot)).setCell ⟨g,4,none⟩ (.int .i64 p.n)).setCell ⟨g,5,none⟩ u
theorem EvB.FB {w : World} {g : Nat} {q : Evt} {u : Value} (h : EvB w g q u) (p : Evt) (v : Value) : EvB (FB w g p v) g p v:=(((((h.set0 p.kind).set1 p.tx).set2 p.page).CK p.slot).XY p.n).YT v
theorem AL.FB {w : World} {b g : Nat} {v : Value} {xs : List Int} (h : AL w b v xs) (hg : g < b) (p : Evt) (u : Value) : AL (Go.Proofs.YtofgeajaajfiaaaGreat.FB w g p u) b v xs:=(((((h.set hg _ _).set hg _ _).set hg _ _).set hg _ _).set hg _ _).set hg _ _
theorem WG (w : World) (base : Nat) (ok : Nat → Prop) (x : Evt) {v : Value} (g2 : (Kd.int .i64).R 3 w base ok v x.vals) : kEvt.M w base ok x [.int .i64 x.kind, .int .i64 x.tx, .int .i64 x.page, .int .i64 x.slot, .int .i64 x.n,v]:=⟨[.int .i64 x.kind], [.int .i64 x.tx, .int .i64 x.page, .int .i64 x.slot, .int .i64 x.n,v],rfl,rfl,⟨[.int .i64 x.tx], [.int .i64 x.page, .int .i64 x.slot, .int .i64 x.n,v],rfl,rfl,⟨[.int .i64 x.page], [.int .i64 x.slot, .int .i64 x.n,v],rfl,rfl,⟨[.int .i64 x.slot], [.int .i64 x.n,v],rfl,rfl,⟨[.int .i64 x.n], [v],rfl,rfl,⟨v,rfl,g2⟩⟩⟩⟩⟩⟩
abbrev V3 (w : World) (base : Nat) (ok : Nat → Prop) (v : Value) (vs : List Evt) : Prop:=Kd.S kEvt 36 w base ok v vs
abbrev IL (w : World) (base : Nat) (v : Value) (vs : List Evt) : Prop:=V3 w base (fun _ => True) v vs
theorem WJ : (Tryz.prog.info? 36).map (fun i => (i.zero,i.size,i.bytes)) = some (some (.agg #[.int .i64 0, .int .i64 0, .int .i64 0, .int .i64 0, .int .i64 0, .slice none 0 0]),6,64):=by kernel_rfl
theorem Te : Tryz.prog.underlying 23 = some (.slice 36):=Tryz.underlying23
theorem VT {w : World} {base : Nat} {ok : Nat → Prop} {v : Value} {ps : List Evt} (h : V3 w base ok v ps) : ∀ k,v.ownBlock = some k → ok k:=by
 obtain ⟨f,h0,_⟩:=h
 exact h0
section
variable {ops : Array Oper} {rest : List Oper} {o : Oper} {a : Act} {Q : Exit → Act → World → Prop}
end
end Go.Proofs.YtofgeajaajfiaaaGreat
