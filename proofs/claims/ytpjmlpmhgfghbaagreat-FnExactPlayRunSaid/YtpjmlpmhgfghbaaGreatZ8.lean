/- Proved here: for all events that are handed in, laws.FnExactPlayRun returns true (the program's PlayRun returns what the reference's returns, leaves its argument as it was, and hands back memory of its own). Conditions: none beyond those that the given statement itself bears. -/
import Derived.Test.YtpjmlpmhgfghbaaGreatZ7
import Derived.Deep.Slices
import Derived.OpenShut
import Derived.Deep.Strs
import Derived.WalkKit
import Derived.ProofKit
import Derived.ShutString
import Derived.ChangeOld
import Derived.Below
import Derived.SizedLaws
set_option linter.unusedVariables false
set_option linter.unusedSimpArgs false
/- The reference's l22Do. -/
namespace Go.Proofs.YtpjmlpmhgfghbaaGreat
open Go.RowKit Go.Proofs.YtpjmlpmhgfghbaaGreatW.PrintWords Go.Proofs.YtpjmlpmhgfghbaaGreatW.PrintLast Go.Proofs.YtpjmlpmhgfghbaaGreatW.PrintMore
theorem OG {P : Program} {ops : Array Oper} {l : List Oper} {Q : Exit → Act → World → Prop} {a : Act} (W : World) (h : ∀ w1,W = w1 → wpList P ops Q l a w1) : wpList P ops Q l a W:=h W rfl
theorem Qy {e : Eng} (hlog : AP e.log = true) (tx : Int) (X : Eng) : (if Ke e tx = true then X else e) = (CB e tx X).1:=by
  unfold CB
  by_cases h : e.down = false ∧ Ao e.log tx e.log.length ≠ 0
  · rw [if_pos (Gr.2 ⟨h.1,EZ hlog h.2,h.2⟩),if_pos h]
  · rw [if_neg (fun h2 => h ⟨(Gr.1 h2).1,(Gr.1 h2).2.2⟩),if_neg h]
set_option maxRecDepth 100000 in
set_option maxHeartbeats 64000000 in
theorem Rb {w0 w : World} {e : Eng} {C : Nat → Page} {B : Nat} {vd vm vl : Value} {A : Option Addr} {c : Nat} (v : Evt) (hi : Inv e C B) (hB : B + 3 ≤ 150) (hb : Below w0.heap.size w0 w) (hr : AV w w0.heap.size vd vm vl e) (hv : Kd.C (Kd.int .i64) w0 A v.vals.length v.vals) : Calls Tryz.prog 33 #[e.ag vd vm vl,v.val A c] w (RA w0 w (BQ e v)):=by
  obtain ⟨Ad,cd,Am,cm,Al,cl,rfl,rfl,rfl,hcl,hrd⟩:=hr.reads
  have HI:=As hi
  have HBB:=As hB
  have HB0:=As hb
  have HO:=As hr
  have HVV:=As hv
  have HONE : True:=trivial
  have HTWO : True:=trivial
  clear hi hB hb hr hv hrd hcl
  rcases BU v.kind 1 with ⟨e1,b1,c1⟩ | ⟨e1,b1,c1⟩
  have hPE : BQ e v = (L8 e v.tx v.page v.slot v.n).1:=by unfold BQ;rw [if_pos e1.out]
  obtain ⟨E,bb,hE⟩ : ∃ E bb,L8 e v.tx v.page v.slot v.n = (E,bb):=⟨_,_,rfl⟩
  have HPE : Ac (BQ e v = E):=⟨by rw [hPE,hE]⟩
  have HIN : Ac (∀ wx,Below w.heap.size w wx → Calls Tryz.prog 67 #[e.val Ad Am Al cd cm cl, .int .i64 v.tx, .int .i64 v.page, .int .i64 v.slot, .int .i64 v.n] wx (Hy w0 wx E bb)):=⟨fun wx hbx => by
    have ho':=HO.out.below hbx
    have hb':=bj HB0.out hbx
    have h:=(PI v.tx v.page v.slot v.n HI.out HBB.out hb' ho').mono fun _ _ h => h.t ho'
    rw [hE] at h
    exact h⟩
  clear hPE hE
  rotate_left
  rcases BU v.kind 2 with ⟨e2,b2,c2⟩ | ⟨e2,b2,c2⟩
  have hPE : BQ e v = (Lg e v.tx v.page v.n).1:=by unfold BQ;rw [if_neg e1.out,if_pos e2.out]
  obtain ⟨E,bb,hE⟩ : ∃ E bb,Lg e v.tx v.page v.n = (E,bb):=⟨_,_,rfl⟩
  have HPE : Ac (BQ e v = E):=⟨by rw [hPE,hE]⟩
  have HIN : Ac (∀ wx,Below w.heap.size w wx → Calls Tryz.prog 68 #[e.val Ad Am Al cd cm cl, .int .i64 v.tx, .int .i64 v.page, .int .i64 v.n] wx (Hy w0 wx E bb)):=⟨fun wx hbx => by
    have ho':=HO.out.below hbx
    have hb':=bj HB0.out hbx
    have h:=(PK v.tx v.page v.n HI.out HBB.out hb' ho').mono fun _ _ h => h.t ho'
    rw [hE] at h
    exact h⟩
  clear hPE hE
  rotate_left
  rcases BU v.kind 3 with ⟨e3,b3,c3⟩ | ⟨e3,b3,c3⟩
  have hPE : BQ e v = (GH e v.tx v.page v.vals).1:=by unfold BQ;rw [if_neg e1.out,if_neg e2.out,if_pos e3.out]
  obtain ⟨E,bb,hE⟩ : ∃ E bb,GH e v.tx v.page v.vals = (E,bb):=⟨_,_,rfl⟩
  have HPE : Ac (BQ e v = E):=⟨by rw [hPE,hE]⟩
  have HIN : Ac (∀ wx,Below w.heap.size w wx → Calls Tryz.prog 69 #[e.val Ad Am Al cd cm cl, .int .i64 v.tx, .int .i64 v.page, .slice A v.vals.length c] wx (Hy w0 wx E bb)):=⟨fun wx hbx => by
    have ho':=HO.out.below hbx
    have hb':=bj HB0.out hbx
    have h:=Oo (cv:=c) v.tx v.page v.vals HI.out HBB.out hb' ho' HVV.out
    rw [hE] at h
    exact h⟩
  clear hPE hE
  rotate_left
  rcases BU v.kind 4 with ⟨e4,b4,c4⟩ | ⟨e4,b4,c4⟩
  have hPE : BQ e v = (CB e v.tx (DK e v.tx)).1:=by unfold BQ;rw [if_neg e1.out,if_neg e2.out,if_neg e3.out,if_pos e4.out];exact Qy HI.out.core.log _ _
  obtain ⟨E,bb,hE⟩ : ∃ E bb,CB e v.tx (DK e v.tx) = (E,bb):=⟨_,_,rfl⟩
  have HPE : Ac (BQ e v = E):=⟨by rw [hPE,hE]⟩
  have HIN : Ac (∀ wx,Below w.heap.size w wx → Calls Tryz.prog 70 #[e.val Ad Am Al cd cm cl, .int .i64 v.tx] wx (Hy w0 wx E bb)):=⟨fun wx hbx => by
    have ho':=HO.out.below hbx
    have hb':=bj HB0.out hbx
    have h:=Om v.tx HI.out hb' ho'
    rw [hE] at h
    exact h⟩
  clear hPE hE
  rotate_left
  rcases BU v.kind 5 with ⟨e5,b5,c5⟩ | ⟨e5,b5,c5⟩
  have hPE : BQ e v = (CB e v.tx (DR e v.tx)).1:=by unfold BQ;rw [if_neg e1.out,if_neg e2.out,if_neg e3.out,if_neg e4.out,if_pos e5.out];exact Qy HI.out.core.log _ _
  obtain ⟨E,bb,hE⟩ : ∃ E bb,CB e v.tx (DR e v.tx) = (E,bb):=⟨_,_,rfl⟩
  have HPE : Ac (BQ e v = E):=⟨by rw [hPE,hE]⟩
  have HIN : Ac (∀ wx,Below w.heap.size w wx → Calls Tryz.prog 71 #[e.val Ad Am Al cd cm cl, .int .i64 v.tx] wx (Hy w0 wx E bb)):=⟨fun wx hbx => by
    have ho':=HO.out.below hbx
    have hb':=bj HB0.out hbx
    have h:=Ol v.tx HI.out hb' ho'
    rw [hE] at h
    exact h⟩
  clear hPE hE
  rotate_left
  rcases BU v.kind 6 with ⟨e6,b6,c6⟩ | ⟨e6,b6,c6⟩
  rcases Bool.eq_false_or_eq_true e.down with hd | hd
  have HPE : Ac (BQ e v = e):=⟨by unfold BQ;rw [if_neg e1.out,if_neg e2.out,if_neg e3.out,if_neg e4.out,if_neg e5.out,if_pos e6.out];rw [if_neg (by rw [hd];simp)]⟩
  have HDN:=As hd
  clear hd
  rotate_left
  have HDN:=As hd
  rcases (Bool.eq_false_or_eq_true (inB v.page 0 4)).symm with hp | hp
  have HPE : Ac (BQ e v = e):=⟨by unfold BQ;rw [if_neg e1.out,if_neg e2.out,if_neg e3.out,if_neg e4.out,if_neg e5.out,if_pos e6.out];rw [if_neg (by rw [hp];simp)]⟩
  have HPG:=As hp
  clear hd hp
  rotate_left
  have HPG:=As hp
  have hpg:=DC.1 hp
  obtain ⟨p,hpp⟩ : ∃ p : Nat,v.page = (p : Int):=⟨v.page.toNat,by omega⟩
  obtain ⟨E,hE⟩ : ∃ E,CP e p = E:=⟨_,rfl⟩
  have HPE : Ac (BQ e v = E):=⟨by unfold BQ;rw [if_neg e1.out,if_neg e2.out,if_neg e3.out,if_neg e4.out,if_neg e5.out,if_pos e6.out];rw [if_pos ⟨hd,hp⟩,hpp,Int.toNat_natCast,hE]⟩
  have HIN : Ac (∀ wx,Below w.heap.size w wx → Calls Tryz.prog 72 #[.agg #[.slice Ad e.disk.length cd, .slice Am e.mem.length cm, .slice Al e.log.length cl, .int .i64 e.safe, .bool false], .int .i64 v.page] wx (RA w0 wx E)):=⟨fun wx hbx => by
    have ho':=HO.out.below hbx
    have h:=JB (p:=p) (by omega) (Ay (Cu.2 ⟨HI.out.core.dlen,HI.out.core.dok⟩)) (Ay HI.out.G5) (bj HB0.out hbx) ho'
    rw [hE, ← hpp] at h
    rw [Eng.ag,hd] at h
    exact h.mono fun x w' h => ⟨_,_,_,h.1,h.2.1,h.2.2.1,Bf.QG ho' h.2.2.2⟩⟩
  clear hd hp hpg hpp hE
  rotate_left
  rcases BU v.kind 7 with ⟨e7,b7,c7⟩ | ⟨e7,b7,c7⟩
  rcases Bool.eq_false_or_eq_true e.down with hd | hd
  have HPE : Ac (BQ e v = e):=⟨by unfold BQ;rw [if_neg e1.out,if_neg e2.out,if_neg e3.out,if_neg e4.out,if_neg e5.out,if_neg e6.out,if_pos e7.out];rw [if_neg (by rw [hd];simp)]⟩
  have HDN:=As hd
  clear hd
  rotate_left
  have HDN:=As hd
  have HPE : Ac (BQ e v = FX e):=⟨by unfold BQ;rw [if_neg e1.out,if_neg e2.out,if_neg e3.out,if_neg e4.out,if_neg e5.out,if_neg e6.out,if_pos e7.out];rw [if_pos hd]⟩
  obtain ⟨E,hE⟩ : ∃ E,FX e = E:=⟨_,rfl⟩
  have HEE : Ac ({ e with safe:=(e.log.length : Int) } = E ∧ E.safe = (e.log.length : Int) ∧ E.down = e.down):=⟨by rw [← hE];exact ⟨rfl,rfl,rfl⟩⟩
  rw [hE] at HPE
  clear hd hE
  rotate_left
  rcases BU v.kind 8 with ⟨e8,b8,c8⟩ | ⟨e8,b8,c8⟩
  rcases lts v.n 0 with ⟨e10,b10,c10⟩ | ⟨e10,b10,c10⟩
  have HPE : Ac (BQ e v = e):=⟨by unfold BQ;rw [if_neg e1.out,if_neg e2.out,if_neg e3.out,if_neg e4.out,if_neg e5.out,if_neg e6.out,if_neg e7.out,if_pos e8.out];rw [if_neg (by have:=e10.out;omega)]⟩
  rotate_left
  obtain ⟨E,hE⟩ : ∃ E,JD e v.n = E:=⟨_,rfl⟩
  have HPE : Ac (BQ e v = E):=⟨by unfold BQ;rw [if_neg e1.out,if_neg e2.out,if_neg e3.out,if_neg e4.out,if_neg e5.out,if_neg e6.out,if_neg e7.out,if_pos e8.out];rw [if_pos (by have:=e10.out;omega),hE]⟩
  have HIN : Ac (∀ wx,Below w.heap.size w wx → Calls Tryz.prog 73 #[e.val Ad Am Al cd cm cl, .int .i64 v.n] wx (RA w0 wx E)):=⟨fun wx hbx => by
    have h:=PG v.n (Ay (Cu.2 ⟨HI.out.core.dlen,HI.out.core.dok⟩)) HI.out.core.s0 HI.out.core.s1 (Be HI.out.core.log) (bj HB0.out hbx) (HO.out.below hbx)
    rw [hE] at h
    exact h⟩
  clear hE
  rotate_left
  rcases BU v.kind 9 with ⟨e9,b9,c9⟩ | ⟨e9,b9,c9⟩
  rcases lts v.n 0 with ⟨e10,b10,c10⟩ | ⟨e10,b10,c10⟩
  rcases Bool.eq_false_or_eq_true e.down with hd | hd
  have HPE : Ac (BQ e v = e):=⟨by unfold BQ;rw [if_neg e1.out,if_neg e2.out,if_neg e3.out,if_neg e4.out,if_neg e5.out,if_neg e6.out,if_neg e7.out,if_neg e8.out,if_pos e9.out];rw [if_neg (fun h => by have h1:=h.1;have h2:=h.2;have h3:=e10.out;omega)]⟩
  have HDN:=As hd
  clear hd
  rotate_left
  have HPE : Ac (BQ e v = e):=⟨by unfold BQ;rw [if_neg e1.out,if_neg e2.out,if_neg e3.out,if_neg e4.out,if_neg e5.out,if_neg e6.out,if_neg e7.out,if_neg e8.out,if_pos e9.out];rw [if_neg (fun h => by have h1:=h.1;have h2:=h.2;have h3:=e10.out;omega)]⟩
  have HDN:=As hd
  clear hd
  rotate_left
  rcases (Bool.eq_false_or_eq_true e.down).symm with hd | hd
  have HPE : Ac (BQ e v = e):=⟨by unfold BQ;rw [if_neg e1.out,if_neg e2.out,if_neg e3.out,if_neg e4.out,if_neg e5.out,if_neg e6.out,if_neg e7.out,if_neg e8.out,if_pos e9.out];rw [if_neg (fun h => by have h1:=h.1;rw [hd] at h1;cases h1)]⟩
  have HDN:=As hd
  clear hd
  rotate_left
  have HDN:=As hd
  obtain ⟨n,hn⟩ : ∃ n : Nat,v.n = (n : Int):=⟨v.n.toNat,by have:=e10.out;omega⟩
  obtain ⟨E,hE⟩ : ∃ E,upE (CW n (EP e)) = E:=⟨_,rfl⟩
  have HPE : Ac (BQ e v = E):=⟨by unfold BQ;rw [if_neg e1.out,if_neg e2.out,if_neg e3.out,if_neg e4.out,if_neg e5.out,if_neg e6.out,if_neg e7.out,if_neg e8.out,if_pos e9.out];rw [if_pos ⟨hd,by omega⟩,hn,Int.toNat_natCast,Qr,hE]⟩
  obtain ⟨r,hr⟩ : ∃ r,decide (AO (CW n (EP e)) = 0) = r:=⟨_,rfl⟩
  have HIN : Ac (∀ wx,Below w.heap.size w wx → Calls Tryz.prog 43 #[.agg #[.slice Ad e.disk.length cd, .slice Am e.mem.length cm, .slice Al e.log.length cl, .int .i64 e.safe, .bool true], .int .i64 v.n] wx (Hy w0 wx E r)):=⟨fun wx hbx => by
    have h:=Sm n (Ay (Cu.2 ⟨HI.out.core.dlen,HI.out.core.dok⟩)) HI.out.core.log (F8.1 HI.out.ok).rise (bj HB0.out hbx) (HO.out.below hbx)
    rw [← hn,Eng.ag,hd] at h
    exact h.mono fun x w' h => by
      obtain ⟨a1,a2,a3,h1,h2,h3,h4⟩:=h
      rw [hE,hr] at h1
      rw [hE] at h2
      exact ⟨a1,a2,a3,h1,h2,h3,h4⟩⟩
  clear hd hn hE hr
  rotate_left
  have HPE : Ac (BQ e v = e):=⟨by unfold BQ;rw [if_neg e1.out,if_neg e2.out,if_neg e3.out,if_neg e4.out,if_neg e5.out,if_neg e6.out,if_neg e7.out,if_neg e8.out,if_neg e9.out]⟩
  all_goals
    go_enter Tryz.func33,Tryz.ntmps33
    go_wp2_with (first
      | (with_reducible refine Aw (vd:=.slice Ad e.disk.length cd) (vm:=.slice Am e.mem.length cm) (vl:=.slice Al e.log.length cl) e ?_;clear HONE;intro w1 hb1 hz1 hq1;clear hz1;have HB:=As hb1;have HQ:=As hq1;have HL1:=As hq1.lt;clear hb1 hq1;have x0:=HQ.out.c0;have x1:=HQ.out.c1;have x2:=HQ.out.c2;have x3:=HQ.out.c3;have x4:=HQ.out.c4)
      | (with_reducible refine EN (A:=A) (c:=c) v ?_;intro w2 hb1 hz1 hq1;clear hz1;have HN1:=As HB.out.size;replace HB:=As (bj HB.out hb1);replace HQ:=As (HQ.out.up hb1);have HV:=As hq1;have HL2:=As hq1.lt;replace x0:=bc hb1 x0;replace x1:=bc hb1 x1;replace x2:=bc hb1 x2;replace x3:=bc hb1 x3;replace x4:=bc hb1 x4;clear hb1 hq1)
      | (refine Aw (vd:=.slice none 0 0) (vm:=.slice none 0 0) (vl:=.slice none 0 0) zE ?_;clear HTWO;intro w3 hb1 hz1 hq1;have HN2:=As HB.out.size;replace HB:=As (bj HB.out hb1);replace HQ:=As (HQ.out.up hb1);replace HV:=As (HV.out.up hb1);have HP:=As hq1;have HZ3:=As hz1;replace x0:=bc hb1 x0;replace x1:=bc hb1 x1;replace x2:=bc hb1 x2;replace x3:=bc hb1 x3;replace x4:=bc hb1 x4;clear hb1 hz1 hq1)
      | (with_reducible refine Aw (vd:=.slice Ad e.disk.length cd) (vm:=.slice Am e.mem.length cm) (vl:=.slice Al e.log.length cl) e ?_;intro w4 hb1 hz1 hq1;clear hz1;have HN3:=As HB.out.size;replace HB:=As (bj HB.out hb1);replace HQ:=As (HQ.out.up hb1);replace HV:=As (HV.out.up hb1);replace HP:=As (HP.out.up hb1);have HXB:=As hq1;have hne1 : ¬ w3.heap.size = w2.heap.size:=(by have:=HZ3.out;omega);have hne2 : ¬ w2.heap.size = w3.heap.size:=(by have:=HZ3.out;omega);replace x0:=bc hb1 x0;replace x1:=bc hb1 x1;replace x2:=bc hb1 x2;replace x3:=bc hb1 x3;replace x4:=bc hb1 x4;have v0:=HV.out.c0;have v1:=HV.out.c1;have v2:=HV.out.c2;have v3:=HV.out.c3;have v4:=HV.out.c4;have v5:=HV.out.c5;have n0:=HXB.out.c0;have n1:=HXB.out.c1;have n2:=HXB.out.c2;have n3:=HXB.out.c3;have n4:=HXB.out.c4;have m0:=HXB.out.frz 0;have m1:=HXB.out.frz 1;have m2:=HXB.out.frz 2;have m3:=HXB.out.frz 3;have m4:=HXB.out.frz 4;have y0:=HP.out.c0;have y1:=HP.out.c1;have y2:=HP.out.c2;have y3:=HP.out.c3;have y4:=HP.out.c4;have f0:=HP.out.frz 0;have f1:=HP.out.frz 1;have f2:=HP.out.frz 2;have f3:=HP.out.frz 3;have f4:=HP.out.frz 4;(try rw [HDN.out] at x4);clear hb1 hq1)
      | ((first | go_at_call 67 | go_at_call 68 | go_at_call 69 | go_at_call 70 | go_at_call 71 | go_at_call 72 | go_at_call 73 | go_at_call 43);refine (HIN.out w4 HB.out).mono ?_;rintro x w5 ⟨ud,um,ul,rfl,ho,hb5,hk5⟩;obtain ⟨Bd,dd,Bm,dm,Bl,dl,rfl,rfl,rfl, -, -⟩:=ho.reads;have HO5:=As ho;have HB5:=As hb5;have HK5:=As ((Bf.of_below HB.out).CJ hk5);have hx:=HXB.out.Rc hk5;have hp:=HP.out.Rc hk5;have HX5:=As hx;have HP5:=As hp;clear x0 x1 x2 x3 x4 v0 v1 v2 v3 v4 v5 n0 n1 n2 n3 n4 m0 m1 m2 m3 m4 y0 y1 y2 y3 y4 f0 f1 f2 f3 f4;have n0:=hx.c0;have n1:=hx.c1;have n2:=hx.c2;have n3:=hx.c3;have n4:=hx.c4;have m0:=hx.frz 0;have m1:=hx.frz 1;have m2:=hx.frz 2;have m3:=hx.frz 3;have m4:=hx.frz 4;have y0:=hp.c0;have y1:=hp.c1;have y2:=hp.c2;have y3:=hp.c3;have y4:=hp.c4;have f0:=hp.frz 0;have f1:=hp.frz 1;have f2:=hp.frz 2;have f3:=hp.frz 3;have f4:=hp.frz 4;clear ho hb5 hk5 hx hp)
      | (refine OG (Go.Proofs.YtpjmlpmhgfghbaaGreat.Az w5 w3.heap.size E (.slice Bd E.disk.length dd) (.slice Bm E.mem.length dm) (.slice Bl E.log.length dl)) ?_;intro w6 hw6;have hx : Ai w6 w3.heap.size E (.slice Bd E.disk.length dd) (.slice Bm E.mem.length dm) (.slice Bl E.log.length dl):=(by rw [← hw6];exact HX5.out.Az E _ _ _);have hp : Ai w6 w2.heap.size zE (.slice none 0 0) (.slice none 0 0) (.slice none 0 0):=(by rw [← hw6];exact ((((HP5.out.far hne1 0 _).far hne1 1 _).far hne1 2 _).far hne1 3 _).far hne1 4 _);have HO6 : Ac (AV w6 w0.heap.size (.slice Bd E.disk.length dd) (.slice Bm E.mem.length dm) (.slice Bl E.log.length dl) E):=⟨by rw [← hw6];exact HO5.out.Az (f:=E) HX5.out⟩;have HB6 : Ac (Below w0.heap.size w0 w6):=⟨by rw [← hw6];exact Ak HB5.out (Nat.le_trans HB0.out.size HN3.out) E _ _ _⟩;have HK6 : Ac (Bf w w6):=⟨by rw [← hw6];exact HK5.out.Az HN3.out E _ _ _⟩;have HP6:=As hp;clear n0 n1 n2 n3 n4 m0 m1 m2 m3 m4 y0 y1 y2 y3 y4 f0 f1 f2 f3 f4;have n0:=hx.c0;have n1:=hx.c1;have n2:=hx.c2;have n3:=hx.c3;have n4:=hx.c4;have y0:=hp.c0;have y1:=hp.c1;have y2:=hp.c2;have y3:=hp.c3;have y4:=hp.c4;have f0:=hp.frz 0;have f1:=hp.frz 1;have f2:=hp.frz 2;have f3:=hp.frz 3;have f4:=hp.frz 4;clear hw6 hx hp)
      | (go_at_call 55;refine (BS _ _ _ _).mono ?_;rw [HPG.out];rintro x w' ⟨rfl,rfl⟩)
      | (have hee:=HEE;refine OG (w4.setCell ⟨w3.heap.size,3,none⟩ (.int .i64 (e.log.length : Int))) ?_;clear HEE;intro w6 hw6;have hx : Ai w6 w3.heap.size E (.slice Ad e.disk.length cd) (.slice Am e.mem.length cm) (.slice Al e.log.length cl):=(by rw [← hw6, ← hee.out.1];exact HXB.out.Cz _);have hp : Ai w6 w2.heap.size zE (.slice none 0 0) (.slice none 0 0) (.slice none 0 0):=(by rw [← hw6];exact HP.out.far hne1 3 _);have HO6 : Ac (AV w6 w0.heap.size (.slice Ad e.disk.length cd) (.slice Am e.mem.length cm) (.slice Al e.log.length cl) E):=⟨by rw [← hw6, ← hee.out.1];have h:=(HO.out.below HB.out).FZ HXB.out 3 (.int .i64 (e.log.length : Int));exact ⟨h.ex,h.l⟩⟩;have HB6 : Ac (Below w0.heap.size w0 w6):=⟨by rw [← hw6];exact (bj HB0.out HB.out).setCell (p:=⟨w3.heap.size,3,none⟩) (Nat.le_trans HB0.out.size HN3.out) _⟩;have HK6 : Ac (Bf w w6):=⟨by rw [← hw6];exact (Bf.of_below HB.out).setCell (p:=⟨w3.heap.size,3,none⟩) HN3.out _⟩;have HP6:=As hp;clear x0 x1 x2 x3 x4 v0 v1 v2 v3 v4 v5 n0 n1 n2 n3 n4 m0 m1 m2 m3 m4 y0 y1 y2 y3 y4 f0 f1 f2 f3 f4;have n0:=hx.c0;have n1:=hx.c1;have n2:=hx.c2;have n3:=hx.c3;have n4:=hx.c4;have y0:=hp.c0;have y1:=hp.c1;have y2:=hp.c2;have y3:=hp.c3;have y4:=hp.c4;have f0:=hp.frz 0;have f1:=hp.frz 1;have f2:=hp.frz 2;have f3:=hp.frz 3;have f4:=hp.frz 4;clear hw6 hx hp))
    first
      | (have hy:=HP6.out.Az E (.slice Bd E.disk.length dd) (.slice Bm E.mem.length dm) (.slice Bl E.log.length dl)
         have h1:=AV.Az (f:=E) (xd:=.slice Bd E.disk.length dd) (xm:=.slice Bm E.mem.length dm) (xl:=.slice Bl E.log.length dl) HO6.out HP6.out
         have h2:=Ak (g:=w2.heap.size) HB6.out (Nat.le_trans HB0.out.size HN2.out) E (.slice Bd E.disk.length dd) (.slice Bm E.mem.length dm) (.slice Bl E.log.length dl)
         have h3:=Bf.Az (g:=w2.heap.size) HK6.out HN2.out E (.slice Bd E.disk.length dd) (.slice Bm E.mem.length dm) (.slice Bl E.log.length dl)
         have z0:=hy.c0
         have z1:=hy.c1
         have z2:=hy.c2
         have z3:=hy.c3
         have z4:=hy.c4
         exact bodyPost_ret (v:=E.ag (.slice Bd E.disk.length dd) (.slice Bm E.mem.length dm) (.slice Bl E.log.length dl)) (by simp [results,Tryz.results33,go_sem,z0,z1,z2,z3,z4]) rfl (by rw [HPE.out];exact ⟨_,_,_,rfl,h1,h2,h3⟩))
      | (have hy:=HP6.out.Az E (.slice Ad e.disk.length cd) (.slice Am e.mem.length cm) (.slice Al e.log.length cl)
         have h1:=AV.Az (f:=E) (xd:=.slice Ad e.disk.length cd) (xm:=.slice Am e.mem.length cm) (xl:=.slice Al e.log.length cl) HO6.out HP6.out
         have h2:=Ak (g:=w2.heap.size) HB6.out (Nat.le_trans HB0.out.size HN2.out) E (.slice Ad e.disk.length cd) (.slice Am e.mem.length cm) (.slice Al e.log.length cl)
         have h3:=Bf.Az (g:=w2.heap.size) HK6.out HN2.out E (.slice Ad e.disk.length cd) (.slice Am e.mem.length cm) (.slice Al e.log.length cl)
         have z0:=hy.c0
         have z1:=hy.c1
         have z2:=hy.c2
         have z3:=hy.c3
         have z4:=hy.c4
         exact bodyPost_ret (v:=E.ag (.slice Ad e.disk.length cd) (.slice Am e.mem.length cm) (.slice Al e.log.length cl)) (by simp [results,Tryz.results33,go_sem,z0,z1,z2,z3,z4]) rfl (by rw [HPE.out];exact ⟨_,_,_,rfl,h1,h2,h3⟩))
      | (have hy:=HP.out.Az e (.slice Ad e.disk.length cd) (.slice Am e.mem.length cm) (.slice Al e.log.length cl)
         have h1:=AV.Az (f:=e) (xd:=.slice Ad e.disk.length cd) (xm:=.slice Am e.mem.length cm) (xl:=.slice Al e.log.length cl) (HO.out.below HB.out) HP.out
         have h2:=Ak (g:=w2.heap.size) (bj HB0.out HB.out) (Nat.le_trans HB0.out.size HN2.out) e (.slice Ad e.disk.length cd) (.slice Am e.mem.length cm) (.slice Al e.log.length cl)
         have h3:=Bf.Az (g:=w2.heap.size) (Bf.of_below HB.out) HN2.out e (.slice Ad e.disk.length cd) (.slice Am e.mem.length cm) (.slice Al e.log.length cl)
         have z0:=hy.c0
         have z1:=hy.c1
         have z2:=hy.c2
         have z3:=hy.c3
         have z4:=hy.c4
         exact bodyPost_ret (v:=e.ag (.slice Ad e.disk.length cd) (.slice Am e.mem.length cm) (.slice Al e.log.length cl)) (by simp [results,Tryz.results33,go_sem,z0,z1,z2,z3,z4]) rfl (by rw [HPE.out];exact ⟨_,_,_,rfl,h1,h2,h3⟩))
set_option maxRecDepth 100000 in
set_option maxHeartbeats 8000000 in
theorem KY (w : World) : Calls Tryz.prog 114 #[] w (OA w newP):=by
  have hmk:=TB
  go_enter Tryz.func114,Tryz.ntmps114
  go_wp2
  obtain ⟨w1,hw1⟩ : ∃ w1,w.alloc (Obj.cells #[.int .i64 0, .int .i64 0, .slice (some ⟨w.heap.size + 1,0,none⟩) 3 3] 81) = w1:=⟨_,rfl⟩
  have hz1 : w1.heap.size = w.heap.size + 1:=by rw [← hw1,BA]
  obtain ⟨w2,hw2⟩ : ∃ w2,w1.alloc (.cells (madeCells #[.int .i64 0] 3) 3) = w2:=⟨_,rfl⟩
  have ho : AX w2 w1.heap.size (.slice (some ⟨w1.heap.size,0,none⟩) 3 3) [0,0,0]:=by rw [← hw2];exact JM w1 w1.heap.size 3 .i64 3 (Nat.le_refl _) (by decide)
  have hq : AR w2 w.heap.size newP (.slice (some ⟨w.heap.size + 1,0,none⟩) 3 3):=by rw [← hw2, ← hw1];exact (AR.mk1 w newP _).up (Ah (Below.refl _ _) _)
  have hb : Below w.heap.size w w2:=by rw [← hw2, ← hw1];exact Ah (Ah (Below.refl _ _) _) _
  rw [hw1,hw2]
  rw [hz1] at ho
  have z0:=hq.c0
  have z1:=hq.c1
  have z2:=hq.c2
  exact bodyPost_ret (v:=newP.own (.slice (some ⟨w.heap.size + 1,0,none⟩) 3 3)) (by simp [results,Tryz.results114,go_sem,z0,z1,z2]) rfl ⟨_,rfl,ho.lower (by omega),hb⟩
theorem Pk {k : Nat} (h : k < 5) : (List.replicate 5 newP).take (k + 1) = (List.replicate 5 newP).take k ++ [newP]:=by
  match k,h with
  | 0,_ => rfl
  | 1,_ => rfl
  | 2,_ => rfl
  | 3,_ => rfl
  | 4,_ => rfl
set_option maxRecDepth 100000 in
set_option maxHeartbeats 8000000 in
theorem J4 (w : World) : Calls Tryz.prog 54 #[] w (Rz w (List.replicate 5 newP)):=by
  go_enter Tryz.func54,Tryz.ntmps54
  go_wp2
  go_loopw [1,2] (fun v i wr => ∃ k : Nat,k ≤ 5 ∧ i = .int .i64 (k : Int) ∧ Ac (EK wr w.heap.size v ((List.replicate 5 newP).take k)) ∧ Ac (Below w.heap.size w wr)) (fun _ i _ => (5 - intOf i).toNat)
  case atStart => exact ⟨0,Nat.zero_le _,rfl,⟨Qw rfl (Nat.le_refl _)⟩,⟨(Below.refl _ _).alloc (Nat.le_refl _) _⟩⟩
  case round =>
    obtain ⟨k,hk,rfl,HO,HW⟩:=hrel
    by_cases hlt : k < 5
    · have HT:=As (Pk hlt)
      have HLN : Ac (((List.replicate 5 newP).take k).length = k):=⟨by simp;omega⟩
      have hki : (k : Int) < 5:=by omega
      go_wp2_with (first | (go_at_call 114;refine (KY _).mono ?_;rintro e w2 ⟨v,rfl,ho,hb2⟩;have HOv:=As ho;have HW2:=As hb2;have HO2:=As (Kd.DU HO.out HW2.out);clear ho hb2) | (at_builtin;refine Ga (p:=newP) rfl (.tmp 8) (.tmp 10) rfl rfl rfl HOv.out HO2.out (bj HW.out HW2.out) (by have:=HLN.out;omega) HW.out.size ?_;intro v1 w3 hR hb3;have HR3:=As hR;have HW3:=As hb3;clear hR hb3))
      go_roundw
      case rel => exact ⟨k + 1,by omega,by go_num,⟨by rw [HT.out];exact HR3.out⟩,HW3⟩
      case measure => simp [intOf];omega
    · have hke : k = 5:=by omega
      subst hke
      go_wp2
      go_ret
      exact ⟨_,rfl,HO.out,HW.out⟩
theorem RJ {P : Program} {ops : Array Oper} {l : List Oper} {Q : Exit → Act → World → Prop} {a : Act} (W : World) (h : ∀ w1,W = w1 → wpList P ops Q l a w1) : wpList P ops Q l a W:=h W rfl
set_option maxRecDepth 100000 in
set_option maxHeartbeats 8000000 in
theorem K3 (w : World) : Calls Tryz.prog 32 #[] w (VU w DZ):=by
  go_enter Tryz.func32,Tryz.ntmps32
  go_wp2_with (first
    | (refine Aw (vd:=.slice none 0 0) (vm:=.slice none 0 0) (vl:=.slice none 0 0) zE ?_;intro w1 hb1 hz1 hq1;clear hz1;have HB:=As hb1;have HP:=As hq1;clear hb1 hq1)
    | (go_at_call 54;refine (J4 w1).mono ?_;rintro x w2 ⟨vd,rfl,ho,hb2⟩;obtain ⟨Dd,kd,rfl, -, -⟩:=Kd.CZ ho;have HD : Ac (EK w2 w1.heap.size (.slice Dd 5 kd) (List.replicate 5 newP)):=⟨ho⟩;have HB2:=As hb2;clear ho hb2)
    | (go_at_call 54;refine (J4 w2).mono ?_;rintro x w3 ⟨vm,rfl,ho,hb2⟩;obtain ⟨Dm,km,rfl, -, -⟩:=Kd.CZ ho;have HM : Ac (EK w3 w2.heap.size (.slice Dm 5 km) (List.replicate 5 newP)):=⟨ho⟩;have HB3:=As hb2;have HP3:=As ((HP.out.up HB2.out).up hb2);clear ho hb2)
    | (refine RJ (w3.alloc (.cells #[] 98)) ?_;intro w4 hw4;have hb4 : Below w3.heap.size w3 w4:=(by rw [← hw4];exact Ah (Below.refl _ _) _);have HR4 : Ac (OwnRs w4 w1.heap.size (.slice (some ⟨w3.heap.size,0,none⟩) 0 0) []):=⟨by rw [← hw4];exact rs_empty rfl (Nat.le_trans HB2.out.size HB3.out.size)⟩;have HB4:=As (bj HB3.out hb4);have HM4:=As (Kd.BD HM.out hb4);have hp:=HP3.out.up hb4;have HP4:=As hp;have y0:=hp.c0;have y1:=hp.c1;have y2:=hp.c2;have y3:=hp.c3;have y4:=hp.c4;have f0:=hp.frz 0;have f1:=hp.frz 1;have f2:=hp.frz 2;have f3:=hp.frz 3;have f4:=hp.frz 4;clear hp hb4 hw4))
  have hO : AV w4 w1.heap.size (.slice Dd 5 kd) (.slice Dm 5 km) (.slice (some ⟨w3.heap.size,0,none⟩) 0 0) DZ:=AV.mk2 (w0:=w2) HD.out HM4.out HB4.out HB2.out.size HR4.out
  have hy:=HP4.out.Az ⟨[], [], [],0,false⟩ (.slice Dd 5 kd) (.slice Dm 5 km) (.slice (some ⟨w3.heap.size,0,none⟩) 0 0)
  have h1:=hO.Az (f:=⟨[], [], [],0,false⟩) (xd:=.slice Dd 5 kd) (xm:=.slice Dm 5 km) (xl:=.slice (some ⟨w3.heap.size,0,none⟩) 0 0) HP4.out
  have h2:=Ak (g:=w.heap.size) (bj HB.out (bj HB2.out HB4.out)) (Nat.le_refl _) ⟨[], [], [],0,false⟩ (.slice Dd 5 kd) (.slice Dm 5 km) (.slice (some ⟨w3.heap.size,0,none⟩) 0 0)
  have hs:=HB.out.size
  have z0:=hy.c0
  have z1:=hy.c1
  have z2:=hy.c2
  have z3:=hy.c3
  have z4:=hy.c4
  simp only at z3 z4
  exact bodyPost_ret (v:=.agg #[.slice Dd 5 kd, .slice Dm 5 km, .slice (some ⟨w3.heap.size,0,none⟩) 0 0, .int .i64 0, .bool false]) (by simp [results,Tryz.results32,go_sem,z0,z1,z2,z3,z4]) rfl ⟨.slice Dd 5 kd, .slice Dm 5 km, .slice (some ⟨w3.heap.size,0,none⟩) 0 0,rfl,h1.lower hs,h2⟩
set_option maxRecDepth 100000 in
set_option maxHeartbeats 16000000 in
theorem KX {w0 w : World} {A : Option Addr} {c : Nat} {vs : List Evt} (hb : Below w0.heap.size w0 w) (hr : Kd.C Ih w0 A vs.length vs) : Calls Tryz.prog 9 #[.slice A vs.length c] w (CS w (Na vs).1 (Na vs).2):=by
  have HR:=As (Bh hr hb)
  have hmx:=(Cr hr).2
  clear hr hb
  by_cases h40 : 40 < vs.length
  · rw [Na,if_pos h40]
    go_enter Tryz.func9,Tryz.ntmps9
    go_wp2_with (refine Aw (vd:=.slice none 0 0) (vm:=.slice none 0 0) (vl:=.slice none 0 0) zE ?_;intro w1 hb1 hz1 hq1;clear hz1;have HB:=As hb1;have HP:=As hq1;have y0:=hq1.c0;have y1:=hq1.c1;have y2:=hq1.c2;have y3:=hq1.c3;have y4:=hq1.c4;have f0:=hq1.frz 0;have f1:=hq1.frz 1;have f2:=hq1.frz 2;have f3:=hq1.frz 3;have f4:=hq1.frz 4;clear hb1 hq1)
    obtain ⟨z0,z1,z2,z3,z4⟩:=HP.out.empty
    exact bodyPost_ret (v:=.tuple #[zEv, .bool false]) (by simp [results,Tryz.results9,go_sem,z0,z1,z2,z3,z4]) rfl ⟨_,_,_,rfl,Hu _ _,Ak (g:=w.heap.size) HB.out (Nat.le_refl _) zE _ _ _⟩
  · rw [Na,if_neg h40]
    have hn40 : ¬ (40 : Int) < (vs.length : Int):=by omega
    have HONE : True:=trivial
    go_enter Tryz.func9,Tryz.ntmps9
    go_wp2_with (first
      | (refine Aw (vd:=.slice none 0 0) (vm:=.slice none 0 0) (vl:=.slice none 0 0) zE ?_;clear HONE;intro w1 hb1 hz1 hq1;clear hz1;have HB:=As hb1;have HP:=As hq1;clear hb1 hq1)
      | (go_at_call 32;refine (K3 w1).mono ?_;rintro x w2 ⟨vd,vm,vl,rfl,ho,hb2⟩;obtain ⟨Ed,n1,Em,n2,El,n3,rfl,rfl,rfl, -, -⟩:=ho.reads;have HO:=As ho;have HX:=As hb2;clear hb2 ho))
    obtain ⟨w3,hw3⟩ : ∃ w3,w2.alloc (Obj.cells #[.slice Ed DZ.disk.length n1, .slice Em DZ.mem.length n2, .slice El DZ.log.length n3, .int .i64 DZ.safe, .bool DZ.down] 28) = w3:=⟨_,rfl⟩
    rw [hw3]
    have hb3 : Below w2.heap.size w2 w3:=by rw [← hw3];exact Ah (Below.refl _ _) _
    have hq3 : Ai w3 w2.heap.size DZ (.slice Ed DZ.disk.length n1) (.slice Em DZ.mem.length n2) (.slice El DZ.log.length n3):=by rw [← hw3];exact Ai.mk1 _ _ _ _ _
    have HEG : Ac (BM w1 w3 w2.heap.size DZ):=⟨⟨⟨_,_,_,hq3,HO.out.below hb3⟩,bj HX.out hb3,HX.out.size⟩⟩
    clear hw3 hb3 hq3
    go_loopw [5] (fun i wr => ∃ k : Nat,k ≤ vs.length ∧ i = .int .i64 (k : Int) ∧ Ac (BM w1 wr w2.heap.size (I5 DZ (vs.take k)))) (fun i _ => (vs.length - intOf i).toNat)
    case atStart => exact ⟨0,Nat.zero_le _,rfl,HEG⟩
    case round =>
      obtain ⟨k,hk,rfl,HE⟩:=hrel
      obtain ⟨⟨vd,vm,vl,hq,ho⟩, -, -⟩:=HE.out
      obtain ⟨Ed',m1,Em',m2,El',m3,rfl,rfl,rfl,hcl,hrd⟩:=ho.reads
      have HRD:=As hrd
      have HQ:=As hq
      have HO:=As ho
      have x0:=hq.c0
      have x1:=hq.c1
      have x2:=hq.c2
      have x3:=hq.c3
      have x4:=hq.c4
      by_cases hlt : k < vs.length
      · obtain ⟨ad,A2,c2,rfl,QV, -,hv⟩:=Mq (Bh HR.out HB.out) k hlt
        obtain ⟨z0,z1,z2,z3,z4,z5⟩:=QV
        replace z0:=bc HE.out.bel z0
        replace z1:=bc HE.out.bel z1
        replace z2:=bc HE.out.bel z2
        replace z3:=bc HE.out.bel z3
        replace z4:=bc HE.out.bel z4
        replace z5:=bc HE.out.bel z5
        have HTK:=As (show I5 DZ (vs.take (k + 1)) = BQ (I5 DZ (vs.take k)) (ev vs k) by rw [TM hlt,M5])
        have HINV:=As (Sv vs k (by omega))
        obtain ⟨X,hX⟩ : ∃ X,I5 DZ (vs.take k) = X:=⟨_,rfl⟩
        obtain ⟨v,hvv⟩ : ∃ v,ev vs k = v:=⟨_,rfl⟩
        rw [hX] at HRD HQ HO x0 x1 x2 x3 x4 HTK HINV HE
        rw [hvv] at z0 z1 z2 z3 z4 z5 HTK hv
        obtain ⟨X1,hX1⟩ : ∃ X1,BQ X v = X1:=⟨_,rfl⟩
        rw [hX1] at HTK
        have HDO : Ac (∀ wx,Below w1.heap.size w1 wx → AV wx w1.heap.size (.slice Ed' X.disk.length m1) (.slice Em' X.mem.length m2) (.slice El' X.log.length m3) X → Calls Tryz.prog 33 #[X.val Ed' Em' El' m1 m2 m3,v.val A2 c2] wx (RA w1 wx X1)):=⟨fun wx hb ho => by
          obtain ⟨C,hi⟩:=HINV.out
          have h:=Rb (c:=c2) v hi (by omega) hb ho hv
          rw [hX1] at h
          exact h⟩
        have hki : (k : Int) < (vs.length : Int):=by omega
        clear hq ho hrd hv hX hvv hcl hX1
        go_wp2
        refine AU (fun lx a wx => (Below w1.heap.size w1 wx ∧ Bf wr wx) ∧ (Un 5 (fun wx => Below wr.heap.size wr wx) lx a wx ∧ Sl 5 22 (fun v wx => ∃ ud um ul,v = X1.ag ud um ul ∧ AV wx w1.heap.size ud um ul X1) lx a wx)) 6 rfl (by kernel_rfl) (⟨⟨Aj HE.out.bel,Bf.refl _⟩,fun _ => Aj (Below.refl _ _),Bb⟩) (fun HT => ?_)
        refine Ap (i:=0) (v:=?_) 5 HT rfl (by kernel_rfl) (by kernel_rfl) rfl (kA Aa (kA (Af rfl) (Ab rfl rfl))) (by rfl) (fun _ _ _ h => h) (fun lx ax wx hK hS => ?_) ?_;rotate_left;(have hbx:=hS.2.1 hK;clear hS;replace x0:=bc hbx x0;replace x1:=bc hbx x1;replace x2:=bc hbx x2;replace x3:=bc hbx x3;replace x4:=bc hbx x4;replace z0:=bc hbx z0;replace z1:=bc hbx z1;replace z2:=bc hbx z2;replace z3:=bc hbx z3;replace z4:=bc hbx z4;replace z5:=bc hbx z5;go_simp;with_reducible rfl);rotate_left;simp only [sc0,sc1]
        refine Ap (i:=1) (v:=?_) 5 HT rfl (by kernel_rfl) (by kernel_rfl) rfl (kA Aa (kA (Af rfl) (Ab rfl rfl))) (by rfl) (fun _ _ _ h => h) (fun lx ax wx hK hS => ?_) ?_;rotate_left;(have hbx:=hS.2.1 hK;clear hS;replace x0:=bc hbx x0;replace x1:=bc hbx x1;replace x2:=bc hbx x2;replace x3:=bc hbx x3;replace x4:=bc hbx x4;replace z0:=bc hbx z0;replace z1:=bc hbx z1;replace z2:=bc hbx z2;replace z3:=bc hbx z3;replace z4:=bc hbx z4;replace z5:=bc hbx z5;go_simp;with_reducible rfl);rotate_left;simp only [sc0,sc1]
        refine Ap (i:=2) (v:=?_) 5 HT rfl (by kernel_rfl) (by kernel_rfl) rfl (kA Aa (kA (Af rfl) (Ab rfl rfl))) (by rfl) (fun _ _ _ h => h) (fun lx ax wx hK hS => ?_) ?_;rotate_left;(have hbx:=hS.2.1 hK;clear hS;replace x0:=bc hbx x0;replace x1:=bc hbx x1;replace x2:=bc hbx x2;replace x3:=bc hbx x3;replace x4:=bc hbx x4;replace z0:=bc hbx z0;replace z1:=bc hbx z1;replace z2:=bc hbx z2;replace z3:=bc hbx z3;replace z4:=bc hbx z4;replace z5:=bc hbx z5;go_simp;with_reducible rfl);rotate_left;simp only [sc0,sc1]
        refine Ap (i:=3) (v:=?_) 5 HT rfl (by kernel_rfl) (by kernel_rfl) rfl (kA Aa (kA (Af rfl) (Ab rfl rfl))) (by rfl) (fun _ _ _ h => h) (fun lx ax wx hK hS => ?_) ?_;rotate_left;(have hbx:=hS.2.1 hK;clear hS;replace x0:=bc hbx x0;replace x1:=bc hbx x1;replace x2:=bc hbx x2;replace x3:=bc hbx x3;replace x4:=bc hbx x4;replace z0:=bc hbx z0;replace z1:=bc hbx z1;replace z2:=bc hbx z2;replace z3:=bc hbx z3;replace z4:=bc hbx z4;replace z5:=bc hbx z5;go_simp;with_reducible rfl);rotate_left;simp only [sc0,sc1]
        refine Ap (i:=4) (v:=?_) 5 HT rfl (by kernel_rfl) (by kernel_rfl) rfl (kA Aa (kA (Af rfl) (Ab rfl rfl))) (by rfl) (fun _ _ _ h => h) (fun lx ax wx hK hS => ?_) ?_;rotate_left;(have hbx:=hS.2.1 hK;clear hS;replace x0:=bc hbx x0;replace x1:=bc hbx x1;replace x2:=bc hbx x2;replace x3:=bc hbx x3;replace x4:=bc hbx x4;replace z0:=bc hbx z0;replace z1:=bc hbx z1;replace z2:=bc hbx z2;replace z3:=bc hbx z3;replace z4:=bc hbx z4;replace z5:=bc hbx z5;go_simp;with_reducible rfl);rotate_left;simp only [sc0,sc1]
        refine BX (i:=5) (f:=33) (args:=#[X.val Ed' Em' El' m1 m2 m3,v.val A2 c2]) (fun v => ∃ ud um ul,v = X1.ag ud um ul) rfl (by kernel_rfl) rfl Tryz.func33 (by kernel_rfl) rfl rfl (by rfl) (by simp only [List.map_toArray,List.map_cons,List.map_nil];rfl) (fun wx hS => (HDO.out wx hS.1.1 (HO.out.below (hS.2.1 (by kernel_rfl)))).mono (by rintro y w6 ⟨ud,um,ul,rfl,ho,hb,hk⟩;exact ⟨_,rfl,⟨ud,um,ul,rfl⟩,⟨hb,hS.1.2.CJ hk⟩,fun h => (AL (by kernel_rfl) h).elim,fun _ => ⟨ud,um,ul,rfl,ho⟩⟩)) (fun vx hg => ?_);simp only [sc0,sc1]
        obtain ⟨ud,um,ul,rfl⟩:=hg
        refine Cc (i:=6) (by kernel_rfl) rfl (fun wx hS => ?_)
        obtain ⟨⟨h1,h2⟩, -,h3⟩:=hS
        obtain ⟨ud',um',ul',hu',hown⟩:=h3 (by kernel_rfl)
        have hu' : X1.ag ud um ul = X1.ag ud' um' ul':=hu'
        obtain ⟨rfl,rfl,rfl⟩ : ud = ud' ∧ um = um' ∧ ul = ul':=by simpa using hu'
        obtain ⟨Bd,dd,Bm,dm,Bl,dl,rfl,rfl,rfl, -, -⟩:=hown.reads
        have hq5:=HQ.out.Rc h2
        clear x0 x1 x2 x3 x4 z0 z1 z2 z3 z4 z5
        have x0:=hq5.c0
        have x1:=hq5.c1
        have x2:=hq5.c2
        have x3:=hq5.c3
        have x4:=hq5.c4
        have f0:=hq5.frz 0
        have f1:=hq5.frz 1
        have f2:=hq5.frz 2
        have f3:=hq5.frz 3
        have f4:=hq5.frz 4
        refine BG (w1:=Go.Proofs.YtpjmlpmhgfghbaaGreat.Az wx w2.heap.size X1 (.slice Bd X1.disk.length dd) (.slice Bm X1.mem.length dm) (.slice Bl X1.log.length dl)) rfl (by rfl) (by go_simp) ?_
        obtain ⟨w9,hw9⟩ : ∃ w9,Go.Proofs.YtpjmlpmhgfghbaaGreat.Az wx w2.heap.size X1 (.slice Bd X1.disk.length dd) (.slice Bm X1.mem.length dm) (.slice Bl X1.log.length dl) = w9:=⟨_,rfl⟩
        have HE9 : Ac (BM w1 w9 w2.heap.size X1):=⟨by rw [← hw9];exact ⟨⟨_,_,_,hq5.Az X1 _ _ _,hown.Az (f:=X1) hq5⟩,Ak h1 HE.out.ge X1 _ _ _,HE.out.ge⟩⟩
        rw [hw9]
        clear h1 h2 h3 hu' hown hq5 hw9 x0 x1 x2 x3 x4 f0 f1 f2 f3 f4
        refine BL (by kernel_rfl) ?_
        go_wp2
        go_roundw
        case rel => exact ⟨k + 1,by omega,by go_num,⟨by rw [HTK.out];exact HE9.out⟩⟩
        case measure => simp [intOf];omega
      · have hke : vs.take k = vs:=List.take_of_length_le (by omega)
        have HT:=As (show I5 DZ (vs.take k) = I5 DZ vs by rw [hke])
        have HBr:=As HE.out.bel
        obtain ⟨X,hX⟩ : ∃ X,I5 DZ (vs.take k) = X:=⟨_,rfl⟩
        rw [hX] at HO x0 x1 x2 x3 x4 HT
        have hp:=HP.out.up HE.out.bel
        have HP2:=As hp
        have y0:=hp.c0
        have y1:=hp.c1
        have y2:=hp.c2
        have y3:=hp.c3
        have y4:=hp.c4
        have f0:=hp.frz 0
        have f1:=hp.frz 1
        have f2:=hp.frz 2
        have f3:=hp.frz 3
        have f4:=hp.frz 4
        clear hq ho hrd hcl hX hp hke
        go_wp2
        have hy:=HP2.out.Az X (.slice Ed' X.disk.length m1) (.slice Em' X.mem.length m2) (.slice El' X.log.length m3)
        have h1:=HO.out.Az (f:=X) (xd:=.slice Ed' X.disk.length m1) (xm:=.slice Em' X.mem.length m2) (xl:=.slice El' X.log.length m3) HP2.out
        have h2:=Ak (g:=w.heap.size) (bj HB.out HBr.out) (Nat.le_refl _) X (.slice Ed' X.disk.length m1) (.slice Em' X.mem.length m2) (.slice El' X.log.length m3)
        have hs:=HB.out.size
        have z0:=hy.c0
        have z1:=hy.c1
        have z2:=hy.c2
        have z3:=hy.c3
        have z4:=hy.c4
        exact bodyPost_ret (v:=.tuple #[X.ag (.slice Ed' X.disk.length m1) (.slice Em' X.mem.length m2) (.slice El' X.log.length m3), .bool true]) (by simp [results,Tryz.results9,go_sem,z0,z1,z2,z3,z4]) rfl (by rw [← HT.out];exact ⟨_,_,_,rfl,h1.lower hs,h2⟩)
theorem Rk {ps : List Page} (h : geo ps) : ps.length ≤ 1048576 ∧ ∀ p ∈ ps,p.vals.length ≤ 1048576:=⟨by rw [h.1];decide,fun p hp => by rw [h.2 p hp];decide⟩
theorem WJ (vs : List Evt) : UF (Na vs).1:=by
  unfold Na
  split
  · exact ⟨⟨by simp [zE],fun p hp => by cases hp⟩,⟨by simp [zE],fun p hp => by cases hp⟩,by simp [zE]⟩
  · obtain ⟨C,hi⟩:=Sv vs vs.length (by omega)
    rw [List.take_length] at hi
    exact ⟨Rk (Ay (Cu.2 ⟨hi.core.dlen,hi.core.dok⟩)),Rk (Ay hi.G5),Nat.le_trans (Be hi.core.log) (by decide)⟩
theorem RD.toK {w : World} {b : Nat} {v : Value} {vs : List Evt} (h : RD w b v vs) : Jb w b (fun k => b ≤ k ∧ k < w.heap.size) v vs:=Kd.EA (Kd.FQ h) (fun k hk => ⟨hk.2.1,hk.2.2.1⟩)
set_option maxRecDepth 100000 in
set_option maxHeartbeats 16000000 in
theorem JG {w0 w : World} {A : Option Addr} {c : Nat} {vs : List Evt} (hb : Below w0.heap.size w0 w) (hr : Kd.C Ih w0 A vs.length vs) : Calls Tryz.prog 6 #[.slice A vs.length c] w (IW w):=by
  have HR:=As (Bh hr hb)
  clear hr hb
  obtain ⟨z,hz⟩ : ∃ z,szV vs 1048576 = z:=⟨_,rfl⟩
  have HZ:=As hz
  clear hz
  rcases lts z 0 with ⟨e1,b1,c1⟩ | ⟨e1,b1,c1⟩
  · go_enter Tryz.func6,Tryz.ntmps6
    go_wp2_with (first | (go_at_call 19;refine (Jp (c:=c) 1048576 (by decide) (by decide) (Below.refl w.heap.size w) HR.out).mono ?_;rw [HZ.out];rintro x w2 ⟨rfl,hb2⟩;have HB2:=As hb2;clear hb2))
    go_ret
    exact ⟨rfl,HB2.out⟩
  · have HF:=As (WK (vs:=vs) (by rw [HZ.out];have:=e1.out;omega))
    have HFE0 : UF (Na vs).1:=WJ vs
    obtain ⟨R,hR⟩ : ∃ R,Na vs = R:=⟨_,rfl⟩
    rw [hR] at HFE0
    obtain ⟨E,bb⟩:=R
    have HFE:=As (show UF E from HFE0)
    have HE:=As hR
    have hbb:=QI bb
    have hk1 : decide (1 + (Md vs vs.length : Int) < 0) = false:=by simp;omega
    have hk2 : decide (1 + (cntE E : Int) < 0) = false:=by simp;omega
    have hk3 : ((1 + (cntE E : Int)) != (1 + (cntE E : Int))) = false:=by simp
    clear hR HFE0
    go_enter Tryz.func6,Tryz.ntmps6
    go_wp2_with (first
      | (go_at_call 19;refine (Jp (c:=c) 1048576 (by decide) (by decide) (Below.refl w.heap.size w) HR.out).mono ?_;rw [HZ.out];rintro x w2 ⟨rfl,hb2⟩;have HB2:=As hb2;clear hb2)
      | (go_at_call 21;refine (F5 HF.out HB2.out HR.out).mono ?_;rintro x w3 ⟨u,rfl,ho,hb3⟩;obtain ⟨B1,d1,rfl, -,hc⟩:=Kd.CZ ho;have HC3:=As hc;have HB3:=As (bj HB2.out hb3);clear HB2 ho hb3 hc)
      | (go_at_call 9;refine (KX (c:=d1) (Below.refl w3.heap.size w3) HC3.out).mono ?_;rw [HE.out];rintro x w4 ⟨vd,vm,vl,rfl,ho,hb4⟩;obtain ⟨Jd,j1_,Jm,j2_,Jl,j3_,rfl,rfl,rfl, -,hc⟩:=ho.reads;have HS4:=As hc;have HB4:=As (bj HB3.out hb4);clear HB3 HC3 ho hb4 hc)
      | (refine Aw (vd:=.slice Jd E.disk.length j1_) (vm:=.slice Jm E.mem.length j2_) (vl:=.slice Jl E.log.length j3_) E ?_;intro w5 hb5 _ hq5;have HS5:=As (HS4.out.up hb5);have HB5:=As (bj HB4.out hb5);have HQ5:=As hq5;clear HB4 HS4 hb5 hq5)
      | (go_at_call 21;refine (F5 HF.out HB5.out HR.out).mono ?_;rintro x w6 ⟨u,rfl,ho,hb6⟩;obtain ⟨X1,x1_,rfl, -,hc⟩:=Kd.CZ ho;have HC6:=As hc;have HX6:=As (RD.toK ho);have HT6:=As hb6;have HN6:=As hb6.size;clear ho hb6 hc)
      | (go_at_call 8;refine (Kq (c:=x1_) (Below.refl w6.heap.size w6) HC6.out).mono ?_;rw [HE.out];rintro x w7 ⟨vd,vm,vl,rfl,ho,hb7⟩;obtain ⟨Gd,g1_,Gm,g2_,Gl,g3_,rfl,rfl,rfl, -,hc⟩:=ho.reads;have HG7:=As ho.toK;have HC7:=As hc;have HXC7:=As (Bh HC6.out hb7);have HX7:=As (Kd.BD HX6.out hb7);have HT7:=As (bj HT6.out hb7);have HN7:=As hb7.size;clear HC6 HX6 HT6 ho hb7 hc)
      | (refine Aw (vd:=.slice Gd E.disk.length g1_) (vm:=.slice Gm E.mem.length g2_) (vl:=.slice Gl E.log.length g3_) E ?_;intro w8 hb8 hz8 hq8;have HG8:=As (HG7.out.below hb8);have HC8:=As (HC7.out.up hb8);have HXC8:=As (Bh HXC7.out hb8);have HX8:=As (Kd.BD HX7.out hb8);have HT8:=As (bj HT7.out hb8);have HR8:=As hq8;clear HG7 HC7 HXC7 HX7 HT7 hb8 hz8 hq8;have g0:=(HR8.out).c0;have g1:=(HR8.out).c1;have g2:=(HR8.out).c2;have g3:=(HR8.out).c3;have g4:=(HR8.out).c4;have s0:=(HQ5.out.up HT8.out).c0;have s1:=(HQ5.out.up HT8.out).c1;have s2:=(HQ5.out.up HT8.out).c2;have s3:=(HQ5.out.up HT8.out).c3;have s4:=(HQ5.out.up HT8.out).c4)
      | (go_at_call 16;refine (GL (Below.refl w8.heap.size w8) HC8.out HT8.out HS5.out).mono ?_;rintro x w9 ⟨rfl,hb9⟩;have HG9:=As (HG8.out.below hb9);have HXC9:=As (Bh HXC8.out hb9);have HX9:=As (Kd.BD HX8.out hb9);have HT9:=As (bj HT8.out hb9);have HR9:=As (HR8.out.up hb9);clear HG8 HC8 HXC8 HX8 HT8 HR8 hb9;clear g0 g1 g2 g3 g4 s0 s1 s2 s3 s4)
      | (go_at_call 21;refine (F5 HF.out (bj HB5.out HT9.out) HR.out).mono ?_;rintro x w10 ⟨u,rfl,ho,hb10⟩;obtain ⟨Y1,y1_,rfl, -,hc⟩:=Kd.CZ ho;have HC10:=As hc;have HG10:=As (HG9.out.below hb10);have HXC10:=As (Bh HXC9.out hb10);have HX10:=As (Kd.BD HX9.out hb10);have HT10:=As (bj HT9.out hb10);have HR10:=As (HR9.out.up hb10);clear HG9 HXC9 HX9 HT9 HR9 ho hb10 hc)
      | (go_at_call 24;refine (O1 (c:=x1_) (d:=y1_) (Below.refl w10.heap.size w10) HXC10.out (Below.refl w10.heap.size w10) HC10.out).mono ?_;rintro x w11 ⟨rfl,hb11⟩;have HG11:=As (HG10.out.below hb11);have HX11:=As (Kd.BD HX10.out hb11);have HT11:=As (bj HT10.out hb11);have HR11:=As (HR10.out.up hb11);clear HC10 HG10 HXC10 HX10 HT10 HR10 hb11)
      | (go_at_call 25;refine (Me 1 (by decide) (by decide) HF.out HX11.out).mono ?_;rintro x w12 ⟨rfl,hw⟩;have HT12:=As (HT11.out.trans (hw.bel (N:=w5.heap.size) (fun m hm => hm.1) HT11.out.size));have HG12:=As (HG11.out.kept hw.kept (fun m hm hn => by have h1:=hm.1;have h2:=hn.2;omega));have hr12 : Ai w12 w7.heap.size E (.slice Gd E.disk.length g1_) (.slice Gm E.mem.length g2_) (.slice Gl E.log.length g3_):=(hw.kept.2 _ HR11.out.lt (fun hn => by have h1:=hn.2;have h2:=HN7.out;omega)).trans HR11.out;have HR12:=As hr12;clear HG11 HX11 HT11 HR11 hw hr12;have g0:=(HR12.out).c0;have g1:=(HR12.out).c1;have g2:=(HR12.out).c2;have g3:=(HR12.out).c3;have g4:=(HR12.out).c4;have s0:=(HQ5.out.up HT12.out).c0;have s1:=(HQ5.out.up HT12.out).c1;have s2:=(HQ5.out.up HT12.out).c2;have s3:=(HQ5.out.up HT12.out).c3;have s4:=(HQ5.out.up HT12.out).c4)
      | (go_at_call 16;refine (GL (Below.refl w12.heap.size w12) HG12.out.C HT12.out HS5.out).mono ?_;rintro x w13 ⟨rfl,hb13⟩;have HG13:=As (HG12.out.below hb13);have HT13:=As (bj HT12.out hb13);have HR13:=As (HR12.out.up hb13);clear HG12 HT12 HR12 hb13;clear g0 g1 g2 g3 g4 s0 s1 s2 s3 s4;have g0:=(HR13.out).c0;have g1:=(HR13.out).c1;have g2:=(HR13.out).c2;have g3:=(HR13.out).c3;have g4:=(HR13.out).c4)
      | (go_at_call 17;refine (Mf 1 (by decide) (by decide) HFE.out HG13.out).mono ?_;rintro x w14 ⟨rfl,hm,hw⟩;have hn6:=HN6.out;have HT14:=As (HT13.out.trans (hw.bel (N:=w5.heap.size) (fun m hm => by have h1:=hm.1;omega) HT13.out.size));have HC14:=As hm.C;have hr14 : Ai w14 w7.heap.size E (.slice Gd E.disk.length g1_) (.slice Gm E.mem.length g2_) (.slice Gl E.log.length g3_):=(hw.kept.2 _ HR13.out.lt (fun hn => by have h1:=hn.2;omega)).trans HR13.out;have HR14:=As hr14;clear HG13 HT13 HR13 hn6 hw hm hr14;clear g0 g1 g2 g3 g4;have g0:=(HR14.out).c0;have g1:=(HR14.out).c1;have g2:=(HR14.out).c2;have g3:=(HR14.out).c3;have g4:=(HR14.out).c4)
      | (go_at_call 18;refine (Ij 1 (by decide) (by decide) HFE.out (Below.refl w14.heap.size w14) HC14.out).mono ?_;rintro x w15 ⟨rfl,hb15⟩;have HU15:=As hb15;have HB15:=As (bj HB5.out (bj HT14.out hb15));clear hb15;clear g0 g1 g2 g3 g4)
      | (go_at_call 21;refine (F5 HF.out HB15.out HR.out).mono ?_;rintro x w16 ⟨u,rfl,ho,hb16⟩;obtain ⟨Z1,z1_,rfl, -,hc⟩:=Kd.CZ ho;have HC16:=As hc;have HU16:=As (bj HU15.out hb16);clear HU15 ho hb16 hc)
      | (go_at_call 8;refine (Kq (c:=z1_) (Below.refl w16.heap.size w16) HC16.out).mono ?_;rw [HE.out];rintro x w17 ⟨vd,vm,vl,rfl,ho,hb17⟩;obtain ⟨Hd,h1_,Hm,h2_,Hl,h3_,rfl,rfl,rfl, -,hc⟩:=ho.reads;have HC17:=As hc;have HU17:=As (bj HU16.out hb17);clear HU16 HC16 ho hb17 hc)
      | (refine Aw (vd:=.slice Hd E.disk.length h1_) (vm:=.slice Hm E.mem.length h2_) (vl:=.slice Hl E.log.length h3_) E ?_;intro w18 hb18 _ hq18;have HC18:=As (HC17.out.up hb18);have HU18:=As (bj HU17.out hb18);have HQ18:=As hq18;clear HC17 HU17 hb18 hq18;have h0:=(HQ18.out).c0;have h1:=(HQ18.out).c1;have h2:=(HQ18.out).c2;have h3:=(HQ18.out).c3;have h4:=(HQ18.out).c4;have s0:=(HQ5.out.up (bj HT14.out HU18.out)).c0;have s1:=(HQ5.out.up (bj HT14.out HU18.out)).c1;have s2:=(HQ5.out.up (bj HT14.out HU18.out)).c2;have s3:=(HQ5.out.up (bj HT14.out HU18.out)).c3;have s4:=(HQ5.out.up (bj HT14.out HU18.out)).c4)
      | (go_at_call 16;refine (GL (Below.refl w18.heap.size w18) HC18.out (bj HT14.out HU18.out) HS5.out).mono ?_;rintro x w19 ⟨rfl,hb19⟩;have HU19:=As (bj HU18.out hb19);clear HC18 HU18 HQ18 hb19;clear h0 h1 h2 h3 h4 s0 s1 s2 s3 s4;have g0:=(HR14.out.up HU19.out).c0;have g1:=(HR14.out.up HU19.out).c1;have g2:=(HR14.out.up HU19.out).c2;have g3:=(HR14.out.up HU19.out).c3;have g4:=(HR14.out.up HU19.out).c4)
      | (go_at_call 18;refine (Ij 1 (by decide) (by decide) HFE.out HU19.out HC14.out).mono ?_;rintro x w20 ⟨rfl,hb20⟩;have HB20:=As (bj HB5.out (bj HT14.out (bj HU19.out hb20)));clear hb20;clear g0 g1 g2 g3 g4))
    go_ret
    exact ⟨rfl,HB20.out⟩
open Go.RowKit Go.Proofs.YtpjmlpmhgfghbaaGreatW.PrintWords Go.Proofs.YtpjmlpmhgfghbaaGreatW.PrintLast Go.Proofs.YtpjmlpmhgfghbaaGreatW.PrintMore Go.ChangeShapes Go.WideShapes Go.Deep
section
variable {H : Type} {enc : TypeId × Value → H} {P : Program} {w : World} {spare : Nat → Bool} {held : Bool}
/-- Whatever is read at this type has cells of this kind. -/
def Opens (P : Program) (enc : TypeId × Value → H) (w : World) (spare : Nat → Bool) (held : Bool) {α : Type} (d : Kd α) (t : TypeId) : Prop:=
  ∀ fuel cs x,DataW.trod enc P w 0 spare held fuel t cs = some x → ∃ a,d.K w a cs
theorem OV {t : TypeId} {k : IntKind} (ht : P.underlying t = some (.int k)) : Opens P enc w spare held (Kd.int k) t:=by
  intro fuel cs x h
  obtain ⟨n,rfl, -⟩:=DataW.trod_int ht h
  exact ⟨n,rfl⟩
theorem VK {a : Addr} {n : Nat} {cs : List Value} (h : w.cells? 0 a n = some cs) (i : Nat) (u : Value) (hi : cs[i]? = some u) : w.cell? (a.add i) = some u:=by
  unfold World.cells? at h
  rw [if_pos (Nat.zero_le _)] at h
  have hl:=mapM_some_length h
  have hlt : i < n:=by have:=(List.getElem?_eq_some_iff.1 hi).1;simp at hl;omega
  rw [mapM_some_get h i i (by simp [hlt]),hi]
theorem MK {α : Type} {d : Kd α} {t e : TypeId} (ht : P.underlying t = some (.slice e)) (hsz : P.cellsOf e = d.sz) (hd : Opens P enc w (fun _ => true) held d e) : Opens P enc w (fun _ => true) held (Kd.slice e d) t:=by
  intro fuel cs x h
  rcases open_slice ht h with ⟨rfl, -⟩ | ⟨a,len,cap,m,n,D,Pl,rfl, -,hl,hc,hm, -,hel⟩
  · exact ⟨[],none,0,rfl,Nat.le_refl _,rfl,by simp,fun h0 => by simp at h0⟩
  · rw [if_pos rfl] at hm
    subst hm
    have key : ∀ j,j ≤ len → ∃ xs : List α,xs.length = j ∧ ∀ i p,xs[i]? = some p → ∃ c,c.length = d.sz ∧ d.K w p c ∧ ∀ k u,c[k]? = some u → w.cell? (a.add (i * d.sz + k)) = some u:=by
      intro j
      induction j with
      | zero => exact fun _ => ⟨[],rfl,fun i p hp => by simp at hp⟩
      | succ j ih =>
        intro hj
        obtain ⟨xs,h1,h2⟩:=ih (by omega)
        obtain ⟨cs',h3,h4⟩:=hel j (by omega)
        obtain ⟨p,hp⟩:=hd _ _ _ h4
        refine ⟨xs ++ [p],by simp [h1],fun i q hq => ?_⟩
        by_cases hi : i < j
        · exact h2 i q (by rwa [List.getElem?_append_left (by omega)] at hq)
        · have hlt:=(List.getElem?_eq_some_iff.1 hq).1
          have hij : i = j:=by simp [h1] at hlt;omega
          subst hij
          rw [List.getElem?_append_right (by omega),h1,Nat.sub_self] at hq
          cases hq
          refine ⟨cs',d.K_len hp,hp,fun k u hk => ?_⟩
          rw [hsz] at h3
          rw [← Go.Deep.add_add]
          exact VK h3 k u hk
    obtain ⟨xs,h1,h2⟩:=key len (Nat.le_refl _)
    exact ⟨xs,some a,m,by rw [h1],by rw [h1];exact hl,rfl,by rw [h1];have : maxLen = 9223372036854775807:=rfl;omega,fun _ => ⟨a,rfl,h2⟩⟩
theorem Od {t : TypeId} {fs : Array Field} {fuel : Nat} {cs : List Value} {x : DataW H × List MemPlace} (ht : P.underlying t = some (.struct fs)) (h : DataW.trod enc P w 0 spare held fuel t cs = some x) :
    cs.length = P.cellsOf t ∧ ∃ n, ∀ (i : Nat) (f : Field),fs[i]? = some f → ∃ y,DataW.trod enc P w 0 spare held n f.type ((cs.drop f.offset).take (P.cellsOf f.type)) = some y:=by
  obtain ⟨xs,n, -, -,hl,hx,hf⟩:=DataW.trod_struct ht h
  refine ⟨hl,n,fun i f hi => ?_⟩
  have hlt : i < xs.length:=by rw [hx];exact (Array.getElem?_eq_some_iff.1 hi).1
  exact ⟨_,(hf i f hi).trans (List.getElem?_eq_getElem hlt)⟩
end
section
variable {H : Type} {enc : TypeId × Value → H} {w : World} {held : Bool}
theorem NV {n : Nat} {u : Value} {y : DataW H × List MemPlace} {spare : Nat → Bool} (h : DataW.trod enc Tryz.prog w 0 spare held n 3 [u] = some y) : ∃ a : Int,u = .int .i64 a:=by
  obtain ⟨a,ha⟩:=OV Tryz.underlying3 _ _ _ h
  exact ⟨a,by injection ha⟩
theorem ints_at {n : Nat} {u : Value} {y : DataW H × List MemPlace} (h : DataW.trod enc Tryz.prog w 0 (fun _ => true) held n 33 [u] = some y) : ∃ A xs c,u = .slice A (List.length xs) c ∧ xs.length ≤ c ∧ (Kd.int .i64).C w A xs.length xs:=by
  obtain ⟨xs,A,c,he,h1,h2⟩:=MK (d:=Kd.int .i64) Tryz.underlying33 (by kernel_rfl) (OV Tryz.underlying3) _ _ _ h
  exact ⟨A,xs,c,by injection he,h1,h2⟩
end
end Go.Proofs.YtpjmlpmhgfghbaaGreat
/- laws.FnExactPlayRun: whatever the events, it returns true, and the events read as they did. -/
namespace Go.Proofs.YtpjmlpmhgfghbaaGreat
open Go.RowKit Go.Proofs.YtpjmlpmhgfghbaaGreatW.PrintWords Go.Proofs.YtpjmlpmhgfghbaaGreatW.PrintLast Go.Proofs.YtpjmlpmhgfghbaaGreatW.PrintMore Go.ChangeShapes Go.WideShapes Go.Deep
theorem WB (w : World) (x : Evt) {A : Option Addr} {c : Nat} (l2 : x.vals.length ≤ c) (g2 : (Kd.int .i64).C w A x.vals.length x.vals) : Ih.K w x [.int .i64 x.kind, .int .i64 x.tx, .int .i64 x.page, .int .i64 x.slot, .int .i64 x.n, .slice A x.vals.length c]:=⟨[.int .i64 x.kind], [.int .i64 x.tx, .int .i64 x.page, .int .i64 x.slot, .int .i64 x.n, .slice A x.vals.length c],rfl,rfl,⟨[.int .i64 x.tx], [.int .i64 x.page, .int .i64 x.slot, .int .i64 x.n, .slice A x.vals.length c],rfl,rfl,⟨[.int .i64 x.page], [.int .i64 x.slot, .int .i64 x.n, .slice A x.vals.length c],rfl,rfl,⟨[.int .i64 x.slot], [.int .i64 x.n, .slice A x.vals.length c],rfl,rfl,⟨[.int .i64 x.n], [.slice A x.vals.length c],rfl,rfl,⟨A,c,rfl,l2,g2⟩⟩⟩⟩⟩⟩
set_option maxRecDepth 100000 in
theorem QE {H : Type} {enc : TypeId × Value → H} {w : World} {held : Bool} : Opens Tryz.prog enc w (fun _ => true) held Ih 76:=by
  intro fuel cs x h
  obtain ⟨hl,n,hf⟩:=Od Tryz.underlying76 h
  have hl3 : cs.length = 6:=hl.trans (by kernel_rfl)
  match cs,hl3 with
  | [u0,u1,u2,u3,u4,u5],_ =>
    obtain ⟨y0,h0⟩:=hf 0 _ rfl
    obtain ⟨y1,h1⟩:=hf 1 _ rfl
    obtain ⟨y2,h2⟩:=hf 2 _ rfl
    obtain ⟨y3,h3⟩:=hf 3 _ rfl
    obtain ⟨y4,h4⟩:=hf 4 _ rfl
    obtain ⟨y5,h5⟩:=hf 5 _ rfl
    obtain ⟨a0,rfl⟩:=NV (u:=u0) h0
    obtain ⟨a1,rfl⟩:=NV (u:=u1) h1
    obtain ⟨a2,rfl⟩:=NV (u:=u2) h2
    obtain ⟨a3,rfl⟩:=NV (u:=u3) h3
    obtain ⟨a4,rfl⟩:=NV (u:=u4) h4
    obtain ⟨A,xs,c,rfl,h6,h7⟩:=ints_at (u:=u5) h5
    exact ⟨⟨a0,a1,a2,a3,a4,xs⟩,WB w ⟨a0,a1,a2,a3,a4,xs⟩ h6 h7⟩
end Go.Proofs.YtpjmlpmhgfghbaaGreat
namespace Go.Proofs.YtpjmlpmhgfghbaaGreat.fnExactPlayRun
open Go.ChangeShapes Go.WideShapes Go.ChangeAt Go.RowKit Go.Proofs.YtpjmlpmhgfghbaaGreat
theorem own : ownKnob Tryz.prog.godebug = none:=by kernel_rfl
theorem laidOut : laidOutB Tryz.prog = true:=by kernel_rfl
set_option maxRecDepth 100000 in
theorem lifted (os : Os) (started : os.Started) (H : Type) (enc : TypeId × Value → H) :
    ReturnsInHanded {} Tryz.checked os 6 .any (Rows.fnExactPlayRunSpec.pre6 enc Tryz.prog Tryz.f6 Rows.fnExactPlayRunRow.domain false) (Rows.fnExactPlayRunSpec.post enc Tryz.prog Tryz.f6 false true false false):=by
  refine returnsInHanded_of_change_sized (C:=Tryz.checked) own started (by kernel_rfl) Tryz.func6
    (ChangeSpec.witness6 (enc:=enc) (C:=Tryz.checked) false ⟨#[],#[.slice none 0 0], []⟩ 8 (by kernel_rfl) (by kernel_rfl) (by kernel_rfl) (by kernel_rfl)) ?_
  intro W base args ds gs before hval0 hW hcnd hsz0 _
  have hval : ∀ (j : Nat) t v,Tryz.f6.params[j]? = some t → args[j]? = some v → Value.okWide Tryz.prog W .any base t v:=hval0
  have hW':=hW
  obtain ⟨p,q,hA0,hV,rfl,hfz,hnd⟩:=hW
  have hA : DataW.TrodAll enc Tryz.prog W 0 (fun _ => true) true Tryz.f6.params.toList args.toList ds p:=hA0
  rw [Tryz.params6] at hA hval
  obtain ⟨v0,vs0,d0,ds0,p0,q0,hargs,rfl,rfl,h0,r0⟩:=trodAll_cons hA
  obtain ⟨rfl,rfl,rfl⟩:=trodAll_nil r0
  obtain rfl : args = #[v0]:=by cases args;simp_all
  obtain ⟨rfl,rfl⟩:=trodVars_none hV
  have k0:=h0
  have lt0 : ∀ x ∈ p0,x.block < W.heap.size:=by obtain ⟨m,hm⟩:=k0;exact DataW.trod_lt m _ _ _ hm
  obtain ⟨a,len,cap,rfl⟩:=okWide_slice Tryz.underlying46 (hval 0 46 v0 rfl rfl)
  obtain ⟨fuel,hf⟩:=h0
  obtain ⟨xs,A,c,he,hcl,hr⟩:=MK (d:=Ih) Tryz.underlying46 (by kernel_rfl) QE _ _ _ hf
  obtain ⟨rfl,rfl,rfl⟩ : a = A ∧ len = xs.length ∧ cap = c:=by simpa [Value.cells] using he
  clear hA0 hval0 hsz0 hval hA
  refine (JG (w0:=W) (Below.refl _ _) hr).mono fun e1 W' ⟨he1,bel⟩ => ?_
  subst he1
  exact ⟨_,rfl,_,_,_, [],_, [],hW',trodAll_mk1 (shut_bool Tryz.underlying4 _),(trodAll_cons_mk (Below.trod laidOut (by kernel_rfl) (of_decide_eq_true (by kernel_rfl)) k0 bel lt0) trodAll_mk0),rfl,bel.frame _,fun h => by cases h⟩
theorem k24b : (Rows.fnExactPlayRunRow.lifted == Tryz.pinned.checked.prog.liftsFinal) = true:=by
  rw [show Tryz.pinned.checked.prog.liftsFinal = false from R4]
  rfl
theorem k24c : (Tryz.pinned.checked.prog.make == some Rows.fnExactPlayRunRow.make) = true:=by
  rw [show Tryz.pinned.checked.prog.make = some Make.cut from Vp]
  rfl
set_option maxRecDepth 100000 in
set_option maxHeartbeats 8000000 in
theorem closed : joinedFacts Tryz.pinned.checked.prog 6 Tryz.f6 Rows.fnExactPlayRunSpec Rows.fnExactPlayRunRow = true:=by
  simp only [joinedFacts,Bool.and_eq_true]
  exact ⟨⟨⟨⟨⟨⟨⟨⟨⟨⟨⟨⟨⟨⟨⟨⟨⟨⟨⟨⟨⟨⟨⟨⟨⟨⟨⟨⟨⟨⟨⟨(by as_aux_lemma => kernel_rfl),(by as_aux_lemma => kernel_rfl)⟩,(by as_aux_lemma => kernel_rfl)⟩,(by as_aux_lemma => kernel_rfl)⟩,(by as_aux_lemma => kernel_rfl)⟩,(by as_aux_lemma => kernel_rfl)⟩,(by as_aux_lemma => kernel_rfl)⟩,(by as_aux_lemma => kernel_rfl)⟩,(by as_aux_lemma => kernel_rfl)⟩,(by as_aux_lemma => kernel_rfl)⟩,(by as_aux_lemma => kernel_rfl)⟩,(by as_aux_lemma => kernel_rfl)⟩,(by as_aux_lemma => kernel_rfl)⟩,(by as_aux_lemma => kernel_rfl)⟩,(by as_aux_lemma => kernel_rfl)⟩,(by as_aux_lemma => kernel_rfl)⟩,(by as_aux_lemma => kernel_rfl)⟩,(by as_aux_lemma => kernel_rfl)⟩,(by as_aux_lemma => kernel_rfl)⟩,(by as_aux_lemma => kernel_rfl)⟩,(by as_aux_lemma => kernel_rfl)⟩,(by as_aux_lemma => kernel_rfl)⟩,(by as_aux_lemma => kernel_rfl)⟩,(by as_aux_lemma => kernel_rfl)⟩,(by as_aux_lemma => kernel_rfl)⟩,Uz⟩,k24b⟩,k24c⟩,(by as_aux_lemma => kernel_rfl)⟩,(by as_aux_lemma => kernel_rfl)⟩,(by as_aux_lemma => kernel_rfl)⟩,(by as_aux_lemma => kernel_rfl)⟩
theorem over : Rows.fnExactPlayRunRow.holds Tryz.pinned (OpenSpec.ofChange Rows.fnExactPlayRunSpec):=
  OpenClaim.holds_of_wide 6 Tryz.f6 rfl rfl rfl rfl rfl rfl rfl ⟨rfl,rfl,rfl,rfl,rfl⟩ rfl rfl rfl rfl rfl (by kernel_rfl) Tryz.func6 closed
    (of_decide_eq_true (by kernel_rfl)) (by unfold Func.isWrapper;first | (rw [if_pos (by decide +kernel)];kernel_rfl) | (rw [if_neg (by decide +kernel)];exact ⟨rfl,rfl⟩))
    (fun os started H enc _ => lifted os started H enc)
theorem proved : Rows.FnExactPlayRunSaid:=over
end Go.Proofs.YtpjmlpmhgfghbaaGreat.fnExactPlayRun
namespace Go.Proofs.YtpjmlpmhgfghbaaGreat
/-- The row, under a short name, for the claim. -/
theorem fnExactPlayRun_holds : Rows.FnExactPlayRunSaid:=fnExactPlayRun.proved
end Go.Proofs.YtpjmlpmhgfghbaaGreat
