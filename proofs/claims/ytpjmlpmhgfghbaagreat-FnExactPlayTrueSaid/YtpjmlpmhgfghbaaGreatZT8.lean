/- Proved here: for all events that are handed in, laws.FnExactPlayTrue returns true (the program's PlayTrue returns what the reference's returns, leaves its argument as it was, and hands back memory of its own). Conditions: none beyond those that the given statement itself bears. -/
import Derived.Test.YtpjmlpmhgfghbaaGreatZT7
import Derived.Deep.Slices
import Derived.OpenShut
import Derived.Deep.Strs
import Derived.WalkKit
import Derived.ProofKit
import Derived.ShutString
import Derived.ChangeOld
import Derived.Below
import Derived.SizedLaws
set_option linter.unusedVariables false
set_option linter.unusedSimpArgs false
/- The reference's l22Do. -/
namespace Go.Proofs.YtpjmlpmhgfghbaaGreat
open Go.RowKit Go.Proofs.YtpjmlpmhgfghbaaGreatW.PrintWords Go.Proofs.YtpjmlpmhgfghbaaGreatW.PrintLast Go.Proofs.YtpjmlpmhgfghbaaGreatW.PrintMore
theorem OC {P : Program} {ops : Array Oper} {l : List Oper} {Q : Exit → Act → World → Prop} {a : Act} (W : World) (h : ∀ w1,W = w1 → wpList P ops Q l a w1) : wpList P ops Q l a W:=h W rfl
theorem Qx {e : Eng} (hlog : AP e.log = true) (tx : Int) (X : Eng) : (if Ju e tx = true then X else e) = (Cz e tx X).1:=by
  unfold Cz
  by_cases h : e.down = false ∧ Aj e.log tx e.log.length ≠ 0
  · rw [if_pos (F5.2 ⟨h.1,F6 hlog h.2,h.2⟩),if_pos h]
  · rw [if_neg (fun h2 => h ⟨(F5.1 h2).1,(F5.1 h2).2.2⟩),if_neg h]
set_option maxRecDepth 100000 in
set_option maxHeartbeats 64000000 in
theorem R7 {w0 w : World} {e : Eng} {C : Nat → Page} {B : Nat} {vd vm vl : Value} {A : Option Addr} {c : Nat} (v : Evt) (hi : Inv e C B) (hB : B + 3 ≤ 150) (hb : Below w0.heap.size w0 w) (hr : AU w w0.heap.size vd vm vl e) (hv : Kd.C (Kd.int .i64) w0 A v.vals.length v.vals) : Calls Tryz.prog 33 #[e.ag vd vm vl,v.val A c] w (U0 w0 w (BM e v)):=by
  obtain ⟨Ad,cd,Am,cm,Al,cl,rfl,rfl,rfl,hcl,hrd⟩:=hr.reads
  have HI:=As hi
  have HBB:=As hB
  have HB0:=As hb
  have HO:=As hr
  have HVV:=As hv
  have HONE : True:=trivial
  have HTWO : True:=trivial
  clear hi hB hb hr hv hrd hcl
  rcases BO v.kind 1 with ⟨e1,b1,c1⟩ | ⟨e1,b1,c1⟩
  have hPE : BM e v = (L6 e v.tx v.page v.slot v.n).1:=by unfold BM;rw [if_pos e1.out]
  obtain ⟨E,bb,hE⟩ : ∃ E bb,L6 e v.tx v.page v.slot v.n = (E,bb):=⟨_,_,rfl⟩
  have HPE : Ac (BM e v = E):=⟨by rw [hPE,hE]⟩
  have HIN : Ac (∀ wx,Below w.heap.size w wx → Calls Tryz.prog 67 #[e.val Ad Am Al cd cm cl, .int .i64 v.tx, .int .i64 v.page, .int .i64 v.slot, .int .i64 v.n] wx (Hz w0 wx E bb)):=⟨fun wx hbx => by
    have ho':=HO.out.below hbx
    have hb':=bj HB0.out hbx
    have h:=(PG v.tx v.page v.slot v.n HI.out HBB.out hb' ho').mono fun _ _ h => h.t ho'
    rw [hE] at h
    exact h⟩
  clear hPE hE
  rotate_left
  rcases BO v.kind 2 with ⟨e2,b2,c2⟩ | ⟨e2,b2,c2⟩
  have hPE : BM e v = (Le e v.tx v.page v.n).1:=by unfold BM;rw [if_neg e1.out,if_pos e2.out]
  obtain ⟨E,bb,hE⟩ : ∃ E bb,Le e v.tx v.page v.n = (E,bb):=⟨_,_,rfl⟩
  have HPE : Ac (BM e v = E):=⟨by rw [hPE,hE]⟩
  have HIN : Ac (∀ wx,Below w.heap.size w wx → Calls Tryz.prog 68 #[e.val Ad Am Al cd cm cl, .int .i64 v.tx, .int .i64 v.page, .int .i64 v.n] wx (Hz w0 wx E bb)):=⟨fun wx hbx => by
    have ho':=HO.out.below hbx
    have hb':=bj HB0.out hbx
    have h:=(PI v.tx v.page v.n HI.out HBB.out hb' ho').mono fun _ _ h => h.t ho'
    rw [hE] at h
    exact h⟩
  clear hPE hE
  rotate_left
  rcases BO v.kind 3 with ⟨e3,b3,c3⟩ | ⟨e3,b3,c3⟩
  have hPE : BM e v = (GL e v.tx v.page v.vals).1:=by unfold BM;rw [if_neg e1.out,if_neg e2.out,if_pos e3.out]
  obtain ⟨E,bb,hE⟩ : ∃ E bb,GL e v.tx v.page v.vals = (E,bb):=⟨_,_,rfl⟩
  have HPE : Ac (BM e v = E):=⟨by rw [hPE,hE]⟩
  have HIN : Ac (∀ wx,Below w.heap.size w wx → Calls Tryz.prog 69 #[e.val Ad Am Al cd cm cl, .int .i64 v.tx, .int .i64 v.page, .slice A v.vals.length c] wx (Hz w0 wx E bb)):=⟨fun wx hbx => by
    have ho':=HO.out.below hbx
    have hb':=bj HB0.out hbx
    have h:=Oj (cv:=c) v.tx v.page v.vals HI.out HBB.out hb' ho' HVV.out
    rw [hE] at h
    exact h⟩
  clear hPE hE
  rotate_left
  rcases BO v.kind 4 with ⟨e4,b4,c4⟩ | ⟨e4,b4,c4⟩
  have hPE : BM e v = (Cz e v.tx (DK e v.tx)).1:=by unfold BM;rw [if_neg e1.out,if_neg e2.out,if_neg e3.out,if_pos e4.out];exact Qx HI.out.core.log _ _
  obtain ⟨E,bb,hE⟩ : ∃ E bb,Cz e v.tx (DK e v.tx) = (E,bb):=⟨_,_,rfl⟩
  have HPE : Ac (BM e v = E):=⟨by rw [hPE,hE]⟩
  have HIN : Ac (∀ wx,Below w.heap.size w wx → Calls Tryz.prog 70 #[e.val Ad Am Al cd cm cl, .int .i64 v.tx] wx (Hz w0 wx E bb)):=⟨fun wx hbx => by
    have ho':=HO.out.below hbx
    have hb':=bj HB0.out hbx
    have h:=Oi v.tx HI.out hb' ho'
    rw [hE] at h
    exact h⟩
  clear hPE hE
  rotate_left
  rcases BO v.kind 5 with ⟨e5,b5,c5⟩ | ⟨e5,b5,c5⟩
  have hPE : BM e v = (Cz e v.tx (DT e v.tx)).1:=by unfold BM;rw [if_neg e1.out,if_neg e2.out,if_neg e3.out,if_neg e4.out,if_pos e5.out];exact Qx HI.out.core.log _ _
  obtain ⟨E,bb,hE⟩ : ∃ E bb,Cz e v.tx (DT e v.tx) = (E,bb):=⟨_,_,rfl⟩
  have HPE : Ac (BM e v = E):=⟨by rw [hPE,hE]⟩
  have HIN : Ac (∀ wx,Below w.heap.size w wx → Calls Tryz.prog 71 #[e.val Ad Am Al cd cm cl, .int .i64 v.tx] wx (Hz w0 wx E bb)):=⟨fun wx hbx => by
    have ho':=HO.out.below hbx
    have hb':=bj HB0.out hbx
    have h:=Oh v.tx HI.out hb' ho'
    rw [hE] at h
    exact h⟩
  clear hPE hE
  rotate_left
  rcases BO v.kind 6 with ⟨e6,b6,c6⟩ | ⟨e6,b6,c6⟩
  rcases Bool.eq_false_or_eq_true e.down with hd | hd
  have HPE : Ac (BM e v = e):=⟨by unfold BM;rw [if_neg e1.out,if_neg e2.out,if_neg e3.out,if_neg e4.out,if_neg e5.out,if_pos e6.out];rw [if_neg (by rw [hd];simp)]⟩
  have HDN:=As hd
  clear hd
  rotate_left
  have HDN:=As hd
  rcases (Bool.eq_false_or_eq_true (inB v.page 0 4)).symm with hp | hp
  have HPE : Ac (BM e v = e):=⟨by unfold BM;rw [if_neg e1.out,if_neg e2.out,if_neg e3.out,if_neg e4.out,if_neg e5.out,if_pos e6.out];rw [if_neg (by rw [hp];simp)]⟩
  have HPG:=As hp
  clear hd hp
  rotate_left
  have HPG:=As hp
  have hpg:=Dj.1 hp
  obtain ⟨p,hpp⟩ : ∃ p : Nat,v.page = (p : Int):=⟨v.page.toNat,by omega⟩
  obtain ⟨E,hE⟩ : ∃ E,CQ e p = E:=⟨_,rfl⟩
  have HPE : Ac (BM e v = E):=⟨by unfold BM;rw [if_neg e1.out,if_neg e2.out,if_neg e3.out,if_neg e4.out,if_neg e5.out,if_pos e6.out];rw [if_pos ⟨hd,hp⟩,hpp,Int.toNat_natCast,hE]⟩
  have HIN : Ac (∀ wx,Below w.heap.size w wx → Calls Tryz.prog 72 #[.agg #[.slice Ad e.disk.length cd, .slice Am e.mem.length cm, .slice Al e.log.length cl, .int .i64 e.safe, .bool false], .int .i64 v.page] wx (U0 w0 wx E)):=⟨fun wx hbx => by
    have ho':=HO.out.below hbx
    have h:=JD (p:=p) (by omega) (Aw (CF.2 ⟨HI.out.core.dlen,HI.out.core.dok⟩)) (Aw HI.out.Fz) (bj HB0.out hbx) ho'
    rw [hE, ← hpp] at h
    rw [Eng.ag,hd] at h
    exact h.mono fun x w' h => ⟨_,_,_,h.1,h.2.1,h.2.2.1,Bf.QE ho' h.2.2.2⟩⟩
  clear hd hp hpg hpp hE
  rotate_left
  rcases BO v.kind 7 with ⟨e7,b7,c7⟩ | ⟨e7,b7,c7⟩
  rcases Bool.eq_false_or_eq_true e.down with hd | hd
  have HPE : Ac (BM e v = e):=⟨by unfold BM;rw [if_neg e1.out,if_neg e2.out,if_neg e3.out,if_neg e4.out,if_neg e5.out,if_neg e6.out,if_pos e7.out];rw [if_neg (by rw [hd];simp)]⟩
  have HDN:=As hd
  clear hd
  rotate_left
  have HDN:=As hd
  have HPE : Ac (BM e v = G9 e):=⟨by unfold BM;rw [if_neg e1.out,if_neg e2.out,if_neg e3.out,if_neg e4.out,if_neg e5.out,if_neg e6.out,if_pos e7.out];rw [if_pos hd]⟩
  obtain ⟨E,hE⟩ : ∃ E,G9 e = E:=⟨_,rfl⟩
  have HEE : Ac ({ e with safe:=(e.log.length : Int) } = E ∧ E.safe = (e.log.length : Int) ∧ E.down = e.down):=⟨by rw [← hE];exact ⟨rfl,rfl,rfl⟩⟩
  rw [hE] at HPE
  clear hd hE
  rotate_left
  rcases BO v.kind 8 with ⟨e8,b8,c8⟩ | ⟨e8,b8,c8⟩
  rcases lts v.n 0 with ⟨e10,b10,c10⟩ | ⟨e10,b10,c10⟩
  have HPE : Ac (BM e v = e):=⟨by unfold BM;rw [if_neg e1.out,if_neg e2.out,if_neg e3.out,if_neg e4.out,if_neg e5.out,if_neg e6.out,if_neg e7.out,if_pos e8.out];rw [if_neg (by have:=e10.out;omega)]⟩
  rotate_left
  obtain ⟨E,hE⟩ : ∃ E,JF e v.n = E:=⟨_,rfl⟩
  have HPE : Ac (BM e v = E):=⟨by unfold BM;rw [if_neg e1.out,if_neg e2.out,if_neg e3.out,if_neg e4.out,if_neg e5.out,if_neg e6.out,if_neg e7.out,if_pos e8.out];rw [if_pos (by have:=e10.out;omega),hE]⟩
  have HIN : Ac (∀ wx,Below w.heap.size w wx → Calls Tryz.prog 73 #[e.val Ad Am Al cd cm cl, .int .i64 v.n] wx (U0 w0 wx E)):=⟨fun wx hbx => by
    have h:=PE v.n (Aw (CF.2 ⟨HI.out.core.dlen,HI.out.core.dok⟩)) HI.out.core.s0 HI.out.core.s1 (Be HI.out.core.log) (bj HB0.out hbx) (HO.out.below hbx)
    rw [hE] at h
    exact h⟩
  clear hE
  rotate_left
  rcases BO v.kind 9 with ⟨e9,b9,c9⟩ | ⟨e9,b9,c9⟩
  rcases lts v.n 0 with ⟨e10,b10,c10⟩ | ⟨e10,b10,c10⟩
  rcases Bool.eq_false_or_eq_true e.down with hd | hd
  have HPE : Ac (BM e v = e):=⟨by unfold BM;rw [if_neg e1.out,if_neg e2.out,if_neg e3.out,if_neg e4.out,if_neg e5.out,if_neg e6.out,if_neg e7.out,if_neg e8.out,if_pos e9.out];rw [if_neg (fun h => by have h1:=h.1;have h2:=h.2;have h3:=e10.out;omega)]⟩
  have HDN:=As hd
  clear hd
  rotate_left
  have HPE : Ac (BM e v = e):=⟨by unfold BM;rw [if_neg e1.out,if_neg e2.out,if_neg e3.out,if_neg e4.out,if_neg e5.out,if_neg e6.out,if_neg e7.out,if_neg e8.out,if_pos e9.out];rw [if_neg (fun h => by have h1:=h.1;have h2:=h.2;have h3:=e10.out;omega)]⟩
  have HDN:=As hd
  clear hd
  rotate_left
  rcases (Bool.eq_false_or_eq_true e.down).symm with hd | hd
  have HPE : Ac (BM e v = e):=⟨by unfold BM;rw [if_neg e1.out,if_neg e2.out,if_neg e3.out,if_neg e4.out,if_neg e5.out,if_neg e6.out,if_neg e7.out,if_neg e8.out,if_pos e9.out];rw [if_neg (fun h => by have h1:=h.1;rw [hd] at h1;cases h1)]⟩
  have HDN:=As hd
  clear hd
  rotate_left
  have HDN:=As hd
  obtain ⟨n,hn⟩ : ∃ n : Nat,v.n = (n : Int):=⟨v.n.toNat,by have:=e10.out;omega⟩
  obtain ⟨E,hE⟩ : ∃ E,upE (CW n (ES e)) = E:=⟨_,rfl⟩
  have HPE : Ac (BM e v = E):=⟨by unfold BM;rw [if_neg e1.out,if_neg e2.out,if_neg e3.out,if_neg e4.out,if_neg e5.out,if_neg e6.out,if_neg e7.out,if_neg e8.out,if_pos e9.out];rw [if_pos ⟨hd,by omega⟩,hn,Int.toNat_natCast,Qr,hE]⟩
  obtain ⟨r,hr⟩ : ∃ r,decide (AO (CW n (ES e)) = 0) = r:=⟨_,rfl⟩
  have HIN : Ac (∀ wx,Below w.heap.size w wx → Calls Tryz.prog 43 #[.agg #[.slice Ad e.disk.length cd, .slice Am e.mem.length cm, .slice Al e.log.length cl, .int .i64 e.safe, .bool true], .int .i64 v.n] wx (Hz w0 wx E r)):=⟨fun wx hbx => by
    have h:=RZ n (Aw (CF.2 ⟨HI.out.core.dlen,HI.out.core.dok⟩)) HI.out.core.log (Fe.1 HI.out.ok).rise (bj HB0.out hbx) (HO.out.below hbx)
    rw [← hn,Eng.ag,hd] at h
    exact h.mono fun x w' h => by
      obtain ⟨a1,a2,a3,h1,h2,h3,h4⟩:=h
      rw [hE,hr] at h1
      rw [hE] at h2
      exact ⟨a1,a2,a3,h1,h2,h3,h4⟩⟩
  clear hd hn hE hr
  rotate_left
  have HPE : Ac (BM e v = e):=⟨by unfold BM;rw [if_neg e1.out,if_neg e2.out,if_neg e3.out,if_neg e4.out,if_neg e5.out,if_neg e6.out,if_neg e7.out,if_neg e8.out,if_neg e9.out]⟩
  all_goals
    go_enter Tryz.func33,Tryz.ntmps33
    go_wp2_with (first
      | (with_reducible refine Ay (vd:=.slice Ad e.disk.length cd) (vm:=.slice Am e.mem.length cm) (vl:=.slice Al e.log.length cl) e ?_;clear HONE;intro w1 hb1 hz1 hq1;clear hz1;have HB:=As hb1;have HQ:=As hq1;have HL1:=As hq1.lt;clear hb1 hq1;have x0:=HQ.out.c0;have x1:=HQ.out.c1;have x2:=HQ.out.c2;have x3:=HQ.out.c3;have x4:=HQ.out.c4)
      | (with_reducible refine FE (A:=A) (c:=c) v ?_;intro w2 hb1 hz1 hq1;clear hz1;have HN1:=As HB.out.size;replace HB:=As (bj HB.out hb1);replace HQ:=As (HQ.out.up hb1);have HV:=As hq1;have HL2:=As hq1.lt;replace x0:=bc hb1 x0;replace x1:=bc hb1 x1;replace x2:=bc hb1 x2;replace x3:=bc hb1 x3;replace x4:=bc hb1 x4;clear hb1 hq1)
      | (refine Ay (vd:=.slice none 0 0) (vm:=.slice none 0 0) (vl:=.slice none 0 0) zE ?_;clear HTWO;intro w3 hb1 hz1 hq1;have HN2:=As HB.out.size;replace HB:=As (bj HB.out hb1);replace HQ:=As (HQ.out.up hb1);replace HV:=As (HV.out.up hb1);have HP:=As hq1;have HZ3:=As hz1;replace x0:=bc hb1 x0;replace x1:=bc hb1 x1;replace x2:=bc hb1 x2;replace x3:=bc hb1 x3;replace x4:=bc hb1 x4;clear hb1 hz1 hq1)
      | (with_reducible refine Ay (vd:=.slice Ad e.disk.length cd) (vm:=.slice Am e.mem.length cm) (vl:=.slice Al e.log.length cl) e ?_;intro w4 hb1 hz1 hq1;clear hz1;have HN3:=As HB.out.size;replace HB:=As (bj HB.out hb1);replace HQ:=As (HQ.out.up hb1);replace HV:=As (HV.out.up hb1);replace HP:=As (HP.out.up hb1);have HXB:=As hq1;have hne1 : ¬ w3.heap.size = w2.heap.size:=(by have:=HZ3.out;omega);have hne2 : ¬ w2.heap.size = w3.heap.size:=(by have:=HZ3.out;omega);replace x0:=bc hb1 x0;replace x1:=bc hb1 x1;replace x2:=bc hb1 x2;replace x3:=bc hb1 x3;replace x4:=bc hb1 x4;have v0:=HV.out.c0;have v1:=HV.out.c1;have v2:=HV.out.c2;have v3:=HV.out.c3;have v4:=HV.out.c4;have v5:=HV.out.c5;have n0:=HXB.out.c0;have n1:=HXB.out.c1;have n2:=HXB.out.c2;have n3:=HXB.out.c3;have n4:=HXB.out.c4;have m0:=HXB.out.frz 0;have m1:=HXB.out.frz 1;have m2:=HXB.out.frz 2;have m3:=HXB.out.frz 3;have m4:=HXB.out.frz 4;have y0:=HP.out.c0;have y1:=HP.out.c1;have y2:=HP.out.c2;have y3:=HP.out.c3;have y4:=HP.out.c4;have f0:=HP.out.frz 0;have f1:=HP.out.frz 1;have f2:=HP.out.frz 2;have f3:=HP.out.frz 3;have f4:=HP.out.frz 4;(try rw [HDN.out] at x4);clear hb1 hq1)
      | ((first | go_at_call 67 | go_at_call 68 | go_at_call 69 | go_at_call 70 | go_at_call 71 | go_at_call 72 | go_at_call 73 | go_at_call 43);refine (HIN.out w4 HB.out).mono ?_;rintro x w5 ⟨ud,um,ul,rfl,ho,hb5,hk5⟩;obtain ⟨Bd,dd,Bm,dm,Bl,dl,rfl,rfl,rfl, -, -⟩:=ho.reads;have HO5:=As ho;have HB5:=As hb5;have HK5:=As ((Bf.of_below HB.out).D6 hk5);have hx:=HXB.out.R8 hk5;have hp:=HP.out.R8 hk5;have HX5:=As hx;have HP5:=As hp;clear x0 x1 x2 x3 x4 v0 v1 v2 v3 v4 v5 n0 n1 n2 n3 n4 m0 m1 m2 m3 m4 y0 y1 y2 y3 y4 f0 f1 f2 f3 f4;have n0:=hx.c0;have n1:=hx.c1;have n2:=hx.c2;have n3:=hx.c3;have n4:=hx.c4;have m0:=hx.frz 0;have m1:=hx.frz 1;have m2:=hx.frz 2;have m3:=hx.frz 3;have m4:=hx.frz 4;have y0:=hp.c0;have y1:=hp.c1;have y2:=hp.c2;have y3:=hp.c3;have y4:=hp.c4;have f0:=hp.frz 0;have f1:=hp.frz 1;have f2:=hp.frz 2;have f3:=hp.frz 3;have f4:=hp.frz 4;clear ho hb5 hk5 hx hp)
      | (refine OC (Go.Proofs.YtpjmlpmhgfghbaaGreat.Az w5 w3.heap.size E (.slice Bd E.disk.length dd) (.slice Bm E.mem.length dm) (.slice Bl E.log.length dl)) ?_;intro w6 hw6;have hx : Ai w6 w3.heap.size E (.slice Bd E.disk.length dd) (.slice Bm E.mem.length dm) (.slice Bl E.log.length dl):=(by rw [← hw6];exact HX5.out.Az E _ _ _);have hp : Ai w6 w2.heap.size zE (.slice none 0 0) (.slice none 0 0) (.slice none 0 0):=(by rw [← hw6];exact ((((HP5.out.far hne1 0 _).far hne1 1 _).far hne1 2 _).far hne1 3 _).far hne1 4 _);have HO6 : Ac (AU w6 w0.heap.size (.slice Bd E.disk.length dd) (.slice Bm E.mem.length dm) (.slice Bl E.log.length dl) E):=⟨by rw [← hw6];exact HO5.out.Az (f:=E) HX5.out⟩;have HB6 : Ac (Below w0.heap.size w0 w6):=⟨by rw [← hw6];exact Ao HB5.out (Nat.le_trans HB0.out.size HN3.out) E _ _ _⟩;have HK6 : Ac (Bf w w6):=⟨by rw [← hw6];exact HK5.out.Az HN3.out E _ _ _⟩;have HP6:=As hp;clear n0 n1 n2 n3 n4 m0 m1 m2 m3 m4 y0 y1 y2 y3 y4 f0 f1 f2 f3 f4;have n0:=hx.c0;have n1:=hx.c1;have n2:=hx.c2;have n3:=hx.c3;have n4:=hx.c4;have y0:=hp.c0;have y1:=hp.c1;have y2:=hp.c2;have y3:=hp.c3;have y4:=hp.c4;have f0:=hp.frz 0;have f1:=hp.frz 1;have f2:=hp.frz 2;have f3:=hp.frz 3;have f4:=hp.frz 4;clear hw6 hx hp)
      | (go_at_call 55;refine (BL _ _ _ _).mono ?_;rw [HPG.out];rintro x w' ⟨rfl,rfl⟩)
      | (have hee:=HEE;refine OC (w4.setCell ⟨w3.heap.size,3,none⟩ (.int .i64 (e.log.length : Int))) ?_;clear HEE;intro w6 hw6;have hx : Ai w6 w3.heap.size E (.slice Ad e.disk.length cd) (.slice Am e.mem.length cm) (.slice Al e.log.length cl):=(by rw [← hw6, ← hee.out.1];exact HXB.out.Cu _);have hp : Ai w6 w2.heap.size zE (.slice none 0 0) (.slice none 0 0) (.slice none 0 0):=(by rw [← hw6];exact HP.out.far hne1 3 _);have HO6 : Ac (AU w6 w0.heap.size (.slice Ad e.disk.length cd) (.slice Am e.mem.length cm) (.slice Al e.log.length cl) E):=⟨by rw [← hw6, ← hee.out.1];have h:=(HO.out.below HB.out).Gc HXB.out 3 (.int .i64 (e.log.length : Int));exact ⟨h.ex,h.l⟩⟩;have HB6 : Ac (Below w0.heap.size w0 w6):=⟨by rw [← hw6];exact (bj HB0.out HB.out).setCell (p:=⟨w3.heap.size,3,none⟩) (Nat.le_trans HB0.out.size HN3.out) _⟩;have HK6 : Ac (Bf w w6):=⟨by rw [← hw6];exact (Bf.of_below HB.out).setCell (p:=⟨w3.heap.size,3,none⟩) HN3.out _⟩;have HP6:=As hp;clear x0 x1 x2 x3 x4 v0 v1 v2 v3 v4 v5 n0 n1 n2 n3 n4 m0 m1 m2 m3 m4 y0 y1 y2 y3 y4 f0 f1 f2 f3 f4;have n0:=hx.c0;have n1:=hx.c1;have n2:=hx.c2;have n3:=hx.c3;have n4:=hx.c4;have y0:=hp.c0;have y1:=hp.c1;have y2:=hp.c2;have y3:=hp.c3;have y4:=hp.c4;have f0:=hp.frz 0;have f1:=hp.frz 1;have f2:=hp.frz 2;have f3:=hp.frz 3;have f4:=hp.frz 4;clear hw6 hx hp))
    first
      | (have hy:=HP6.out.Az E (.slice Bd E.disk.length dd) (.slice Bm E.mem.length dm) (.slice Bl E.log.length dl)
         have h1:=AU.Az (f:=E) (xd:=.slice Bd E.disk.length dd) (xm:=.slice Bm E.mem.length dm) (xl:=.slice Bl E.log.length dl) HO6.out HP6.out
         have h2:=Ao (g:=w2.heap.size) HB6.out (Nat.le_trans HB0.out.size HN2.out) E (.slice Bd E.disk.length dd) (.slice Bm E.mem.length dm) (.slice Bl E.log.length dl)
         have h3:=Bf.Az (g:=w2.heap.size) HK6.out HN2.out E (.slice Bd E.disk.length dd) (.slice Bm E.mem.length dm) (.slice Bl E.log.length dl)
         have z0:=hy.c0
         have z1:=hy.c1
         have z2:=hy.c2
         have z3:=hy.c3
         have z4:=hy.c4
         exact bodyPost_ret (v:=E.ag (.slice Bd E.disk.length dd) (.slice Bm E.mem.length dm) (.slice Bl E.log.length dl)) (by simp [results,Tryz.results33,go_sem,z0,z1,z2,z3,z4]) rfl (by rw [HPE.out];exact ⟨_,_,_,rfl,h1,h2,h3⟩))
      | (have hy:=HP6.out.Az E (.slice Ad e.disk.length cd) (.slice Am e.mem.length cm) (.slice Al e.log.length cl)
         have h1:=AU.Az (f:=E) (xd:=.slice Ad e.disk.length cd) (xm:=.slice Am e.mem.length cm) (xl:=.slice Al e.log.length cl) HO6.out HP6.out
         have h2:=Ao (g:=w2.heap.size) HB6.out (Nat.le_trans HB0.out.size HN2.out) E (.slice Ad e.disk.length cd) (.slice Am e.mem.length cm) (.slice Al e.log.length cl)
         have h3:=Bf.Az (g:=w2.heap.size) HK6.out HN2.out E (.slice Ad e.disk.length cd) (.slice Am e.mem.length cm) (.slice Al e.log.length cl)
         have z0:=hy.c0
         have z1:=hy.c1
         have z2:=hy.c2
         have z3:=hy.c3
         have z4:=hy.c4
         exact bodyPost_ret (v:=E.ag (.slice Ad e.disk.length cd) (.slice Am e.mem.length cm) (.slice Al e.log.length cl)) (by simp [results,Tryz.results33,go_sem,z0,z1,z2,z3,z4]) rfl (by rw [HPE.out];exact ⟨_,_,_,rfl,h1,h2,h3⟩))
      | (have hy:=HP.out.Az e (.slice Ad e.disk.length cd) (.slice Am e.mem.length cm) (.slice Al e.log.length cl)
         have h1:=AU.Az (f:=e) (xd:=.slice Ad e.disk.length cd) (xm:=.slice Am e.mem.length cm) (xl:=.slice Al e.log.length cl) (HO.out.below HB.out) HP.out
         have h2:=Ao (g:=w2.heap.size) (bj HB0.out HB.out) (Nat.le_trans HB0.out.size HN2.out) e (.slice Ad e.disk.length cd) (.slice Am e.mem.length cm) (.slice Al e.log.length cl)
         have h3:=Bf.Az (g:=w2.heap.size) (Bf.of_below HB.out) HN2.out e (.slice Ad e.disk.length cd) (.slice Am e.mem.length cm) (.slice Al e.log.length cl)
         have z0:=hy.c0
         have z1:=hy.c1
         have z2:=hy.c2
         have z3:=hy.c3
         have z4:=hy.c4
         exact bodyPost_ret (v:=e.ag (.slice Ad e.disk.length cd) (.slice Am e.mem.length cm) (.slice Al e.log.length cl)) (by simp [results,Tryz.results33,go_sem,z0,z1,z2,z3,z4]) rfl (by rw [HPE.out];exact ⟨_,_,_,rfl,h1,h2,h3⟩))
set_option maxRecDepth 100000 in
set_option maxHeartbeats 8000000 in
theorem KX (w : World) : Calls Tryz.prog 114 #[] w (Ox w newP):=by
  have hmk:=Ty
  go_enter Tryz.func114,Tryz.ntmps114
  go_wp2
  obtain ⟨w1,hw1⟩ : ∃ w1,w.alloc (Obj.cells #[.int .i64 0, .int .i64 0, .slice (some ⟨w.heap.size + 1,0,none⟩) 3 3] 81) = w1:=⟨_,rfl⟩
  have hz1 : w1.heap.size = w.heap.size + 1:=by rw [← hw1,BF]
  obtain ⟨w2,hw2⟩ : ∃ w2,w1.alloc (.cells (madeCells #[.int .i64 0] 3) 3) = w2:=⟨_,rfl⟩
  have ho : AV w2 w1.heap.size (.slice (some ⟨w1.heap.size,0,none⟩) 3 3) [0,0,0]:=by rw [← hw2];exact JO w1 w1.heap.size 3 .i64 3 (Nat.le_refl _) (by decide)
  have hq : AR w2 w.heap.size newP (.slice (some ⟨w.heap.size + 1,0,none⟩) 3 3):=by rw [← hw2, ← hw1];exact (AR.mk1 w newP _).up (Ah (Below.refl _ _) _)
  have hb : Below w.heap.size w w2:=by rw [← hw2, ← hw1];exact Ah (Ah (Below.refl _ _) _) _
  rw [hw1,hw2]
  rw [hz1] at ho
  have z0:=hq.c0
  have z1:=hq.c1
  have z2:=hq.c2
  exact bodyPost_ret (v:=newP.own (.slice (some ⟨w.heap.size + 1,0,none⟩) 3 3)) (by simp [results,Tryz.results114,go_sem,z0,z1,z2]) rfl ⟨_,rfl,ho.lower (by omega),hb⟩
theorem Pj {k : Nat} (h : k < 5) : (List.replicate 5 newP).take (k + 1) = (List.replicate 5 newP).take k ++ [newP]:=by
  match k,h with
  | 0,_ => rfl
  | 1,_ => rfl
  | 2,_ => rfl
  | 3,_ => rfl
  | 4,_ => rfl
set_option maxRecDepth 100000 in
set_option maxHeartbeats 8000000 in
theorem EO (w : World) : Calls Tryz.prog 54 #[] w (O6 w (List.replicate 5 newP)):=by
  go_enter Tryz.func54,Tryz.ntmps54
  go_wp2
  go_loopw [1,2] (fun v i wr => ∃ k : Nat,k ≤ 5 ∧ i = .int .i64 (k : Int) ∧ Ac (E9 wr w.heap.size v ((List.replicate 5 newP).take k)) ∧ Ac (Below w.heap.size w wr)) (fun _ i _ => (5 - intOf i).toNat)
  case atStart => exact ⟨0,Nat.zero_le _,rfl,⟨NG rfl (Nat.le_refl _)⟩,⟨(Below.refl _ _).alloc (Nat.le_refl _) _⟩⟩
  case round =>
    obtain ⟨k,hk,rfl,HO,HW⟩:=hrel
    by_cases hlt : k < 5
    · have HT:=As (Pj hlt)
      have HLN : Ac (((List.replicate 5 newP).take k).length = k):=⟨by simp;omega⟩
      have hki : (k : Int) < 5:=by omega
      go_wp2_with (first | (go_at_call 114;refine (KX _).mono ?_;rintro e w2 ⟨v,rfl,ho,hb2⟩;have HOv:=As ho;have HW2:=As hb2;have HO2:=As (Kd.DC HO.out HW2.out);clear ho hb2) | (at_builtin;refine Gj (p:=newP) rfl (.tmp 8) (.tmp 10) rfl rfl rfl HOv.out HO2.out (bj HW.out HW2.out) (by have:=HLN.out;omega) HW.out.size ?_;intro v1 w3 hR hb3;have HR3:=As hR;have HW3:=As hb3;clear hR hb3))
      go_roundw
      case rel => exact ⟨k + 1,by omega,by go_num,⟨by rw [HT.out];exact HR3.out⟩,HW3⟩
      case measure => simp [intOf];omega
    · have hke : k = 5:=by omega
      subst hke
      go_wp2
      go_ret
      exact ⟨_,rfl,HO.out,HW.out⟩
theorem Rx {P : Program} {ops : Array Oper} {l : List Oper} {Q : Exit → Act → World → Prop} {a : Act} (W : World) (h : ∀ w1,W = w1 → wpList P ops Q l a w1) : wpList P ops Q l a W:=h W rfl
set_option maxRecDepth 100000 in
set_option maxHeartbeats 8000000 in
theorem K5 (w : World) : Calls Tryz.prog 32 #[] w (VW w Da):=by
  go_enter Tryz.func32,Tryz.ntmps32
  go_wp2_with (first
    | (refine Ay (vd:=.slice none 0 0) (vm:=.slice none 0 0) (vl:=.slice none 0 0) zE ?_;intro w1 hb1 hz1 hq1;clear hz1;have HB:=As hb1;have HP:=As hq1;clear hb1 hq1)
    | (go_at_call 54;refine (EO w1).mono ?_;rintro x w2 ⟨vd,rfl,ho,hb2⟩;obtain ⟨Dd,kd,rfl, -, -⟩:=Kd.Cn ho;have HD : Ac (E9 w2 w1.heap.size (.slice Dd 5 kd) (List.replicate 5 newP)):=⟨ho⟩;have HB2:=As hb2;clear ho hb2)
    | (go_at_call 54;refine (EO w2).mono ?_;rintro x w3 ⟨vm,rfl,ho,hb2⟩;obtain ⟨Dm,km,rfl, -, -⟩:=Kd.Cn ho;have HM : Ac (E9 w3 w2.heap.size (.slice Dm 5 km) (List.replicate 5 newP)):=⟨ho⟩;have HB3:=As hb2;have HP3:=As ((HP.out.up HB2.out).up hb2);clear ho hb2)
    | (refine Rx (w3.alloc (.cells #[] 98)) ?_;intro w4 hw4;have hb4 : Below w3.heap.size w3 w4:=(by rw [← hw4];exact Ah (Below.refl _ _) _);have HR4 : Ac (OwnRs w4 w1.heap.size (.slice (some ⟨w3.heap.size,0,none⟩) 0 0) []):=⟨by rw [← hw4];exact rs_empty rfl (Nat.le_trans HB2.out.size HB3.out.size)⟩;have HB4:=As (bj HB3.out hb4);have HM4:=As (Kd.Br HM.out hb4);have hp:=HP3.out.up hb4;have HP4:=As hp;have y0:=hp.c0;have y1:=hp.c1;have y2:=hp.c2;have y3:=hp.c3;have y4:=hp.c4;have f0:=hp.frz 0;have f1:=hp.frz 1;have f2:=hp.frz 2;have f3:=hp.frz 3;have f4:=hp.frz 4;clear hp hb4 hw4))
  have hO : AU w4 w1.heap.size (.slice Dd 5 kd) (.slice Dm 5 km) (.slice (some ⟨w3.heap.size,0,none⟩) 0 0) Da:=AU.mk2 (w0:=w2) HD.out HM4.out HB4.out HB2.out.size HR4.out
  have hy:=HP4.out.Az ⟨[], [], [],0,false⟩ (.slice Dd 5 kd) (.slice Dm 5 km) (.slice (some ⟨w3.heap.size,0,none⟩) 0 0)
  have h1:=hO.Az (f:=⟨[], [], [],0,false⟩) (xd:=.slice Dd 5 kd) (xm:=.slice Dm 5 km) (xl:=.slice (some ⟨w3.heap.size,0,none⟩) 0 0) HP4.out
  have h2:=Ao (g:=w.heap.size) (bj HB.out (bj HB2.out HB4.out)) (Nat.le_refl _) ⟨[], [], [],0,false⟩ (.slice Dd 5 kd) (.slice Dm 5 km) (.slice (some ⟨w3.heap.size,0,none⟩) 0 0)
  have hs:=HB.out.size
  have z0:=hy.c0
  have z1:=hy.c1
  have z2:=hy.c2
  have z3:=hy.c3
  have z4:=hy.c4
  simp only at z3 z4
  exact bodyPost_ret (v:=.agg #[.slice Dd 5 kd, .slice Dm 5 km, .slice (some ⟨w3.heap.size,0,none⟩) 0 0, .int .i64 0, .bool false]) (by simp [results,Tryz.results32,go_sem,z0,z1,z2,z3,z4]) rfl ⟨.slice Dd 5 kd, .slice Dm 5 km, .slice (some ⟨w3.heap.size,0,none⟩) 0 0,rfl,h1.lower hs,h2⟩
theorem Rt.toK {w : World} {b : Nat} {v : Value} {vs : List Evt} (h : Rt w b v vs) : Ja w b (fun k => b ≤ k ∧ k < w.heap.size) v vs:=Kd.DN (Kd.Fv h) (fun k hk => ⟨hk.2.1,hk.2.2.1⟩)
def tL (C : Nat → Page) : List Page:=(List.range 5).map C
theorem RD (C : Nat → Page) : (tL C).length = 5:=by simp [tL]
theorem WX {C : Nat → Page} {q : Nat} (h : q < 5) : pg (tL C) q = C q:=by
  simp [tL,pg,List.getD_eq_getElem?_getD,h]
/-- The first k pages are D's, the others C's. -/
def tM (C D : Nat → Page) (k : Nat) : List Page:=tL (fun q => if q < k then D q else C q)
theorem Jm (C D : Nat → Page) (k : Nat) : (tM C D k).length = 5:=RD _
theorem Ve {C D : Nat → Page} {k q : Nat} (h : q < 5) : pg (tM C D k) q = if q < k then D q else C q:=WX h
theorem Tj {xs ys : List Page} (hl : xs.length = ys.length) (h : ∀ j,j < xs.length → pg xs j = pg ys j) : xs = ys:=by
  apply List.ext_getElem hl
  intro j h1 h2
  have:=h j h1
  simpa [pg,List.getD_eq_getElem?_getD,h1,h2] using this
theorem Ta (C D : Nat → Page) : tM C D 0 = tL C:=by simp [tM]
theorem Td (C D : Nat → Page) : tM C D 5 = tL D:=by
  refine Tj (by rw [Jm,RD]) (fun j hj => ?_)
  rw [Jm] at hj
  rw [Ve hj,if_pos hj,WX hj]
theorem Tc {C D : Nat → Page} {k : Nat} (h : D k = C k) : tM C D (k + 1) = tM C D k:=by
  unfold tM
  congr 1
  funext q
  by_cases e : q = k
  · subst e
    rw [if_pos (Nat.lt_succ_self _),if_neg (Nat.lt_irrefl _),h]
  · by_cases h2 : q < k
    · rw [if_pos h2,if_pos (by omega)]
    · rw [if_neg h2,if_neg (by omega)]
theorem Tm {ps : List Page} {i j : Nat} {q : Page} (h : i < ps.length) : pg (ps.set i q) j = if i = j then q else pg ps j:=by
  simp only [pg,List.getD_eq_getElem?_getD,List.getElem?_set]
  split
  · rename_i e;subst e;simp [h]
  · rfl
theorem UX {C D : Nat → Page} {k : Nat} {x : Page} (hk : k < 5) (h : D k = { x with lsn:=0 }) : ((tM C D k).set k x).set k { pg ((tM C D k).set k x) k with lsn:=0 } = tM C D (k + 1):=by
  have hl : k < (tM C D k).length:=by rw [Jm];exact hk
  rw [Tm hl,if_pos rfl,List.set_set, ← h]
  refine Tj (by rw [List.length_set,Jm,Jm]) (fun j hj => ?_)
  rw [List.length_set,Jm] at hj
  rw [Tm hl,Ve hj,Ve hj]
  by_cases e : k = j
  · subst e;rw [if_pos rfl,if_pos (Nat.lt_succ_self _)]
  · rw [if_neg e]
    by_cases h2 : j < k
    · rw [if_pos h2,if_pos (by omega)]
    · rw [if_neg h2,if_neg (by omega)]
/-- Is page k taken, an event being done? -/
def takes (e : Eng) (v : Evt) (k : Nat) : Bool:=(v.kind == 4) && (!e.down && (inB v.tx 1 3 && has e.log v.tx e.log.length k))
theorem trueE_k (e : Eng) (v : Evt) (C : Nat → Page) (k : Nat) : trueE e v C k = if takes e v k = true then ⟨0,(pg e.mem k).owner,(pg e.mem k).vals⟩ else C k:=by
  have hn : has e.log v.tx e.log.length k = true → lastT e v.tx ≠ 0:=fun h h0 => by
    rw [has,show Aj e.log v.tx e.log.length = 0 from h0,Gw] at h
    cases h
  have hi : (v.tx = 1 ∨ v.tx = 2 ∨ v.tx = 3) ↔ inB v.tx 1 3 = true:=by rw [Dj];omega
  unfold trueE OH takes
  by_cases hk : v.kind = 4
  · by_cases ho : Ju e v.tx = true
    · obtain ⟨h1,h2,h3⟩:=F5.1 ho
      rw [if_pos ⟨hk,ho⟩]
      simp only [hk,h1,hi.1 h2,beq_self_eq_true,Bool.not_false,Bool.true_and]
    · rw [if_neg (fun h => ho h.2),if_neg]
      intro h
      simp only [Bool.and_eq_true,Bool.not_eq_true',beq_iff_eq] at h
      exact ho (F5.2 ⟨h.2.1,hi.2 h.2.2.1,hn h.2.2.2⟩)
  · rw [if_neg (fun h => hk h.1),if_neg]
    intro h
    simp only [Bool.and_eq_true,beq_iff_eq] at h
    exact hk h.1
/-- The program asks who holds the page. -/
theorem UW {e : Eng} {C : Nat → Page} {B : Nat} (hi : Core e C B) (v : Evt) (k : Nat) : takes e v k = true ↔ v.kind = 4 ∧ e.down = false ∧ lk e.log k ≠ 0 ∧ lk e.log k = v.tx:=by
  have hone:=hi.Ia (k : Int)
  obtain ⟨-,hl⟩:=Px hone
  unfold takes
  simp only [Bool.and_eq_true,Bool.not_eq_true',beq_iff_eq,Dj]
  constructor
  · rintro ⟨h1,h2,h3,h4⟩
    refine ⟨h1,h2,?_⟩
    rcases hl with ⟨h5,h6⟩ | ⟨h5,h6⟩
    · rw [h6 v.tx (by omega)] at h4
      cases h4
    · by_cases e1 : v.tx = lk e.log k
      · exact ⟨by omega,e1.symm⟩
      · rw [hone _ _ e1 h4] at h6
        cases h6
  · rintro ⟨h1,h2,h3,h4⟩
    rcases hl with ⟨h5, -⟩ | ⟨h5,h6⟩
    · exact absurd h5 h3
    · rw [h4] at h5 h6
      exact ⟨h1,h2,by omega,h6⟩
theorem Iz : ∀ (vs : List Evt) (e : Eng) (C : Nat → Page) (v : Evt),Gb e C (vs ++ [v]) = trueE (K6 e vs) v (Gb e C vs)
  | [],_,_,_ => rfl
  | u :: vs,e,C,v => Iz vs (BM e u) (trueE e u C) v
/-- What PlayTrue answers. -/
def Jk (vs : List Evt) : List Page:=if 40 < vs.length then [] else tL (Gb Da (fun _ => newP) vs)
/-- The row of pages is elder than the engine; their slots are rows of numbers. -/
def OkI (w2 w : World) (ok : Nat → Prop) : Prop := ∀ k,ok k → k < w2.heap.size ∨ ∃ cells,w.heap[k]? = some (.cells cells 3 (0,0))
/-- The engine in its variable, and the row of pages; both of the call's own. -/
structure PtA (w w2 wr : World) (gO cap g : Nat) (vd vm vl : Value) (e : Eng) (ps : List Page) : Prop where
  box : Ai wr g e vd vm vl
  own : AU wr w2.heap.size vd vm vl e
  out : ∃ ok : Nat → Prop,OkI w2 wr ok ∧ OwnPk wr w.heap.size ok (.slice (some ⟨gO,0,none⟩) 5 cap) ps
  bel : Below w.heap.size w wr
  lo : gO < w2.heap.size
  hi : w.heap.size ≤ gO
  ge : w2.heap.size ≤ g
section
variable {w w2 wr w1 : World} {gO cap g : Nat} {vd vm vl : Value} {e : Eng} {ps qs : List Page}
theorem Xt {k : Nat} {cells : Array Value} {t : TypeId} (h : wr.heap[k]? = some (.cells cells t (0,0))) (hb : Below wr.heap.size wr w1) : w1.heap[k]? = some (.cells cells t (0,0)):=(hb.block k (Array.getElem?_eq_some_iff.1 h).1).trans h
theorem OkI.up {ok : Nat → Prop} (h : OkI w2 wr ok) (hb : Below wr.heap.size wr w1) : OkI w2 w1 ok:=fun k hk => (h k hk).imp id fun ⟨c,hc⟩ => ⟨c,Xt hc hb⟩
theorem OkI.keep {ok : Nat → Prop} (h : OkI w2 wr ok) (hk : Kept wr w1 (fun k => k = gO)) (hlo : gO < w2.heap.size) : OkI w2 w1 ok:=fun k ho => by
  rcases h k ho with h1 | ⟨c,hc⟩
  · exact .inl h1
  · by_cases e : k = gO
    · exact .inl (by omega)
    · exact .inr ⟨c,(hk.2 k (Array.getElem?_eq_some_iff.1 hc).1 e).trans hc⟩
theorem PtA.below (h : PtA w w2 wr gO cap g vd vm vl e ps) (hb : Below wr.heap.size wr w1) : PtA w w2 w1 gO cap g vd vm vl e ps:=by
  obtain ⟨ok,h1,h2⟩:=h.out
  exact ⟨h.box.up hb,h.own.below hb,⟨ok,h1.up hb,Kd.Br h2 hb⟩,bj h.bel hb,h.lo,h.hi,h.ge⟩
theorem PtA.row (h : PtA w w2 wr gO cap g vd vm vl e ps) (hO : ∃ ok : Nat → Prop,OkI w2 w1 ok ∧ OwnPk w1 w.heap.size ok (.slice (some ⟨gO,0,none⟩) 5 cap) qs) (hb : Below w.heap.size w w1) (hk : Kept wr w1 (fun k => k = gO)) : PtA w w2 w1 gO cap g vd vm vl e qs:=by
  have h1:=h.lo
  have h2:=h.ge
  exact ⟨(hk.2 g h.box.lt (by omega)).trans h.box,(h.own.toK.kept hk (fun k hk e => by omega)).E,hO,hb,h.lo,h.hi,h.ge⟩
theorem PtA.size (h : PtA w w2 wr gO cap g vd vm vl e ps) : gO < wr.heap.size:=Nat.lt_trans (Nat.lt_of_lt_of_le h.lo h.ge) h.box.lt
theorem IQ (w : World) (g j : Nat) (u : Value) : Kept w (w.setCell ⟨g,j,none⟩ u) (fun k => k = g):=⟨by rw [World.size_setCell];exact Nat.le_refl _,fun k _ hk => Below.heap_setCell w ⟨g,j,none⟩ u k hk⟩
theorem Ij (h : wr.grownBy w1 (some gO)) : Kept wr w1 (fun k => k = gO):=Kept.Jy h (Kept.refl _ _) (fun k e => .inl (by injection e with e;exact e.symm))
/-- out[i].Lsn = 0. -/
theorem PtA.zero (h : PtA w w2 wr gO cap g vd vm vl e ps) {i : Nat} (hi : i < 5) : PtA w w2 (wr.setCell ⟨gO,i * 3,none⟩ (.int .i64 0)) gO cap g vd vm vl e (ps.set i { pg ps i with lsn:=0 }):=by
  obtain ⟨ok,h1,h2⟩:=h.out
  exact h.row ⟨ok,h1.keep (IQ _ _ _ _) h.lo,Vb h2 hi 0⟩ (h.bel.setCell (p:=⟨gO,i * 3,none⟩) h.hi _) (IQ _ _ _ _)
/-- out[i] = p. -/
theorem PtA.stored (h : PtA w w2 wr gO cap g vd vm vl e ps) {N : Nat} {v : Value} {xs : List Int} (hu : AV wr N v xs) (hN : gO < N) {ok : Nat → Prop} (hok : OkI w2 wr ok) (hO : OwnPk w1 w.heap.size (fun k => ok k ∨ some k = v.ownBlock) (.slice (some ⟨gO,0,none⟩) 5 cap) qs) (hb : Below w.heap.size w w1) (hg : wr.grownBy w1 (some gO)) : PtA w w2 w1 gO cap g vd vm vl e qs:=
  h.row ⟨_,fun k hk => by
    rcases hk with hk | hk
    · exact hok.keep (Ij hg) h.lo k hk
    · obtain ⟨c,hc⟩:=Dr hu k hk.symm
      have:=Cq hu k hk.symm
      exact .inr ⟨c,((Ij hg).2 k (Array.getElem?_eq_some_iff.1 hc).1 (by omega)).trans hc⟩,hO⟩ hb (Ij hg)
/-- e = what PlayDo hands back. -/
theorem Ti {b : Nat} {ok : Nat → Prop} {v ud um ul : Value} {q : Eng} (h : OwnPk wr b ok v ps) (hq : Ai wr g q ud um ul) (f : Eng) (xd xm xl : Value) : OwnPk (Go.Proofs.YtpjmlpmhgfghbaaGreat.Az wr g f xd xm xl) b ok v ps:=
  FX (FX (FX (FX (FX h hq 0 xd) (hq.set0 xd) 1 xm) ((hq.set0 xd).set1 xm) 2 xl) (((hq.set0 xd).set1 xm).set2 xl) 3 (.int .i64 f.safe)) ((((hq.set0 xd).set1 xm).set2 xl).Cu f.safe) 4 (.bool f.down)
theorem Rl {q f : Eng} {ud um ul xd xm xl : Value} {k : Nat} {c : Array Value} (hq : Ai wr g q ud um ul) (h : wr.heap[k]? = some (.cells c 3 (0,0))) : (Go.Proofs.YtpjmlpmhgfghbaaGreat.Az wr g f xd xm xl).heap[k]? = some (.cells c 3 (0,0)):=by
  have hne : k ≠ g:=fun e => by
    subst e
    rw [hq.blk] at h
    injection h with h
    injection h with _ h
    exact absurd h (by decide)
  unfold Go.Proofs.YtpjmlpmhgfghbaaGreat.Az
  rw [Below.heap_setCell _ _ _ k hne,Below.heap_setCell _ _ _ k hne,Below.heap_setCell _ _ _ k hne,Below.heap_setCell _ _ _ k hne,Below.heap_setCell _ _ _ k hne]
  exact h
theorem PtA.put (h : PtA w w2 wr gO cap g vd vm vl e ps) {xd xm xl : Value} {f : Eng} (ho : AU wr w2.heap.size xd xm xl f) : PtA w w2 (Go.Proofs.YtpjmlpmhgfghbaaGreat.Az wr g f xd xm xl) gO cap g xd xm xl f ps:=by
  obtain ⟨ok,h1,h2⟩:=h.out
  exact ⟨h.box.Az f xd xm xl,ho.Az (f:=f) h.box,⟨ok,fun k hk => (h1 k hk).imp id fun ⟨c,hc⟩ => ⟨c,Rl h.box hc⟩,Ti h2 h.box f xd xm xl⟩,Ao h.bel (by have:=h.lo;have:=h.hi;have:=h.ge;omega) f xd xm xl,h.lo,h.hi,h.ge⟩
/-- An event's variable is as it was. -/
theorem EvBox.kept {b c : Nat} {v : Evt} {A : Option Addr} (h : EvBox wr b v A c) (hk : Kept wr w1 (fun k => k = gO)) (hne : b ≠ gO) : EvBox w1 b v A c:=(hk.2 b h.lt hne).trans h
/-- The row as newPages handed it back. -/
theorem OT {v : Value} (h : E9 w2 w.heap.size v ps) (hb : Below w2.heap.size w2 w1) : ∃ ok : Nat → Prop,OkI w2 w1 ok ∧ OwnPk w1 w.heap.size ok v ps:=⟨_,fun k hk => .inl hk.2,Kd.DC h hb⟩
end
theorem true_tk {e : Eng} {v : Evt} {C : Nat → Page} {j : Nat} (h : takes e v j = true) : trueE e v C j = { pg e.mem j with lsn:=0 }:=by rw [trueE_k,if_pos h]
theorem SX {e : Eng} {v : Evt} {C : Nat → Page} {j : Nat} (h : ¬ takes e v j = true) : trueE e v C j = C j:=by rw [trueE_k,if_neg h]
theorem Lv : (List.replicate 5 newP).length = 5:=rfl
theorem Nw (vs : List Evt) : tL (Gb Da (fun _ => newP) (vs.take 0)) = List.replicate 5 newP:=by rw [List.take_zero];rfl
theorem Qn {vs : List Evt} {k : Nat} (h : vs.length ≤ k) (h40 : ¬ 40 < vs.length) : Jk vs = tL (Gb Da (fun _ => newP) (vs.take k)):=by rw [Jk,if_neg h40,List.take_of_length_le h]
set_option maxRecDepth 100000 in
set_option maxHeartbeats 16000000 in
theorem JI {w0 w : World} {A : Option Addr} {c : Nat} {vs : List Evt} (hb : Below w0.heap.size w0 w) (hr : Kd.C Ik w0 A vs.length vs) : Calls Tryz.prog 22 #[.slice A vs.length c] w (O6 w (Jk vs)):=by
  have HR:=As (Bu hr hb)
  have hmx:=(CJ hr).2
  clear hr hb
  by_cases h40 : 40 < vs.length
  · rw [Jk,if_pos h40]
    go_enter Tryz.func22,Tryz.ntmps22
    go_wp2
    go_ret
    exact ⟨_,rfl,Kd.Rq _ _ _ _ _,Below.refl _ _⟩
  · have hn40 : ¬ (40 : Int) < (vs.length : Int):=by omega
    go_enter Tryz.func22,Tryz.ntmps22
    go_wp2_with (first
      | (go_at_call 59;refine (G7 w).mono ?_;rintro x w2 ⟨v,rfl,ho,hb2⟩;obtain ⟨gO,cap,hv,hgb,hgl⟩:=Cb ho (by rw [Lv];decide);rw [Lv] at hv;subst hv;have HO:=As ho;have HB2:=As hb2;have HGB:=As (And.intro hgb hgl);clear ho hb2 hgb hgl)
      | (go_at_call 31;refine (Ng w2).mono ?_;rintro x w3 ⟨vd,vm,vl,rfl,ho,hb3⟩;obtain ⟨Ed,n1,Em,n2,El,n3,rfl,rfl,rfl, -, -⟩:=ho.reads;have HE:=As ho;have HX:=As hb3;clear hb3 ho)
      | (refine Ay (vd:=.slice Ed Da.disk.length n1) (vm:=.slice Em Da.mem.length n2) (vl:=.slice El Da.log.length n3) Da ?_;intro w4 hb4 hz4 hq4;clear hz4;have HPT : Ac (PtA w w2 w4 gO cap w3.heap.size (.slice Ed Da.disk.length n1) (.slice Em Da.mem.length n2) (.slice El Da.log.length n3) Da (List.replicate 5 newP)):=⟨⟨hq4,HE.out.below hb4,OT HO.out (bj HX.out hb4),bj HB2.out (bj HX.out hb4),HGB.out.2,HGB.out.1,HX.out.size⟩⟩;clear hb4 hq4))
    go_loopw [17] (fun i wr => ∃ k : Nat,k ≤ vs.length ∧ i = .int .i64 (k : Int) ∧ ∃ vd vm vl,Ac (PtA w w2 wr gO cap w3.heap.size vd vm vl (K6 Da (vs.take k)) (tL (Gb Da (fun _ => newP) (vs.take k))))) (fun i _ => (vs.length - intOf i).toNat)
    case atStart => exact ⟨0,Nat.zero_le _,rfl,_,_,_,⟨by rw [Nw];exact HPT.out⟩⟩
    case round =>
      obtain ⟨k,hk,rfl,vd,vm,vl,HP⟩:=hrel
      obtain ⟨wo,rfl⟩ : ∃ wo,wo = wr:=⟨_,rfl⟩
      by_cases hlt : k < vs.length
      · obtain ⟨Ed',m1,Em',m2,El',m3,rfl,rfl,rfl,hcl, -⟩:=HP.out.own.reads
        obtain ⟨ad,A2,c2,rfl,QV, -,hv⟩:=Mj HR.out k hlt
        have HBr:=As HP.out.bel
        obtain ⟨z0,z1,z2,z3,z4,z5⟩:=QV
        replace z0:=bc HBr.out z0
        replace z1:=bc HBr.out z1
        replace z2:=bc HBr.out z2
        replace z3:=bc HBr.out z3
        replace z4:=bc HBr.out z4
        replace z5:=bc HBr.out z5
        have HV:=As hv
        have HT:=As (show K6 Da (vs.take (k + 1)) = BM (K6 Da (vs.take k)) (ev vs k) by rw [Lx hlt,M4])
        have HT2:=As (show Gb Da (fun _ => newP) (vs.take (k + 1)) = trueE (K6 Da (vs.take k)) (ev vs k) (Gb Da (fun _ => newP) (vs.take k)) by rw [Lx hlt,Iz])
        have HINV:=As (Sd vs k (by omega))
        obtain ⟨C,hC⟩ : ∃ C,Gb Da (fun _ => newP) (vs.take k) = C:=⟨_,rfl⟩
        obtain ⟨X,hX⟩ : ∃ X,K6 Da (vs.take k) = X:=⟨_,rfl⟩
        obtain ⟨v,hvv⟩ : ∃ v,ev vs k = v:=⟨_,rfl⟩
        rw [hX] at HP HINV hcl HT HT2
        rw [hC] at HP HT2
        rw [hvv] at z0 z1 z2 z3 z4 z5 HV HT HT2
        have HCL:=As hcl
        obtain ⟨X1,hX1⟩ : ∃ X1,BM X v = X1:=⟨_,rfl⟩
        obtain ⟨D,hD⟩ : ∃ D,trueE X v C = D:=⟨_,rfl⟩
        rw [hX1] at HT
        rw [hD] at HT2
        have HX1:=As hX1
        have HD:=As hD
        have hm5 : X.mem.length = 5:=by obtain ⟨C',hi⟩:=HINV.out;exact hi.mlen
        have HM5:=As hm5
        have HGM : Ac (geo X.mem):=⟨by obtain ⟨C',hi⟩:=HINV.out;exact Aw hi.Fz⟩
        clear hv hX hvv hcl hX1 hC hD hm5
        go_wp2
        obtain ⟨w4,hw4⟩ : ∃ w4,wo.alloc (Obj.cells #[.int .i64 v.kind, .int .i64 v.tx, .int .i64 v.page, .int .i64 v.slot, .int .i64 v.n, .slice A2 v.vals.length c2] 35) = w4:=⟨_,rfl⟩
        rw [hw4]
        have HP4 : Ac (PtA w w2 w4 gO cap w3.heap.size (.slice Ed' X.disk.length m1) (.slice Em' X.mem.length m2) (.slice El' X.log.length m3) X (tL C)):=⟨by rw [← hw4];exact HP.out.below (Ah (Below.refl _ _) _)⟩
        have HV4 : Ac (EvBox w4 wo.heap.size v A2 c2):=⟨by rw [← hw4];exact EvBox.mk1 _ _ _ _⟩
        have HN4:=As HP.out.size
        clear hw4 z0 z1 z2 z3 z4 z5
        go_loopw [21] (fun p wr => ∃ j : Nat,j ≤ 5 ∧ p = .int .i64 (j : Int) ∧ Ac (PtA w w2 wr gO cap w3.heap.size (.slice Ed' X.disk.length m1) (.slice Em' X.mem.length m2) (.slice El' X.log.length m3) X (tM C D j)) ∧ Ac (EvBox wr wo.heap.size v A2 c2)) (fun p _ => (5 - intOf p).toNat)
        case atStart => exact ⟨0,by decide,rfl,⟨by rw [Ta];exact HP4.out⟩,HV4⟩
        case round =>
          obtain ⟨j,hj,rfl,HP,HVB⟩:=hrel
          have HRD:=As HP.out.own.toK.C
          have hq:=HP.out.box
          have hvb:=HVB.out
          have x0:=hq.c0
          have x1:=hq.c1
          have x2:=hq.c2
          have x3:=hq.c3
          have x4:=hq.c4
          have v0:=hvb.c0
          have v1:=hvb.c1
          have v2:=hvb.c2
          have v3:=hvb.c3
          have v4:=hvb.c4
          have v5:=hvb.c5
          clear hq hvb
          by_cases hlt5 : j < 5
          · have hj5 : (j : Int) < 5:=by omega
            have hjm : (j : Int) < (X.mem.length : Int):=by rw [HM5.out];omega
            obtain ⟨l1,l2,hl⟩ : ∃ l1 l2,Fg X.log (j : Int) (Cf X.log 3) 0 true = (l1,l2):=⟨_,_,rfl⟩
            have HLK : Ac (takes X v j = true ↔ v.kind = 4 ∧ X.down = false ∧ l1 ≠ 0 ∧ l1 = v.tx):=⟨by obtain ⟨C',hi⟩:=HINV.out;have:=UW hi.core v j;rwa [lk,hl] at this⟩
            have HLO : Ac (∀ wx,Below wr.heap.size wr wx → Calls Tryz.prog 60 #[.slice El' X.log.length m3, .int .i64 (j : Int)] wx (fun x w' => x = .returned (.tuple #[.int .i64 l1, .bool l2]) ∧ Below wx.heap.size wx w')):=⟨fun wx hb => by
              obtain ⟨C',hi⟩:=HINV.out
              have h:=Er (c:=m3) (j : Int) hb HRD.out.l hi.core.log
              rw [hl] at h
              exact h⟩
            clear hl
            rcases BO v.kind 4 with ⟨e1,b1,c1⟩ | ⟨e1,b1,c1⟩
            rotate_left
            have HTF:=As (show ¬ takes X v j = true from fun h => e1.out (HLK.out.1 h).1)
            rotate_left
            cases hd : X.down
            rotate_left
            have HTF:=As (show ¬ takes X v j = true from fun h => by have:=(HLK.out.1 h).2.1;rw [hd] at this;cases this)
            rotate_left 2
            rcases BO l1 0 with ⟨e3,b3,c3⟩ | ⟨e3,b3,c3⟩
            have HTF:=As (show ¬ takes X v j = true from fun h => (HLK.out.1 h).2.2.1 e3.out)
            rotate_left
            rcases BO l1 v.tx with ⟨e4,b4,c4⟩ | ⟨e4,b4,c4⟩
            rotate_left
            have HTF:=As (show ¬ takes X v j = true from fun h => e4.out (HLK.out.1 h).2.2.2)
            rotate_right
            · have HTT:=As (HLK.out.2 ⟨e1.out,hd,e3.out,e4.out⟩)
              obtain ⟨bd,A3,c3',rfl,QP, -,g2⟩:=EP HRD.out.m j (by rw [HM5.out];exact hlt5)
              obtain ⟨p0,p1,p2⟩:=QP
              have HG:=As g2
              obtain ⟨OK,hok,hop⟩:=HP.out.out
              have HOK:=As hok
              have HOP:=As hop
              clear g2 hok hop
              go_wp2_with (first
                | (go_at_call 60;refine (HLO.out wr (Below.refl _ _)).mono ?_;rintro x w5 ⟨rfl,hb5⟩;have HB5:=As hb5;replace x0:=bc hb5 x0;replace x1:=bc hb5 x1;replace x2:=bc hb5 x2;replace x3:=bc hb5 x3;replace x4:=bc hb5 x4;replace v0:=bc hb5 v0;replace v1:=bc hb5 v1;replace v2:=bc hb5 v2;replace v3:=bc hb5 v3;replace v4:=bc hb5 v4;replace v5:=bc hb5 v5;replace p0:=bc hb5 p0;replace p1:=bc hb5 p1;replace p2:=bc hb5 p2;clear hb5)
                | (go_at_call 61;refine (EA (by rw [EW HGM.out hlt5];decide) HB5.out HG.out).mono ?_;rintro x w6 ⟨u,rfl,hu,hb6⟩;have HU:=As hu;have HW6:=As (bj HB5.out hb6);have HU5:=As HB5.out.size;clear x0 x1 x2 x3 x4 v0 v1 v2 v3 v4 v5 p0 p1 p2 hu hb6)
                | (with_reducible refine MP (.store 81 (.tmp 57) (.tmp 56)) rfl ?_;refine Gi (ok:=OK) (w0:=w) (N:=w5.heap.size) (q:=pg X.mem j) j (Jm C D j) rfl rfl (.tmp 57) (.tmp 56) rfl rfl rfl HU.out (by have:=HP.out.bel.size;have:=HU5.out;omega) (Kd.DN (Kd.DC HOP.out HW6.out) (fun m hm => ⟨hm.1,by have:=hm.2;have:=HU5.out;omega⟩)) hlt5 (bj HP.out.bel HW6.out) ?_;intro w9 hO9 hB9 hg9;have hp9:=(HP.out.below HW6.out).stored HU.out (by have:=HP.out.size;have:=HU5.out;omega) (HOK.out.up HW6.out) hO9 hB9 hg9;have HV9:=As ((HVB.out.up HW6.out).kept (Ij hg9) (by have:=HP.out.lo;have:=HN4.out;omega));have HP9:=As hp9;obtain ⟨ok9, -,ho9⟩:=hp9.out;obtain ⟨oki,uu, -, -, -,⟨s0, -, -⟩,hfr, -⟩:=NH ho9 hlt5;have f0:=hfr 0;simp only [Nat.add_zero] at f0;clear hO9 hB9 hg9 hp9 hfr ho9))
              go_roundw
              case rel => exact ⟨j + 1,by omega,by go_num,⟨by have h:=HP9.out.zero hlt5;rw [UX hlt5 (by rw [← HD.out];exact true_tk HTT.out)] at h;exact h⟩,⟨HV9.out.kept (IQ _ _ _ _) (by have:=HP9.out.lo;have:=HN4.out;omega)⟩⟩
              case measure => simp [intOf];omega
            all_goals
              have HDJ:=As (show D j = C j by rw [← HD.out];exact SX HTF.out)
              go_wp2_with (first
                | (go_at_call 60;refine (HLO.out wr (Below.refl _ _)).mono ?_;rintro x w5 ⟨rfl,hb5⟩;have HB5:=As hb5;replace x0:=bc hb5 x0;replace x1:=bc hb5 x1;replace x2:=bc hb5 x2;replace x3:=bc hb5 x3;replace x4:=bc hb5 x4;replace v0:=bc hb5 v0;replace v1:=bc hb5 v1;replace v2:=bc hb5 v2;replace v3:=bc hb5 v3;replace v4:=bc hb5 v4;replace v5:=bc hb5 v5;clear hb5))
              go_roundw
              case rel => exact ⟨j + 1,by omega,by go_num,⟨by rw [Tc HDJ.out];exact HP.out.below HB5.out⟩,⟨HVB.out.up HB5.out⟩⟩
              case measure => simp [intOf];omega
          · have HJ:=As (show j = 5 by omega)
            have hj5 : ¬ (j : Int) < 5:=by omega
            go_wp2_with (first
              | (go_at_call 11;obtain ⟨C',hi⟩:=HINV.out;refine (Qd (cd:=m1) (cm:=m2) (cl:=m3) (c:=c2) v hi (by omega) HCL.out (Below.refl wr.heap.size wr) HRD.out (Bu HV.out HP.out.bel)).mono ?_;rw [HX1.out];rintro x w5 ⟨ud,um,ul,rfl,ho,hb5⟩;obtain ⟨Fd,k1,Fm,k2,Fl,k3,rfl,rfl,rfl, -, -⟩:=ho.reads;have hp5:=HP.out.below hb5;have HO5:=As (ho.lower (b':=w2.heap.size) (by have:=HP.out.ge;have:=HP.out.box.lt;omega));have HP5:=As hp5;clear x0 x1 x2 x3 x4 v0 v1 v2 v3 v4 v5;have y0:=hp5.box.c0;have y1:=hp5.box.c1;have y2:=hp5.box.c2;have y3:=hp5.box.c3;have y4:=hp5.box.c4;have f0:=hp5.box.frz 0;have f1:=hp5.box.frz 1;have f2:=hp5.box.frz 2;have f3:=hp5.box.frz 3;have f4:=hp5.box.frz 4;clear ho hb5 hp5 hi))
            go_roundw
            case rel => exact ⟨k + 1,by omega,by go_num,_,_,_,⟨by rw [HT.out,HT2.out, ← Td C D, ← HJ.out];exact HP5.out.put (f:=X1) HO5.out⟩⟩
            case measure => simp [intOf];omega
      · have HT:=As (Qn (vs:=vs) (k:=k) (by omega) h40)
        go_wp2
        go_ret
        obtain ⟨OK, -,hop⟩:=HP.out.out
        exact ⟨_,rfl,by rw [HT.out];exact Kd.DN hop (fun _ _ => trivial),HP.out.bel⟩
end Go.Proofs.YtpjmlpmhgfghbaaGreat
/- The reference's PlayTrue. -/
namespace Go.Proofs.YtpjmlpmhgfghbaaGreat
open Go.RowKit Go.Proofs.YtpjmlpmhgfghbaaGreatW.PrintWords Go.Proofs.YtpjmlpmhgfghbaaGreatW.PrintLast Go.Proofs.YtpjmlpmhgfghbaaGreatW.PrintMore
theorem Xb {e : Eng} {v : Evt} {C : Nat → Page} {j : Nat} (h : v.kind ≠ 4) : tM C (trueE e v C) j = tL (trueE e v C):=by
  have hD : trueE e v C = C:=by unfold trueE;rw [if_neg (fun h2 => h h2.1)]
  rw [hD,tM]
  congr 1
  funext q
  split <;> rfl
/-- The engine as l22Do hands it back; the variable holds the elder one. -/
structure PtB (w w2 wr : World) (gO cap g : Nat) (vd vm vl xd xm xl : Value) (e f : Eng) (ps : List Page) : Prop where
  box : Ai wr g e vd vm vl
  own : AU wr w2.heap.size xd xm xl f
  out : ∃ ok : Nat → Prop,OkI w2 wr ok ∧ OwnPk wr w.heap.size ok (.slice (some ⟨gO,0,none⟩) 5 cap) ps
  bel : Below w.heap.size w wr
  lo : gO < w2.heap.size
  hi : w.heap.size ≤ gO
  ge : w2.heap.size ≤ g
section
variable {w w2 wr w1 : World} {gO cap g : Nat} {vd vm vl xd xm xl : Value} {e f : Eng} {ps qs : List Page}
theorem PtB.XQ (h : PtB w w2 wr gO cap g vd vm vl xd xm xl e f ps) : PtA w w2 (Go.Proofs.YtpjmlpmhgfghbaaGreat.Az wr g f xd xm xl) gO cap g xd xm xl f ps:=by
  obtain ⟨ok,h1,h2⟩:=h.out
  exact ⟨h.box.Az f xd xm xl,h.own.Az (f:=f) h.box,⟨ok,fun k hk => (h1 k hk).imp id fun ⟨c,hc⟩ => ⟨c,Rl h.box hc⟩,Ti h2 h.box f xd xm xl⟩,Ao h.bel (by have:=h.lo;have:=h.hi;have:=h.ge;omega) f xd xm xl,h.lo,h.hi,h.ge⟩
/-- A world that stops at a block. -/
theorem base_of (w : World) {n : Nat} (hn : n ≤ w.heap.size) : ∃ w0 : World,w0.heap.size = n ∧ Below n w0 w:=by
  refine ⟨{ w with heap:=w.heap.extract 0 n },by simp;omega,rfl,rfl,rfl,by simp;omega,fun k hk => ?_⟩
  show w.heap[k]? = (w.heap.extract 0 n)[k]?
  rw [Array.getElem?_extract,if_pos (by omega),Nat.zero_add]
theorem TG {c : Nat} {A : Option Addr} (v : Evt) (hi : ∃ C,Inv e C (3 * 40)) (h : PtA w w2 wr gO cap g vd vm vl e ps) (hv : Kd.C (Kd.int .i64) w A v.vals.length v.vals) : Calls Tryz.prog 33 #[e.ag vd vm vl,v.val A c] wr fun x w1 => ∃ xd xm xl,x = .returned ((BM e v).ag xd xm xl) ∧ PtB w w2 w1 gO cap g vd vm vl xd xm xl e (BM e v) ps:=by
  obtain ⟨C,hi⟩:=hi
  have hlo:=h.lo
  have hhi:=h.hi
  obtain ⟨w0,hz,hb0⟩:=base_of wr (n:=w2.heap.size) (by have:=h.ge;have:=h.box.lt;omega)
  have hw0 : Below w.heap.size w w0:=⟨hb0.os.symm.trans h.bel.os,hb0.tape.symm.trans h.bel.tape,hb0.output.symm.trans h.bel.output,by rw [hz];omega,fun k hk => (hb0.block k (by omega)).symm.trans (h.bel.block k hk)⟩
  refine (R7 (w0:=w0) (c:=c) v hi (by omega) (by rw [hz];exact hb0) (by rw [hz];exact h.own) (Bu hv hw0)).mono ?_
  rintro x w1 ⟨xd,xm,xl,rfl,ho,hb,hk⟩
  rw [hz] at ho hb
  obtain ⟨ok,h1,h2⟩:=h.out
  refine ⟨xd,xm,xl,rfl,h.box.R8 hk,ho,⟨ok,fun k hk1 => (h1 k hk1).imp id fun ⟨c,hc⟩ => ⟨c,hk.2 k c _ (by decide) hc⟩,?_⟩,?_,hlo,hhi,h.ge⟩
  · refine Kd.Q6 (S:=fun k => ¬ (k < w2.heap.size ∨ ∃ cells,wr.heap[k]? = some (.cells cells 3 (0,0)))) h2 ⟨hk.1,fun k hlt hn => ?_⟩ (fun k ho hn => hn (h1 k ho))
    rcases Classical.not_not.1 hn with h3 | ⟨c,hc⟩
    · exact (hb.block k h3).trans (hb0.block k h3).symm
    · exact (hk.2 k c _ (by decide) hc).trans hc.symm
  · exact hw0.trans (hb.mono (by omega))
end
set_option maxRecDepth 100000 in
set_option maxHeartbeats 16000000 in
theorem Kw {w0 w : World} {A : Option Addr} {c : Nat} {vs : List Evt} (hb : Below w0.heap.size w0 w) (hr : Kd.C Ik w0 A vs.length vs) : Calls Tryz.prog 20 #[.slice A vs.length c] w (O6 w (Jk vs)):=by
  have HR:=As (Bu hr hb)
  have hmx:=(CJ hr).2
  clear hr hb
  by_cases h40 : 40 < vs.length
  · rw [Jk,if_pos h40]
    go_enter Tryz.func20,Tryz.ntmps20
    go_wp2_with (first
      | (go_at_call 54;refine (EO w).mono ?_;rintro x w2 ⟨v,rfl, -,hb2⟩;have HB2:=As hb2;clear hb2))
    go_ret
    exact ⟨_,rfl,NG rfl HB2.out.size,Ah HB2.out _⟩
  · have hn40 : ¬ (40 : Int) < (vs.length : Int):=by omega
    go_enter Tryz.func20,Tryz.ntmps20
    go_wp2_with (first
      | (go_at_call 54;refine (EO w).mono ?_;rintro x w2 ⟨v,rfl,ho,hb2⟩;obtain ⟨gO,cap,hv,hgb,hgl⟩:=Cb ho (by rw [Lv];decide);rw [Lv] at hv;subst hv;have HO:=As ho;have HB2:=As hb2;have HGB:=As (And.intro hgb hgl);clear ho hb2 hgb hgl)
      | (go_at_call 32;refine (K5 w2).mono ?_;rintro x w3 ⟨vd,vm,vl,rfl,ho,hb3⟩;obtain ⟨Ed,n1,Em,n2,El,n3,rfl,rfl,rfl, -, -⟩:=ho.reads;have HE:=As ho;have HX:=As hb3;clear hb3 ho))
    obtain ⟨w4,hw4⟩ : ∃ w4,w3.alloc (Obj.cells #[.slice Ed Da.disk.length n1, .slice Em Da.mem.length n2, .slice El Da.log.length n3, .int .i64 Da.safe, .bool Da.down] 28) = w4:=⟨_,rfl⟩
    rw [hw4]
    have hb4 : Below w3.heap.size w3 w4:=by rw [← hw4];exact Ah (Below.refl _ _) _
    have hq4 : Ai w4 w3.heap.size Da (.slice Ed Da.disk.length n1) (.slice Em Da.mem.length n2) (.slice El Da.log.length n3):=by rw [← hw4];exact Ai.mk1 _ _ _ _ _
    have HPT : Ac (PtA w w2 w4 gO cap w3.heap.size (.slice Ed Da.disk.length n1) (.slice Em Da.mem.length n2) (.slice El Da.log.length n3) Da (List.replicate 5 newP)):=⟨⟨hq4,HE.out.below hb4,OT HO.out (bj HX.out hb4),bj HB2.out (bj HX.out hb4),HGB.out.2,HGB.out.1,HX.out.size⟩⟩
    clear hw4 hb4 hq4
    go_loopw [5] (fun i wr => ∃ k : Nat,k ≤ vs.length ∧ i = .int .i64 (k : Int) ∧ ∃ vd vm vl,Ac (PtA w w2 wr gO cap w3.heap.size vd vm vl (K6 Da (vs.take k)) (tL (Gb Da (fun _ => newP) (vs.take k))))) (fun i _ => (vs.length - intOf i).toNat)
    case atStart => exact ⟨0,Nat.zero_le _,rfl,_,_,_,⟨by rw [Nw];exact HPT.out⟩⟩
    case round =>
      obtain ⟨k,hk,rfl,vd,vm,vl,HP⟩:=hrel
      obtain ⟨wo,rfl⟩ : ∃ wo,wo = wr:=⟨_,rfl⟩
      by_cases hlt : k < vs.length
      · obtain ⟨Ed',m1,Em',m2,El',m3,rfl,rfl,rfl,hcl, -⟩:=HP.out.own.reads
        obtain ⟨ad,A2,c2,rfl,QV, -,hv⟩:=Mj HR.out k hlt
        have HBr:=As HP.out.bel
        obtain ⟨z0,z1,z2,z3,z4,z5⟩:=QV
        replace z0:=bc HBr.out z0
        replace z1:=bc HBr.out z1
        replace z2:=bc HBr.out z2
        replace z3:=bc HBr.out z3
        replace z4:=bc HBr.out z4
        replace z5:=bc HBr.out z5
        have HV:=As hv
        have HT:=As (show K6 Da (vs.take (k + 1)) = BM (K6 Da (vs.take k)) (ev vs k) by rw [Lx hlt,M4])
        have HT2:=As (show Gb Da (fun _ => newP) (vs.take (k + 1)) = trueE (K6 Da (vs.take k)) (ev vs k) (Gb Da (fun _ => newP) (vs.take k)) by rw [Lx hlt,Iz])
        have HINV:=As (Sd vs k (by omega))
        obtain ⟨C,hC⟩ : ∃ C,Gb Da (fun _ => newP) (vs.take k) = C:=⟨_,rfl⟩
        obtain ⟨X,hX⟩ : ∃ X,K6 Da (vs.take k) = X:=⟨_,rfl⟩
        obtain ⟨v,hvv⟩ : ∃ v,ev vs k = v:=⟨_,rfl⟩
        rw [hX] at HP HINV hcl HT HT2
        rw [hC] at HP HT2
        rw [hvv] at z0 z1 z2 z3 z4 z5 HV HT HT2
        have HCL:=As hcl
        obtain ⟨X1,hX1⟩ : ∃ X1,BM X v = X1:=⟨_,rfl⟩
        obtain ⟨D,hD⟩ : ∃ D,trueE X v C = D:=⟨_,rfl⟩
        rw [hX1] at HT
        rw [hD] at HT2
        have HX1:=As hX1
        have HD:=As hD
        have hm5 : X.mem.length = 5:=by obtain ⟨C',hi⟩:=HINV.out;exact hi.mlen
        have HM5:=As hm5
        have HGM : Ac (geo X.mem):=⟨by obtain ⟨C',hi⟩:=HINV.out;exact Aw hi.Fz⟩
        clear hv hX hvv hcl hX1 hC hD hm5
        go_wp2
        obtain ⟨w4,hw4⟩ : ∃ w4,wo.alloc (Obj.cells #[.int .i64 v.kind, .int .i64 v.tx, .int .i64 v.page, .int .i64 v.slot, .int .i64 v.n, .slice A2 v.vals.length c2] 35) = w4:=⟨_,rfl⟩
        rw [hw4]
        have HP4 : Ac (PtA w w2 w4 gO cap w3.heap.size (.slice Ed' X.disk.length m1) (.slice Em' X.mem.length m2) (.slice El' X.log.length m3) X (tL C)):=⟨by rw [← hw4];exact HP.out.below (Ah (Below.refl _ _) _)⟩
        have HV4 : Ac (EvBox w4 wo.heap.size v A2 c2):=⟨by rw [← hw4];exact EvBox.mk1 _ _ _ _⟩
        have HN4:=As HP.out.size
        clear hw4 z0 z1 z2 z3 z4 z5
        go_loopw [7] (fun p wr => ∃ j : Nat,j ≤ 5 ∧ p = .int .i64 (j : Int) ∧ Ac (PtA w w2 wr gO cap w3.heap.size (.slice Ed' X.disk.length m1) (.slice Em' X.mem.length m2) (.slice El' X.log.length m3) X (tM C D j)) ∧ Ac (EvBox wr wo.heap.size v A2 c2)) (fun p _ => (5 - intOf p).toNat)
        case atStart => exact ⟨0,by decide,rfl,⟨by rw [Ta];exact HP4.out⟩,HV4⟩
        case round =>
          obtain ⟨j,hj,rfl,HP,HVB⟩:=hrel
          have HRD:=As HP.out.own.toK.C
          have hq:=HP.out.box
          have hvb:=HVB.out
          have x0:=hq.c0
          have x1:=hq.c1
          have x2:=hq.c2
          have x3:=hq.c3
          have x4:=hq.c4
          have v0:=hvb.c0
          have v1:=hvb.c1
          have v2:=hvb.c2
          have v3:=hvb.c3
          have v4:=hvb.c4
          have v5:=hvb.c5
          clear hq hvb
          rcases BO v.kind 4 with ⟨e1,b1,c1⟩ | ⟨e1,b1,c1⟩
          · by_cases hlt5 : j < 5
            · have hj5 : (j : Int) < 5:=by omega
              have hjm : (j : Int) < (X.mem.length : Int):=by rw [HM5.out];omega
              have HLOG : Ac (AP X.log = true):=⟨by obtain ⟨C',hi⟩:=HINV.out;exact hi.core.log⟩
              obtain ⟨BB,hBB⟩ : ∃ BB,G8 X.log (Aj X.log v.tx X.log.length) (j : Int) = BB:=⟨_,rfl⟩
              have HHAS:=As hBB
              have HTK : Ac (takes X v j = ((v.kind == 4) && (!X.down && (inB v.tx 1 3 && BB)))):=⟨by rw [← hBB];rfl⟩
              clear hBB
              cases hd : X.down
              rotate_left
              have HTF:=As (show ¬ takes X v j = true by rw [HTK.out,b1,hd];simp)
              rotate_left
              cases hi : inB v.tx 1 3
              have HTF:=As (show ¬ takes X v j = true by rw [HTK.out,b1,hd,hi];simp)
              rotate_left
              cases BB
              have HTF:=As (show ¬ takes X v j = true by rw [HTK.out];simp)
              rotate_left
              · have HTT:=As (show takes X v j = true by rw [HTK.out,b1,hd,hi];rfl)
                obtain ⟨bd,A3,c3',rfl,QP, -,g2⟩:=EP HRD.out.m j (by rw [HM5.out];exact hlt5)
                obtain ⟨p0,p1,p2⟩:=QP
                have HG:=As g2
                obtain ⟨OK,hok,hop⟩:=HP.out.out
                have HOK:=As hok
                have HOP:=As hop
                clear g2 hok hop
                go_wp2_with (first
                  | (go_at_call 55;refine (BL v.tx 1 3 wr).mono ?_;rintro x w5 ⟨rfl,rfl⟩)
                  | (go_at_call 56;refine (JC (c:=m3) HHAS.out (Below.refl wr.heap.size wr) HRD.out.l HLOG.out).mono ?_;rintro x w5 ⟨rfl,rfl⟩)
                  | (go_at_call 57;refine (Eu (by rw [EW HGM.out hlt5];decide) (Below.refl wr.heap.size wr) HG.out).mono ?_;rintro x w6 ⟨u,rfl,hu,hb6⟩;have HU:=As hu;have HW6:=As hb6;clear x0 x1 x2 x3 x4 v0 v1 v2 v3 v4 v5 p0 p1 p2 hu hb6)
                  | (with_reducible refine MP (.store 81 (.tmp 57) (.tmp 56)) rfl ?_;refine Gi (ok:=OK) (w0:=w) (N:=wr.heap.size) (q:=pg X.mem j) j (Jm C D j) rfl rfl (.tmp 57) (.tmp 56) rfl rfl rfl HU.out HP.out.bel.size (Kd.DC HOP.out HW6.out) hlt5 (bj HP.out.bel HW6.out) ?_;intro w9 hO9 hB9 hg9;have hp9:=(HP.out.below HW6.out).stored HU.out HP.out.size (HOK.out.up HW6.out) hO9 hB9 hg9;have HV9:=As ((HVB.out.up HW6.out).kept (Ij hg9) (by have:=HP.out.lo;have:=HN4.out;omega));have HP9:=As hp9;obtain ⟨ok9, -,ho9⟩:=hp9.out;obtain ⟨oki,uu, -, -, -,⟨s0, -, -⟩,hfr, -⟩:=NH ho9 hlt5;have f0:=hfr 0;simp only [Nat.add_zero] at f0;clear hO9 hB9 hg9 hp9 hfr ho9))
                go_roundw
                case rel => exact ⟨j + 1,by omega,by go_num,⟨by have h:=HP9.out.zero hlt5;rw [UX hlt5 (by rw [← HD.out];exact true_tk HTT.out)] at h;exact h⟩,⟨HV9.out.kept (IQ _ _ _ _) (by have:=HP9.out.lo;have:=HN4.out;omega)⟩⟩
                case measure => simp [intOf];omega
              all_goals
                have HDJ:=As (show D j = C j by rw [← HD.out];exact SX HTF.out)
                go_wp2_with (first
                  | (go_at_call 55;refine (BL v.tx 1 3 wr).mono ?_;rintro x w5 ⟨rfl,rfl⟩)
                  | (go_at_call 56;refine (JC (c:=m3) HHAS.out (Below.refl wr.heap.size wr) HRD.out.l HLOG.out).mono ?_;rintro x w5 ⟨rfl,rfl⟩))
                go_roundw
                case rel => exact ⟨j + 1,by omega,by go_num,⟨by rw [Tc HDJ.out];exact HP.out⟩,HVB⟩
                case measure => simp [intOf];omega
            · have HJ:=As (show tM C D j = tL D by rw [show j = 5 by omega,Td])
              have hj5 : ¬ (j : Int) < 5:=by omega
              go_wp2_with (first
                | (go_at_call 33;refine (TG (c:=c2) v HINV.out HP.out HV.out).mono ?_;rw [HX1.out];rintro x w5 ⟨ud,um,ul,rfl,hp5⟩;obtain ⟨Fd,k1,Fm,k2,Fl,k3,rfl,rfl,rfl, -, -⟩:=hp5.own.reads;have HP5:=As hp5;clear x0 x1 x2 x3 x4 v0 v1 v2 v3 v4 v5;have y0:=hp5.box.c0;have y1:=hp5.box.c1;have y2:=hp5.box.c2;have y3:=hp5.box.c3;have y4:=hp5.box.c4;have f0:=hp5.box.frz 0;have f1:=hp5.box.frz 1;have f2:=hp5.box.frz 2;have f3:=hp5.box.frz 3;have f4:=hp5.box.frz 4;clear hp5))
              go_roundw
              case rel => exact ⟨k + 1,by omega,by go_num,_,_,_,⟨by rw [HT.out,HT2.out, ← HJ.out];exact HP5.out.XQ⟩⟩
              case measure => simp [intOf];omega
          · have HJ:=As (show tM C D j = tL D by rw [← HD.out];exact Xb e1.out)
            go_wp2_with (first
              | (go_at_call 33;refine (TG (c:=c2) v HINV.out HP.out HV.out).mono ?_;rw [HX1.out];rintro x w5 ⟨ud,um,ul,rfl,hp5⟩;obtain ⟨Fd,k1,Fm,k2,Fl,k3,rfl,rfl,rfl, -, -⟩:=hp5.own.reads;have HP5:=As hp5;clear x0 x1 x2 x3 x4 v0 v1 v2 v3 v4 v5;have y0:=hp5.box.c0;have y1:=hp5.box.c1;have y2:=hp5.box.c2;have y3:=hp5.box.c3;have y4:=hp5.box.c4;have f0:=hp5.box.frz 0;have f1:=hp5.box.frz 1;have f2:=hp5.box.frz 2;have f3:=hp5.box.frz 3;have f4:=hp5.box.frz 4;clear hp5))
            go_roundw
            case rel => exact ⟨k + 1,by omega,by go_num,_,_,_,⟨by rw [HT.out,HT2.out, ← HJ.out];exact HP5.out.XQ⟩⟩
            case measure => simp [intOf];omega
      · have HT:=As (Qn (vs:=vs) (k:=k) (by omega) h40)
        go_wp2
        go_ret
        obtain ⟨OK, -,hop⟩:=HP.out.out
        exact ⟨_,rfl,by rw [HT.out];exact Kd.DN hop (fun _ _ => trivial),HP.out.bel⟩
end Go.Proofs.YtpjmlpmhgfghbaaGreat
/- The statement FnExactPlayTrue, walked. -/
namespace Go.Proofs.YtpjmlpmhgfghbaaGreat
open Go.RowKit Go.Proofs.YtpjmlpmhgfghbaaGreatW.PrintWords Go.Proofs.YtpjmlpmhgfghbaaGreatW.PrintLast Go.Proofs.YtpjmlpmhgfghbaaGreatW.PrintMore
theorem E9.toK {w : World} {b : Nat} {v : Value} {ps : List Page} (h : E9 w b v ps) : OwnPk w b (fun k => b ≤ k ∧ k < w.heap.size) v ps:=Kd.DN (Kd.Fv h) (fun k hk => ⟨hk.2.1,hk.2.2.1⟩)
theorem Qm (vs : List Evt) (h40 : vs.length ≤ 40) : ∀ k,k ≤ vs.length → ∀ q,q < 5 → (Gb Da (fun _ => newP) (vs.take k) q).vals.length = 3
  | 0,_,_,_ => by rw [List.take_zero];rfl
  | k + 1,hk,q,hq => by
    rw [Lx (by omega),Iz,trueE_k]
    split
    · obtain ⟨C,hi⟩:=Sd vs k (by omega)
      exact EW (Aw hi.Fz) hq
    · exact Qm vs h40 k (by omega) q hq
theorem VE (vs : List Evt) : (Jk vs).length ≤ 1048576 ∧ ∀ p ∈ Jk vs,p.vals.length ≤ 1048576:=by
  unfold Jk
  split
  · exact ⟨by simp,fun p hp => by cases hp⟩
  · refine ⟨by rw [RD];decide,fun p hp => ?_⟩
    obtain ⟨q,hq,rfl⟩:=List.mem_map.1 hp
    have:=Qm vs (by omega) vs.length (Nat.le_refl _) q (List.mem_range.1 hq)
    rw [List.take_length] at this
    rw [this]
    decide
set_option maxRecDepth 100000 in
set_option maxHeartbeats 16000000 in
theorem Jd {w0 w : World} {A : Option Addr} {c : Nat} {vs : List Evt} (hb : Below w0.heap.size w0 w) (hr : Kd.C Ik w0 A vs.length vs) : Calls Tryz.prog 5 #[.slice A vs.length c] w (Mk w):=by
  have HR:=As (Bu hr hb)
  clear hr hb
  obtain ⟨z,hz⟩ : ∃ z,szV vs 1048576 = z:=⟨_,rfl⟩
  have HZ:=As hz
  clear hz
  rcases lts z 0 with ⟨e1,b1,c1⟩ | ⟨e1,b1,c1⟩
  · go_enter Tryz.func5,Tryz.ntmps5
    go_wp2_with (first | (go_at_call 19;refine (Jo (c:=c) 1048576 (by decide) (by decide) (Below.refl w.heap.size w) HR.out).mono ?_;rw [HZ.out];rintro x w2 ⟨rfl,hb2⟩;have HB2:=As hb2;clear hb2))
    go_ret
    exact ⟨rfl,HB2.out⟩
  · have HF:=As (WK (vs:=vs) (by rw [HZ.out];have:=e1.out;omega))
    have HFE0 : cntP (Jk vs) ≤ 2000000000000:=VK (VE vs)
    obtain ⟨T,hT⟩ : ∃ T,Jk vs = T:=⟨_,rfl⟩
    rw [hT] at HFE0
    have HFE:=As (show (1 : Int) + cntP T ≤ 8000000000000000000 by omega)
    have HE:=As hT
    have hk1 : decide (1 + (Mc vs vs.length : Int) < 0) = false:=by simp;omega
    have hk2 : decide (1 + (cntP T : Int) < 0) = false:=by simp;omega
    have hk3 : ((1 + (cntP T : Int)) != (1 + (cntP T : Int))) = false:=by simp
    clear hT HFE0
    go_enter Tryz.func5,Tryz.ntmps5
    go_wp2_with (first
      | (go_at_call 19;refine (Jo (c:=c) 1048576 (by decide) (by decide) (Below.refl w.heap.size w) HR.out).mono ?_;rw [HZ.out];rintro x w2 ⟨rfl,hb2⟩;have HB2:=As hb2;clear hb2)
      | (go_at_call 21;refine (F9 HF.out HB2.out HR.out).mono ?_;rintro x w3 ⟨u,rfl,ho,hb3⟩;obtain ⟨B1,d1,rfl, -,hc⟩:=Kd.Cn ho;have HC3:=As hc;have HB3:=As (bj HB2.out hb3);clear HB2 ho hb3 hc)
      | (go_at_call 20;refine (Kw (c:=d1) (Below.refl w3.heap.size w3) HC3.out).mono ?_;rw [HE.out];rintro x w5 ⟨v,rfl,ho,hb4⟩;obtain ⟨J,j1_,rfl, -,hc⟩:=Kd.Cn ho;have HS5:=As hc;have HB5:=As (bj HB3.out hb4);clear HB3 HC3 ho hb4 hc)
      | (go_at_call 21;refine (F9 HF.out HB5.out HR.out).mono ?_;rintro x w6 ⟨u,rfl,ho,hb6⟩;obtain ⟨X1,x1_,rfl, -,hc⟩:=Kd.Cn ho;have HC6:=As hc;have HX6:=As (Rt.toK ho);have HT6:=As hb6;have HN6:=As hb6.size;clear ho hb6 hc)
      | (go_at_call 22;refine (JI (c:=x1_) (Below.refl w6.heap.size w6) HC6.out).mono ?_;rw [HE.out];rintro x w8 ⟨v,rfl,ho,hb7⟩;obtain ⟨G,g1_,rfl, -,hc⟩:=Kd.Cn ho;have HG8:=As (E9.toK ho);have HC8:=As hc;have HXC8:=As (Bu HC6.out hb7);have HX8:=As (Kd.Br HX6.out hb7);have HT8:=As (bj HT6.out hb7);clear HC6 HX6 HT6 ho hb7 hc)
      | (go_at_call 23;refine (Hw (c:=g1_) (d:=j1_) (Below.refl w8.heap.size w8) HC8.out HT8.out HS5.out).mono ?_;rintro x w9 ⟨rfl,hb9⟩;have HG9:=As (Kd.Br HG8.out hb9);have HXC9:=As (Bu HXC8.out hb9);have HX9:=As (Kd.Br HX8.out hb9);have HT9:=As (bj HT8.out hb9);clear HG8 HC8 HXC8 HX8 HT8 hb9)
      | (go_at_call 21;refine (F9 HF.out (bj HB5.out HT9.out) HR.out).mono ?_;rintro x w10 ⟨u,rfl,ho,hb10⟩;obtain ⟨Y1,y1_,rfl, -,hc⟩:=Kd.Cn ho;have HC10:=As hc;have HG10:=As (Kd.Br HG9.out hb10);have HXC10:=As (Bu HXC9.out hb10);have HX10:=As (Kd.Br HX9.out hb10);have HT10:=As (bj HT9.out hb10);clear HG9 HXC9 HX9 HT9 ho hb10 hc)
      | (go_at_call 24;refine (NY (c:=x1_) (d:=y1_) (Below.refl w10.heap.size w10) HXC10.out (Below.refl w10.heap.size w10) HC10.out).mono ?_;rintro x w11 ⟨rfl,hb11⟩;have HG11:=As (Kd.Br HG10.out hb11);have HX11:=As (Kd.Br HX10.out hb11);have HT11:=As (bj HT10.out hb11);clear HC10 HG10 HXC10 HX10 HT10 hb11)
      | (go_at_call 25;refine (Md 1 (by decide) (by decide) HF.out HX11.out).mono ?_;rintro x w12 ⟨rfl,hw⟩;have HT12:=As (HT11.out.trans (hw.bel (N:=w5.heap.size) (fun m hm => hm.1) HT11.out.size));have HG12:=As (Kd.Q6 HG11.out hw.kept (fun m hm hn => by have h1:=hm.1;have h2:=hn.2;omega));clear HG11 HX11 HT11 hw)
      | (go_at_call 23;obtain ⟨G',g',hv, -,hc⟩:=Kd.Cn HG12.out;injection hv with h1 h2 h3;subst h1 h3;refine (Hw (c:=g1_) (d:=j1_) (Below.refl w12.heap.size w12) hc HT12.out HS5.out).mono ?_;clear hc;rintro x w13 ⟨rfl,hb13⟩;have HG13:=As (Kd.Br HG12.out hb13);have HT13:=As (bj HT12.out hb13);clear HG12 HT12 hb13)
      | (go_at_call 26;refine (Nb 1 (by decide) HFE.out HG13.out).mono ?_;rintro x w14 ⟨rfl,hm,hw⟩;have hn6:=HN6.out;have HT14:=As (HT13.out.trans (hw.bel (N:=w5.heap.size) (fun m hm => by have h1:=hm.1;omega) HT13.out.size));have HC14 : Ac (Kd.C Dn w14 G T.length (mkPs T 1)):=⟨by obtain ⟨G',g',hv, -,hc⟩:=Kd.Cn hm;injection hv with h1 h2 h3;subst h1;rw [QG] at hc;exact hc⟩;clear HG13 HT13 hn6 hw hm)
      | (go_at_call 27;refine (J8 1 (by decide) HFE.out (Below.refl w14.heap.size w14) HC14.out).mono ?_;rintro x w15 ⟨rfl,rfl⟩)
      | (go_at_call 21;refine (F9 HF.out (bj HB5.out HT14.out) HR.out).mono ?_;rintro x w16 ⟨u,rfl,ho,hb16⟩;obtain ⟨Z1,z1_,rfl, -,hc⟩:=Kd.Cn ho;have HC16:=As hc;have HU16:=As hb16;clear ho hb16 hc)
      | (go_at_call 22;refine (JI (c:=z1_) (Below.refl w16.heap.size w16) HC16.out).mono ?_;rw [HE.out];rintro x w18 ⟨v,rfl,ho,hb17⟩;obtain ⟨H,h1_,rfl, -,hc⟩:=Kd.Cn ho;have HC18:=As hc;have HU18:=As (bj HU16.out hb17);clear HU16 HC16 ho hb17 hc)
      | (go_at_call 23;refine (Hw (c:=h1_) (d:=j1_) (Below.refl w18.heap.size w18) HC18.out (bj HT14.out HU18.out) HS5.out).mono ?_;rintro x w19 ⟨rfl,hb19⟩;have HU19:=As (bj HU18.out hb19);clear HC18 HU18 hb19)
      | (go_at_call 27;refine (J8 1 (by decide) HFE.out HU19.out HC14.out).mono ?_;rintro x w20 ⟨rfl,hw20⟩;have HB20:=As (show Below w.heap.size w w20 by rw [hw20];exact bj HB5.out (bj HT14.out HU19.out));clear hw20))
    go_ret
    exact ⟨rfl,HB20.out⟩
open Go.RowKit Go.Proofs.YtpjmlpmhgfghbaaGreatW.PrintWords Go.Proofs.YtpjmlpmhgfghbaaGreatW.PrintLast Go.Proofs.YtpjmlpmhgfghbaaGreatW.PrintMore Go.ChangeShapes Go.WideShapes Go.Deep
section
variable {H : Type} {enc : TypeId × Value → H} {P : Program} {w : World} {spare : Nat → Bool} {held : Bool}
/-- Whatever is read at this type has cells of this kind. -/
def Opens (P : Program) (enc : TypeId × Value → H) (w : World) (spare : Nat → Bool) (held : Bool) {α : Type} (d : Kd α) (t : TypeId) : Prop:=
  ∀ fuel cs x,DataW.trod enc P w 0 spare held fuel t cs = some x → ∃ a,d.K w a cs
theorem OU {t : TypeId} {k : IntKind} (ht : P.underlying t = some (.int k)) : Opens P enc w spare held (Kd.int k) t:=by
  intro fuel cs x h
  obtain ⟨n,rfl, -⟩:=DataW.trod_int ht h
  exact ⟨n,rfl⟩
theorem VL {a : Addr} {n : Nat} {cs : List Value} (h : w.cells? 0 a n = some cs) (i : Nat) (u : Value) (hi : cs[i]? = some u) : w.cell? (a.add i) = some u:=by
  unfold World.cells? at h
  rw [if_pos (Nat.zero_le _)] at h
  have hl:=mapM_some_length h
  have hlt : i < n:=by have:=(List.getElem?_eq_some_iff.1 hi).1;simp at hl;omega
  rw [mapM_some_get h i i (by simp [hlt]),hi]
theorem MI {α : Type} {d : Kd α} {t e : TypeId} (ht : P.underlying t = some (.slice e)) (hsz : P.cellsOf e = d.sz) (hd : Opens P enc w (fun _ => true) held d e) : Opens P enc w (fun _ => true) held (Kd.slice e d) t:=by
  intro fuel cs x h
  rcases open_slice ht h with ⟨rfl, -⟩ | ⟨a,len,cap,m,n,D,Pl,rfl, -,hl,hc,hm, -,hel⟩
  · exact ⟨[],none,0,rfl,Nat.le_refl _,rfl,by simp,fun h0 => by simp at h0⟩
  · rw [if_pos rfl] at hm
    subst hm
    have key : ∀ j,j ≤ len → ∃ xs : List α,xs.length = j ∧ ∀ i p,xs[i]? = some p → ∃ c,c.length = d.sz ∧ d.K w p c ∧ ∀ k u,c[k]? = some u → w.cell? (a.add (i * d.sz + k)) = some u:=by
      intro j
      induction j with
      | zero => exact fun _ => ⟨[],rfl,fun i p hp => by simp at hp⟩
      | succ j ih =>
        intro hj
        obtain ⟨xs,h1,h2⟩:=ih (by omega)
        obtain ⟨cs',h3,h4⟩:=hel j (by omega)
        obtain ⟨p,hp⟩:=hd _ _ _ h4
        refine ⟨xs ++ [p],by simp [h1],fun i q hq => ?_⟩
        by_cases hi : i < j
        · exact h2 i q (by rwa [List.getElem?_append_left (by omega)] at hq)
        · have hlt:=(List.getElem?_eq_some_iff.1 hq).1
          have hij : i = j:=by simp [h1] at hlt;omega
          subst hij
          rw [List.getElem?_append_right (by omega),h1,Nat.sub_self] at hq
          cases hq
          refine ⟨cs',d.K_len hp,hp,fun k u hk => ?_⟩
          rw [hsz] at h3
          rw [← Go.Deep.add_add]
          exact VL h3 k u hk
    obtain ⟨xs,h1,h2⟩:=key len (Nat.le_refl _)
    exact ⟨xs,some a,m,by rw [h1],by rw [h1];exact hl,rfl,by rw [h1];have : maxLen = 9223372036854775807:=rfl;omega,fun _ => ⟨a,rfl,h2⟩⟩
theorem Oa {t : TypeId} {fs : Array Field} {fuel : Nat} {cs : List Value} {x : DataW H × List MemPlace} (ht : P.underlying t = some (.struct fs)) (h : DataW.trod enc P w 0 spare held fuel t cs = some x) :
    cs.length = P.cellsOf t ∧ ∃ n, ∀ (i : Nat) (f : Field),fs[i]? = some f → ∃ y,DataW.trod enc P w 0 spare held n f.type ((cs.drop f.offset).take (P.cellsOf f.type)) = some y:=by
  obtain ⟨xs,n, -, -,hl,hx,hf⟩:=DataW.trod_struct ht h
  refine ⟨hl,n,fun i f hi => ?_⟩
  have hlt : i < xs.length:=by rw [hx];exact (Array.getElem?_eq_some_iff.1 hi).1
  exact ⟨_,(hf i f hi).trans (List.getElem?_eq_getElem hlt)⟩
end
section
variable {H : Type} {enc : TypeId × Value → H} {w : World} {held : Bool}
theorem NT {n : Nat} {u : Value} {y : DataW H × List MemPlace} {spare : Nat → Bool} (h : DataW.trod enc Tryz.prog w 0 spare held n 3 [u] = some y) : ∃ a : Int,u = .int .i64 a:=by
  obtain ⟨a,ha⟩:=OU Tryz.underlying3 _ _ _ h
  exact ⟨a,by injection ha⟩
theorem ints_at {n : Nat} {u : Value} {y : DataW H × List MemPlace} (h : DataW.trod enc Tryz.prog w 0 (fun _ => true) held n 33 [u] = some y) : ∃ A xs c,u = .slice A (List.length xs) c ∧ xs.length ≤ c ∧ (Kd.int .i64).C w A xs.length xs:=by
  obtain ⟨xs,A,c,he,h1,h2⟩:=MI (d:=Kd.int .i64) Tryz.underlying33 (by kernel_rfl) (OU Tryz.underlying3) _ _ _ h
  exact ⟨A,xs,c,by injection he,h1,h2⟩
end
end Go.Proofs.YtpjmlpmhgfghbaaGreat
/- laws.FnExactPlayTrue: whatever the events, it returns true, and the events read as they did. -/
namespace Go.Proofs.YtpjmlpmhgfghbaaGreat
open Go.RowKit Go.Proofs.YtpjmlpmhgfghbaaGreatW.PrintWords Go.Proofs.YtpjmlpmhgfghbaaGreatW.PrintLast Go.Proofs.YtpjmlpmhgfghbaaGreatW.PrintMore Go.ChangeShapes Go.WideShapes Go.Deep
theorem WC (w : World) (x : Evt) {A : Option Addr} {c : Nat} (l2 : x.vals.length ≤ c) (g2 : (Kd.int .i64).C w A x.vals.length x.vals) : Ik.K w x [.int .i64 x.kind, .int .i64 x.tx, .int .i64 x.page, .int .i64 x.slot, .int .i64 x.n, .slice A x.vals.length c]:=⟨[.int .i64 x.kind], [.int .i64 x.tx, .int .i64 x.page, .int .i64 x.slot, .int .i64 x.n, .slice A x.vals.length c],rfl,rfl,⟨[.int .i64 x.tx], [.int .i64 x.page, .int .i64 x.slot, .int .i64 x.n, .slice A x.vals.length c],rfl,rfl,⟨[.int .i64 x.page], [.int .i64 x.slot, .int .i64 x.n, .slice A x.vals.length c],rfl,rfl,⟨[.int .i64 x.slot], [.int .i64 x.n, .slice A x.vals.length c],rfl,rfl,⟨[.int .i64 x.n], [.slice A x.vals.length c],rfl,rfl,⟨A,c,rfl,l2,g2⟩⟩⟩⟩⟩⟩
set_option maxRecDepth 100000 in
theorem QB {H : Type} {enc : TypeId × Value → H} {w : World} {held : Bool} : Opens Tryz.prog enc w (fun _ => true) held Ik 76:=by
  intro fuel cs x h
  obtain ⟨hl,n,hf⟩:=Oa Tryz.underlying76 h
  have hl3 : cs.length = 6:=hl.trans (by kernel_rfl)
  match cs,hl3 with
  | [u0,u1,u2,u3,u4,u5],_ =>
    obtain ⟨y0,h0⟩:=hf 0 _ rfl
    obtain ⟨y1,h1⟩:=hf 1 _ rfl
    obtain ⟨y2,h2⟩:=hf 2 _ rfl
    obtain ⟨y3,h3⟩:=hf 3 _ rfl
    obtain ⟨y4,h4⟩:=hf 4 _ rfl
    obtain ⟨y5,h5⟩:=hf 5 _ rfl
    obtain ⟨a0,rfl⟩:=NT (u:=u0) h0
    obtain ⟨a1,rfl⟩:=NT (u:=u1) h1
    obtain ⟨a2,rfl⟩:=NT (u:=u2) h2
    obtain ⟨a3,rfl⟩:=NT (u:=u3) h3
    obtain ⟨a4,rfl⟩:=NT (u:=u4) h4
    obtain ⟨A,xs,c,rfl,h6,h7⟩:=ints_at (u:=u5) h5
    exact ⟨⟨a0,a1,a2,a3,a4,xs⟩,WC w ⟨a0,a1,a2,a3,a4,xs⟩ h6 h7⟩
end Go.Proofs.YtpjmlpmhgfghbaaGreat
namespace Go.Proofs.YtpjmlpmhgfghbaaGreat.fnExactPlayTrue
open Go.ChangeShapes Go.WideShapes Go.ChangeAt Go.RowKit Go.Proofs.YtpjmlpmhgfghbaaGreat
theorem own : ownKnob Tryz.prog.godebug = none:=by kernel_rfl
theorem laidOut : laidOutB Tryz.prog = true:=by kernel_rfl
set_option maxRecDepth 100000 in
theorem lifted (os : Os) (started : os.Started) (H : Type) (enc : TypeId × Value → H) :
    ReturnsInHanded {} Tryz.checked os 5 .any (Rows.fnExactPlayTrueSpec.pre6 enc Tryz.prog Tryz.f5 Rows.fnExactPlayTrueRow.domain false) (Rows.fnExactPlayTrueSpec.post enc Tryz.prog Tryz.f5 false true false false):=by
  refine returnsInHanded_of_change_sized (C:=Tryz.checked) own started (by kernel_rfl) Tryz.func5
    (ChangeSpec.witness6 (enc:=enc) (C:=Tryz.checked) false ⟨#[],#[.slice none 0 0], []⟩ 8 (by kernel_rfl) (by kernel_rfl) (by kernel_rfl) (by kernel_rfl)) ?_
  intro W base args ds gs before hval0 hW hcnd hsz0 _
  have hval : ∀ (j : Nat) t v,Tryz.f5.params[j]? = some t → args[j]? = some v → Value.okWide Tryz.prog W .any base t v:=hval0
  have hW':=hW
  obtain ⟨p,q,hA0,hV,rfl,hfz,hnd⟩:=hW
  have hA : DataW.TrodAll enc Tryz.prog W 0 (fun _ => true) true Tryz.f5.params.toList args.toList ds p:=hA0
  rw [Tryz.params5] at hA hval
  obtain ⟨v0,vs0,d0,ds0,p0,q0,hargs,rfl,rfl,h0,r0⟩:=trodAll_cons hA
  obtain ⟨rfl,rfl,rfl⟩:=trodAll_nil r0
  obtain rfl : args = #[v0]:=by cases args;simp_all
  obtain ⟨rfl,rfl⟩:=trodVars_none hV
  have k0:=h0
  have lt0 : ∀ x ∈ p0,x.block < W.heap.size:=by obtain ⟨m,hm⟩:=k0;exact DataW.trod_lt m _ _ _ hm
  obtain ⟨a,len,cap,rfl⟩:=okWide_slice Tryz.underlying46 (hval 0 46 v0 rfl rfl)
  obtain ⟨fuel,hf⟩:=h0
  obtain ⟨xs,A,c,he,hcl,hr⟩:=MI (d:=Ik) Tryz.underlying46 (by kernel_rfl) QB _ _ _ hf
  obtain ⟨rfl,rfl,rfl⟩ : a = A ∧ len = xs.length ∧ cap = c:=by simpa [Value.cells] using he
  clear hA0 hval0 hsz0 hval hA
  refine (Jd (w0:=W) (Below.refl _ _) hr).mono fun e1 W' ⟨he1,bel⟩ => ?_
  subst he1
  exact ⟨_,rfl,_,_,_, [],_, [],hW',trodAll_mk1 (shut_bool Tryz.underlying4 _),(trodAll_cons_mk (Below.trod laidOut (by kernel_rfl) (of_decide_eq_true (by kernel_rfl)) k0 bel lt0) trodAll_mk0),rfl,bel.frame _,fun h => by cases h⟩
theorem k24b : (Rows.fnExactPlayTrueRow.lifted == Tryz.pinned.checked.prog.liftsFinal) = true:=by
  rw [show Tryz.pinned.checked.prog.liftsFinal = false from QY]
  rfl
theorem k24c : (Tryz.pinned.checked.prog.make == some Rows.fnExactPlayTrueRow.make) = true:=by
  rw [show Tryz.pinned.checked.prog.make = some Make.cut from Vo]
  rfl
set_option maxRecDepth 100000 in
set_option maxHeartbeats 8000000 in
theorem closed : joinedFacts Tryz.pinned.checked.prog 5 Tryz.f5 Rows.fnExactPlayTrueSpec Rows.fnExactPlayTrueRow = true:=by
  simp only [joinedFacts,Bool.and_eq_true]
  exact ⟨⟨⟨⟨⟨⟨⟨⟨⟨⟨⟨⟨⟨⟨⟨⟨⟨⟨⟨⟨⟨⟨⟨⟨⟨⟨⟨⟨⟨⟨⟨(by as_aux_lemma => kernel_rfl),(by as_aux_lemma => kernel_rfl)⟩,(by as_aux_lemma => kernel_rfl)⟩,(by as_aux_lemma => kernel_rfl)⟩,(by as_aux_lemma => kernel_rfl)⟩,(by as_aux_lemma => kernel_rfl)⟩,(by as_aux_lemma => kernel_rfl)⟩,(by as_aux_lemma => kernel_rfl)⟩,(by as_aux_lemma => kernel_rfl)⟩,(by as_aux_lemma => kernel_rfl)⟩,(by as_aux_lemma => kernel_rfl)⟩,(by as_aux_lemma => kernel_rfl)⟩,(by as_aux_lemma => kernel_rfl)⟩,(by as_aux_lemma => kernel_rfl)⟩,(by as_aux_lemma => kernel_rfl)⟩,(by as_aux_lemma => kernel_rfl)⟩,(by as_aux_lemma => kernel_rfl)⟩,(by as_aux_lemma => kernel_rfl)⟩,(by as_aux_lemma => kernel_rfl)⟩,(by as_aux_lemma => kernel_rfl)⟩,(by as_aux_lemma => kernel_rfl)⟩,(by as_aux_lemma => kernel_rfl)⟩,(by as_aux_lemma => kernel_rfl)⟩,(by as_aux_lemma => kernel_rfl)⟩,(by as_aux_lemma => kernel_rfl)⟩,Uw⟩,k24b⟩,k24c⟩,(by as_aux_lemma => kernel_rfl)⟩,(by as_aux_lemma => kernel_rfl)⟩,(by as_aux_lemma => kernel_rfl)⟩,(by as_aux_lemma => kernel_rfl)⟩
theorem over : Rows.fnExactPlayTrueRow.holds Tryz.pinned (OpenSpec.ofChange Rows.fnExactPlayTrueSpec):=
  OpenClaim.holds_of_wide 5 Tryz.f5 rfl rfl rfl rfl rfl rfl rfl ⟨rfl,rfl,rfl,rfl,rfl⟩ rfl rfl rfl rfl rfl (by kernel_rfl) Tryz.func5 closed
    (of_decide_eq_true (by kernel_rfl)) (by unfold Func.isWrapper;first | (rw [if_pos (by decide +kernel)];kernel_rfl) | (rw [if_neg (by decide +kernel)];exact ⟨rfl,rfl⟩))
    (fun os started H enc _ => lifted os started H enc)
theorem proved : Rows.FnExactPlayTrueSaid:=over
end Go.Proofs.YtpjmlpmhgfghbaaGreat.fnExactPlayTrue
namespace Go.Proofs.YtpjmlpmhgfghbaaGreat
/-- The row, under a short name, for the claim. -/
theorem fnExactPlayTrue_holds : Rows.FnExactPlayTrueSaid:=fnExactPlayTrue.proved
end Go.Proofs.YtpjmlpmhgfghbaaGreat
