/- A part of the proof: what the last text of the claim says leans on this one. -/
import Derived.Test.YtjeodgfkilhkhaaGreatZS1
set_option linter.unusedVariables false
set_option linter.unusedSimpArgs false
namespace Go.Proofs.YtjeodgfkilhkhaaGreat
open Go.RowKit Go.Proofs.YtjeodgfkilhkhaaGreatW.PrintWords Go.Proofs.YtjeodgfkilhkhaaGreatW.PrintLast Go.Proofs.YtjeodgfkilhkhaaGreatW.PrintMore
set_option maxRecDepth 100000 in
set_option maxHeartbeats 16000000 in
theorem DrawEngineForce_calls {w0 w : World} {A : Option Addr} {c : Nat} {xs : List Int} (hcap : xs.length ≤ c) (hx : Bytes xs) (hb : Below w0.heap.size w0 w) (hr : Kd.C (Kd.int .u8) w0 A xs.length xs) : Calls Tryz.prog 17 #[.slice A xs.length c] w (RetDF w):=by
 have HR:=As (BF hr hb)
 have HX:=As hx
 have HC:=As hcap
 have hmx:=(CY hr).2
 have K0 : True:=trivial
 clear hr hb hx hcap
 go_enter Tryz.func17,Tryz.ntmps17
 go_wp2_with (first | (clear K0;refine Ca (vd:=.slice none 0 0) (vm:=.slice none 0 0) (vl:=.slice none 0 0) zE ?_;intro w1 hb1 hz1 hq1;have HB1:=As hb1;have HZ:=As hq1;have HN:=As hz1;clear hb1 hz1 hq1;have K1 : True:=trivial) | (clear K1;go_at_call 31;refine (Wl HC.out hmx).mono ?_;rintro x w2 ⟨g,m,d,rfl,hg,hm2,hm,hq,hb2⟩;obtain ⟨ys,hys⟩ : ∃ ys,xs.take m = ys:=⟨_,rfl⟩;have hry:=Kd.Sw HR.out hm;have hxy:=HX.out.take m;rw [hys] at hm2 hq hry hxy;have HBY : A7 (By w A ys):=⟨⟨hm2,hxy,hry⟩⟩;have HG:=As (show w.heap.size < g by have:=HN.out;omega);have HZ:=As (HZ.out.up hb2);have HB2:=As (bj HB1.out hb2);have HQ:=As hq;clear hg hm2 hm hq hb2 hys hry hxy;have K2 : True:=trivial) | (clear K2;go_at_call 32;refine (l72Up_calls (wB:=w) (p:=0) (by decide) HBY.out HB2.out (Nat.le_of_lt HG.out) HQ.out).mono ?_;rintro x w3 ⟨E,B1,B2,B3,d1,d2,d3,rfl,hcp,hD,hfw,hF,⟨r,hr0,hr1,hrd⟩,hw⟩;have hgl:=HQ.out.lt;have HZ:=As (show Ab w3 w.heap.size zE OZ OZ OZ from (hw.kept.2 _ HZ.out.lt (by have:=HG.out;omega)).trans HZ.out);have HB3:=As (HB2.out.trans (hw.bel (fun k hk => by have hk : k = g:=hk;have:=HG.out;omega) HB2.out.size));have HF:=As hF;have HGL:=As (And.intro hgl hw.kept.1);have HD:=As (And.intro hcp (And.intro hfw hD));have HRD : A7 (∃ r,0 ≤ r ∧ r ≤ 13000 ∧ BZ w3 g A ys.length d r):=⟨⟨r,hr0,by omega,hrd⟩⟩;clear hcp hD hfw hF hr0 hr1 hrd hw hgl;have z0:=(HZ.out).c0;have z1:=(HZ.out).c1;have z2:=(HZ.out).c2;have z3:=(HZ.out).c3;have z4:=(HZ.out).c4;have g0:=(HZ.out).frz 0;have g1:=(HZ.out).frz 1;have g2:=(HZ.out).frz 2;have g3:=(HZ.out).frz 3;have g4:=(HZ.out).frz 4;have K3 : True:=trivial))
 have hy:=HZ.out.Ap E (.slice B1 E.disk.length d1) (.slice B2 E.mem.length d2) (.slice B3 E.log.length d3)
 have y0:=hy.c0
 have y1:=hy.c1
 have y2:=hy.c2
 have y3:=hy.c3
 have y4:=hy.c4
 exact bodyPost_ret (v:=Eng.val E B1 B2 B3 d1 d2 d3) (by simp [results,Tryz.results17,go_sem,y0,y1,y2,y3,y4]) rfl ⟨E,B1,B2,B3,d1,d2,d3,rfl,HD.out.1,HD.out.2.1,HD.out.2.2,(HF.out.Ap HZ.out E (.slice B1 E.disk.length d1) (.slice B2 E.mem.length d2) (.slice B3 E.log.length d3)).now,Aj HB3.out (Nat.le_refl _) E (.slice B1 E.disk.length d1) (.slice B2 E.mem.length d2) (.slice B3 E.log.length d3)⟩
set_option maxRecDepth 100000 in
set_option maxHeartbeats 16000000 in
theorem DrawEngineWrite_calls {w0 w : World} {A : Option Addr} {c : Nat} {xs : List Int} (hcap : xs.length ≤ c) (hx : Bytes xs) (hb : Below w0.heap.size w0 w) (hr : Kd.C (Kd.int .u8) w0 A xs.length xs) : Calls Tryz.prog 27 #[.slice A xs.length c] w (RetDN w):=by
 have HR:=As (BF hr hb)
 have HX:=As hx
 have HC:=As hcap
 have hmx:=(CY hr).2
 have K0 : True:=trivial
 clear hr hb hx hcap
 go_enter Tryz.func27,Tryz.ntmps27
 go_wp2_with (first | (clear K0;refine Ca (vd:=.slice none 0 0) (vm:=.slice none 0 0) (vl:=.slice none 0 0) zE ?_;intro w1 hb1 hz1 hq1;have HB1:=As hb1;have HZ:=As hq1;have HN:=As hz1;clear hb1 hz1 hq1;have K1 : True:=trivial) | (clear K1;go_at_call 31;refine (Wl HC.out hmx).mono ?_;rintro x w2 ⟨g,m,d,rfl,hg,hm2,hm,hq,hb2⟩;obtain ⟨ys,hys⟩ : ∃ ys,xs.take m = ys:=⟨_,rfl⟩;have hry:=Kd.Sw HR.out hm;have hxy:=HX.out.take m;rw [hys] at hm2 hq hry hxy;have HBY : A7 (By w A ys):=⟨⟨hm2,hxy,hry⟩⟩;have HG:=As (show w.heap.size < g by have:=HN.out;omega);have HZ:=As (HZ.out.up hb2);have HB2:=As (bj HB1.out hb2);have HQ:=As hq;clear hg hm2 hm hq hb2 hys hry hxy;have K2 : True:=trivial) | (clear K2;go_at_call 32;refine (l72Up_calls (wB:=w) (p:=0) (by decide) HBY.out HB2.out (Nat.le_of_lt HG.out) HQ.out).mono ?_;rintro x w3 ⟨E,B1,B2,B3,d1,d2,d3,rfl,hcp,hD,hfw,hF,⟨r,hr0,hr1,hrd⟩,hw⟩;have hgl:=HQ.out.lt;have HZ:=As (show Ab w3 w.heap.size zE OZ OZ OZ from (hw.kept.2 _ HZ.out.lt (by have:=HG.out;omega)).trans HZ.out);have HB3:=As (HB2.out.trans (hw.bel (fun k hk => by have hk : k = g:=hk;have:=HG.out;omega) HB2.out.size));have HF:=As hF;have HGL:=As (And.intro hgl hw.kept.1);have HD:=As (And.intro hcp (And.intro hfw hD));have HRD : A7 (∃ r,0 ≤ r ∧ r ≤ 13000 ∧ BZ w3 g A ys.length d r):=⟨⟨r,hr0,by omega,hrd⟩⟩;clear hcp hD hfw hF hr0 hr1 hrd hw hgl;have K3 : True:=trivial) | (clear K3;go_at_call 33;obtain ⟨r0,hr0,hr1,hr2⟩:=HRD.out;refine (Hw (wB:=w) hr0 (by omega) (by decide) (by decide) HBY.out.few HBY.out.all HB3.out (Nat.le_of_lt HG.out) HBY.out.C hr2).mono ?_;rintro x w4 ⟨k1,rfl,hk,hrd,hw⟩;obtain ⟨k10,k11⟩:=hk (by decide);obtain ⟨k1,rfl⟩:=Int.eq_ofNat_of_zero_le k10;have HRD : A7 (∃ r,0 ≤ r ∧ r ≤ 13001 ∧ BZ w4 g A ys.length d r):=⟨⟨r0 + 1,by omega,by omega,hrd⟩⟩;have HZ:=As (show Ab w4 w.heap.size zE OZ OZ OZ from (hw.kept.2 _ HZ.out.lt (by have:=HG.out;omega)).trans HZ.out);have HB3:=As (HB3.out.trans (hw.bel (fun k hk => by have hk : k = g:=hk;have:=HG.out;omega) HB3.out.size));have HF:=As (HF.out.wrote hw HGL.out.1);clear hr0 hr1 hr2 hk hrd hw k10;have K4 : True:=trivial) | (clear K4;go_at_call 33;obtain ⟨r0,hr0,hr1,hr2⟩:=HRD.out;refine (Hw (wB:=w) hr0 (by omega) (by decide) (by decide) HBY.out.few HBY.out.all HB3.out (Nat.le_of_lt HG.out) HBY.out.C hr2).mono ?_;rintro x w4 ⟨k2,rfl,hk,hrd,hw⟩;obtain ⟨k20,k21⟩:=hk (by decide);obtain ⟨k2,rfl⟩:=Int.eq_ofNat_of_zero_le k20;have HRD : A7 (∃ r,0 ≤ r ∧ r ≤ 13002 ∧ BZ w4 g A ys.length d r):=⟨⟨r0 + 1,by omega,by omega,hrd⟩⟩;have HZ:=As (show Ab w4 w.heap.size zE OZ OZ OZ from (hw.kept.2 _ HZ.out.lt (by have:=HG.out;omega)).trans HZ.out);have HB3:=As (HB3.out.trans (hw.bel (fun k hk => by have hk : k = g:=hk;have:=HG.out;omega) HB3.out.size));have HF:=As (HF.out.wrote hw HGL.out.1);clear hr0 hr1 hr2 hk hrd hw k20;have z0:=(HZ.out).c0;have z1:=(HZ.out).c1;have z2:=(HZ.out).c2;have z3:=(HZ.out).c3;have z4:=(HZ.out).c4;have g0:=(HZ.out).frz 0;have g1:=(HZ.out).frz 1;have g2:=(HZ.out).frz 2;have g3:=(HZ.out).frz 3;have g4:=(HZ.out).frz 4;have K5 : True:=trivial))
 have hy:=HZ.out.Ap E (.slice B1 E.disk.length d1) (.slice B2 E.mem.length d2) (.slice B3 E.log.length d3)
 have y0:=hy.c0
 have y1:=hy.c1
 have y2:=hy.c2
 have y3:=hy.c3
 have y4:=hy.c4
 exact bodyPost_ret (v:=.tuple #[Eng.val E B1 B2 B3 d1 d2 d3, .int .i64 _]) (by simp [results,Tryz.results27,go_sem,y0,y1,y2,y3,y4];rfl) rfl ⟨E,B1,B2,B3,d1,d2,d3,_,rfl,HD.out.1,HD.out.2.1,HD.out.2.2,(HF.out.Ap HZ.out E (.slice B1 E.disk.length d1) (.slice B2 E.mem.length d2) (.slice B3 E.log.length d3)).now,Aj HB3.out (Nat.le_refl _) E (.slice B1 E.disk.length d1) (.slice B2 E.mem.length d2) (.slice B3 E.log.length d3)⟩
end Go.Proofs.YtjeodgfkilhkhaaGreat
