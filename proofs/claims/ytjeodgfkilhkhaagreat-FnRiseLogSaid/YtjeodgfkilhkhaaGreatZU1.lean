/- A part of the proof: what the last text of the claim says leans on this one. -/
import Derived.Test.YtjeodgfkilhkhaaGreatZS1
set_option linter.unusedVariables false
set_option linter.unusedSimpArgs false
namespace Go.Proofs.YtjeodgfkilhkhaaGreat
open Go.RowKit Go.Proofs.YtjeodgfkilhkhaaGreatW.PrintWords Go.Proofs.YtjeodgfkilhkhaaGreatW.PrintLast Go.Proofs.YtjeodgfkilhkhaaGreatW.PrintMore
theorem fall_val_inj {E : Eng} {l l2 : Int} {B1 C2 C3 D2 D3 : Option Addr} {d1 e2 e3 i2 i3 : Nat} (h : (BL E l).val B1 C2 C3 d1 e2 e3 = (BL E l2).val B1 D2 D3 d1 i2 i3) : C2 = D2 ∧ e2 = i2 ∧ C3 = D3 ∧ (BL E l).log.length = (BL E l2).log.length ∧ e3 = i3:=by
 injection h with h
 injection h with h
 injection h with h1 h
 injection h with h2 h
 injection h with h3 h
 injection h2 with a b c
 injection h3 with a' b' c'
 exact ⟨a,c,a',b',c'⟩
theorem own_row6 (W : World) (a b c d e f : Int) : AA (W.alloc (.cells #[.int .i64 a, .int .i64 b, .int .i64 c, .int .i64 d, .int .i64 e, .int .i64 f] 3)) W.heap.size (.slice (some ⟨W.heap.size,0,none⟩) 6 6) [a,b,c,d,e,f]:=⟨rfl, .inr ⟨W.heap.size,6,#[.int .i64 a, .int .i64 b, .int .i64 c, .int .i64 d, .int .i64 e, .int .i64 f],rfl,Nat.le_refl _,(by show (W.heap.push _)[W.heap.size]? = _;simp),Nat.le_refl _,(by decide),rfl,rfl⟩⟩
set_option maxRecDepth 100000 in
set_option maxHeartbeats 8000000 in
theorem l21FallC_calls {w0 w : World} {e : Eng} {Ad Am Al : Option Addr} {cd cm cl : Nat} (left : Int) (hgd : geo e.disk) (hs0 : 0 ≤ e.safe) (hs1 : e.safe ≤ e.log.length) (hl : e.log.length ≤ 150) (hcl : e.log.length ≤ cl) (hb : Below w0.heap.size w0 w) (hr : Ff w0 e Ad Am Al) : Calls Tryz.prog 34 #[e.val Ad Am Al cd cm cl, .int .i64 left] w fun x w' => ∃ vm vl,x = .returned ((BL e left).ag (.slice Ad e.disk.length cd) vm vl) ∧ Aw w' w.heap.size OZ vm vl ⟨[],e.disk,(BL e left).log,e.safe,true⟩ ∧ Below w.heap.size w w':=by
 have hrd:=hr.up hb
 have hb : Below w.heap.size w w:=Below.refl _ _
 obtain ⟨w1,hw1⟩ : ∃ w1,w.alloc (e.obox (.slice Ad e.disk.length cd) (.slice Am e.mem.length cm) (.slice Al e.log.length cl)) = w1:=⟨_,rfl⟩
 obtain ⟨w2,hw2⟩ : ∃ w2,w1.alloc (zE.obox (.slice none 0 0) (.slice none 0 0) (.slice none 0 0)) = w2:=⟨_,rfl⟩
 have hz1 : w1.heap.size = w.heap.size + 1:=by rw [← hw1];exact BD _ _
 have hz2 : w2.heap.size = w.heap.size + 1 + 1:=by rw [← hw2,BD,hz1]
 have hb12 : Below w1.heap.size w1 w2:=by rw [← hw2];exact Aa (Below.refl _ _) _
 have hb02 : Below w.heap.size w w2:=by rw [← hw2, ← hw1];exact Aa (Aa (Below.refl _ _) _) _
 have HB2:=As hb02
 have HB:=As hb
 have HQ2 : A7 (Ab w2 w.heap.size e (.slice Ad e.disk.length cd) (.slice Am e.mem.length cm) (.slice Al e.log.length cl)):=⟨Ab.up (by rw [← hw1];exact Ab.mk1 _ _ _ _ _) hb12⟩
 have HP2 : A7 (Ab w2 (w.heap.size + 1) zE (.slice none 0 0) (.slice none 0 0) (.slice none 0 0)):=⟨by rw [← hw2, ← hz1];exact Ab.mk1 _ _ _ _ _⟩
 have HW2 : A7 ((w.alloc (e.obox (.slice Ad e.disk.length cd) (.slice Am e.mem.length cm) (.slice Al e.log.length cl))).alloc (zE.obox (.slice none 0 0) (.slice none 0 0) (.slice none 0 0)) = w2):=⟨by rw [hw1,hw2]⟩
 have HZ2:=As hz2
 have HD2:=As hrd.d
 have HL2:=As (BF hrd.l hb02)
 have HGD:=As hgd
 have hle:=Gw (left:=left) hs0 hs1
 obtain ⟨n,hn⟩ : ∃ n : Nat,Dj e left = n:=⟨_,rfl⟩
 rw [hn] at hle
 have hmax : max e.safe (min left (e.log.length : Int)) = (n : Int):=by rw [← hn];unfold Dj;omega
 have hncl : n ≤ cl:=by omega
 have hln : (e.log.take n).length = n:=by rw [List.length_take];omega
 have HLn:=As hln
 have HE:=As (show BL e left = ⟨e.disk,e.disk,e.log.take n,e.safe,true⟩ by rw [BL,hn])
 have HTK : A7 (Kd.C kRec w2 Al (e.log.take n).length (e.log.take n)):=⟨KD HL2.out (by omega)⟩
 have HN:=As (show n ≤ 150 by omega)
 have HWB:=As (bj hb hb02)
 have x0:=HQ2.out.c0
 have x2:=HQ2.out.c2
 have x3:=HQ2.out.c3
 clear hw1 hw2 hz1 hz2 hb12 hb02 hb hr hrd hgd hle hn hln hs0 hs1 hl
 go_enter Tryz.func34,Tryz.ntmps34
 go_wp2_with (first
  | ((with_reducible refine OE (.call { callee:=.builtin .append,args:=#[.tmp 5, .tmp 16],argTypes:=#[24,24] }) rfl ?_);go_loud (rw [show (w.alloc (Obj.cells #[Value.slice Ad e.disk.length cd,Value.slice Am e.mem.length cm,Value.slice Al e.log.length cl,Value.int IntKind.i64 e.safe,Value.bool e.down] 26)).alloc (Obj.cells #[Value.slice none 0 0,Value.slice none 0 0,Value.slice none 0 0,Value.int IntKind.i64 0,Value.bool false] 26) = w2 from HW2.out]);go_loud (refine GK (w0:=w2) (xs := []) (ys:=e.log.take n) (A:=Al) (c:=cl) rfl (.tmp 5) (.tmp 16) rfl rfl (by rw [HLn.out];rfl) (rs_empty HZ2.out.symm (Nat.le_refl _)) (BF HTK.out (Aa (Below.refl _ _) _)) (Aa (Below.refl _ _) _) (by rw [HLn.out];have:=HN.out;simp;omega) ?_);intro v1 w3 hO hb3 _;have hO : OwnRs w3 w2.heap.size v1 (e.log.take n):=hO;obtain ⟨Bl,dl,hv, -, -⟩:=Kd.D6 hO;rw [HLn.out] at hv;subst hv;have HO3:=As hO;have HB3:=As hb3;have hq3:=HQ2.out.up hb3;have hp3:=HP2.out.up hb3;have HQ3:=As hq3;have HP3:=As hp3;have f2:=hq3.frz 2;have x0':=hq3.c0;have x2':=hq3.c2;clear hO hb3 hq3 hp3 x0 x2 x3)
  | (go_at_call 68;obtain ⟨w4,hw4⟩ : ∃ w4,w3.setCell ⟨w.heap.size,2,none⟩ (.slice Bl n dl) = w4:=⟨_,rfl⟩;have hz2:=HZ2.out;have hn3:=HB3.out.size;have hq4 : Ab w4 w.heap.size e (.slice Ad e.disk.length cd) (.slice Am e.mem.length cm) (.slice Bl n dl):=(by rw [← hw4];exact HQ3.out.set2 _);have hp4 : Ab w4 (w.heap.size + 1) zE (.slice none 0 0) (.slice none 0 0) (.slice none 0 0):=(by rw [← hw4];exact HP3.out.far (by omega) _ _);have hl4 : OwnRs w4 w2.heap.size (.slice Bl n dl) (e.log.take n):=(by rw [← hw4];exact L9 HO3.out HQ3.out 2 _);have hb4 : Below w.heap.size w w4:=(by rw [← hw4];exact (bj HWB.out HB3.out).setCell (p:=⟨w.heap.size,2,none⟩) HB.out.size _);have hd4 : Kd.C CJ w4 Ad e.disk.length e.disk:=BF HD2.out hb4;obtain ⟨okd, -, -,hn4, -⟩:=(Hz w4 w.heap.size).ex;rw [hw4];refine (Cx (w0:=w4) (c:=cd) (ET HGD.out) (by have:=HGD.out.1;omega) (Below.refl _ _) hd4).mono ?_;rintro x w5 ⟨v,rfl,ho,hb5⟩;obtain ⟨Bm,dm,rfl, -, -⟩:=Kd.CV ho;have HO5:=As (Aw.Qm (s:=e.safe) (d:=true) hn4 ho hb5 hl4 hb4.size (Nat.le_trans (by rw [hz2];have:=HB.out.size;omega) (Nat.le_refl _)));have HB5:=As (bj hb4 hb5);have hq5:=hq4.up hb5;have hp5:=hp4.up hb5;have HQ5:=As hq5;have HP5:=As hp5;have x0:=hq5.c0;have x1:=hq5.c1;have x2:=hq5.c2;have x3:=hq5.c3;have x4:=hq5.c4;have g1:=hq5.frz 1;have g4:=hq5.frz 4;have y0:=hp5.c0;have y1:=hp5.c1;have y2:=hp5.c2;have y3:=hp5.c3;have y4:=hp5.c4;have f0:=hp5.frz 0;have f1:=hp5.frz 1;have f2:=hp5.frz 2;have f3:=hp5.frz 3;have f4:=hp5.frz 4;clear hw4 hz2 hn3 hq4 hp4 hd4 hn4 hl4 hb4 ho hb5 hq5 hp5 x0' x2'))
 have hgw:=HB.out.size
 have q1:=HQ5.out.set1 (.slice Bm e.disk.length dm)
 have r1:=(HO5.out.Dy HQ5.out 1 (.slice Bm e.disk.length dm)).Dy q1 4 (.bool true)
 have p1:=(HP5.out.far (b:=w.heap.size) (by omega) 1 (.slice Bm e.disk.length dm)).far (b:=w.heap.size) (by omega) 4 (.bool true)
 have b1:=(HB5.out.setCell (p:=⟨w.heap.size,1,none⟩) hgw (.slice Bm e.disk.length dm)).setCell (p:=⟨w.heap.size,4,none⟩) hgw (.bool true)
 have h1:=r1.Ap (f:=⟨e.disk,e.disk,e.log.take n,e.safe,true⟩) (xd:=.slice Ad e.disk.length cd) (xm:=.slice Bm e.disk.length dm) (xl:=.slice Bl n dl) p1
 have h2:=Aj (g:=w.heap.size + 1) b1 (by omega) ⟨e.disk,e.disk,e.log.take n,e.safe,true⟩ (.slice Ad e.disk.length cd) (.slice Bm e.disk.length dm) (.slice Bl n dl)
 have hy:=p1.Ap ⟨e.disk,e.disk,e.log.take n,e.safe,true⟩ (.slice Ad e.disk.length cd) (.slice Bm e.disk.length dm) (.slice Bl n dl)
 have z0:=hy.c0
 have z1:=hy.c1
 have z2:=hy.c2
 have z3:=hy.c3
 have z4:=hy.c4
 simp only at z0 z1 z2 z3 z4
 exact bodyPost_ret (v:=.agg #[.slice Ad e.disk.length cd, .slice Bm e.disk.length dm, .slice Bl n dl, .int .i64 e.safe, .bool true]) (by simp [results,Tryz.results34,go_sem,z0,z1,z2,z3,z4]) rfl ⟨_,_,by rw [HE.out],by rw [HE.out];exact h1,h2⟩
set_option maxRecDepth 100000 in
set_option maxHeartbeats 16000000 in
theorem DrawRiseUp_calls {w0 w : World} {A : Option Addr} {c : Nat} {xs : List Int} (hcap : xs.length ≤ c) (hx : Bytes xs) (hb : Below w0.heap.size w0 w) (hr : Kd.C (Kd.int .u8) w0 A xs.length xs) : Calls Tryz.prog 21 #[.slice A xs.length c] w (RetDU w):=by
 have HR:=As (BF hr hb)
 have HX:=As hx
 have HC:=As hcap
 have hmx:=(CY hr).2
 have K0 : True:=trivial
 clear hr hb hx hcap
 go_enter Tryz.func21,Tryz.ntmps21
 go_upto_region 3 with (first | (clear K0;refine Ca (vd:=.slice none 0 0) (vm:=.slice none 0 0) (vl:=.slice none 0 0) zE ?_;intro w1 hb1 hz1 hq1;have HB1:=As hb1;have HZ:=As hq1;have HN:=As hz1;clear hb1 hz1 hq1;have K1 : True:=trivial) | (clear K1;go_at_call 31;refine (Wl HC.out hmx).mono ?_;rintro x w2 ⟨g,m,d,rfl,hg,hm2,hm,hq,hb2⟩;obtain ⟨ys,hys⟩ : ∃ ys,xs.take m = ys:=⟨_,rfl⟩;have hry:=Kd.Sw HR.out hm;have hxy:=HX.out.take m;rw [hys] at hm2 hq hry hxy;have HBY : A7 (By w A ys):=⟨⟨hm2,hxy,hry⟩⟩;have HG:=As (show w.heap.size < g by have:=HN.out;omega);have HZ:=As (HZ.out.up hb2);have HB2:=As (bj HB1.out hb2);have HQ:=As hq;clear hg hm2 hm hq hb2 hys hry hxy;have K2 : True:=trivial) | (clear K2;go_at_call 32;refine (l72Up_calls (wB:=w) (p:=0) (by decide) HBY.out HB2.out (Nat.le_of_lt HG.out) HQ.out).mono ?_;rintro x w3 ⟨E,B1,B2,B3,d1,d2,d3,rfl,hcp,hD,hfw,hF,⟨r,hr0,hr1,hrd⟩,hw⟩;have hgl:=HQ.out.lt;have HZ:=As (show Ab w3 w.heap.size zE OZ OZ OZ from (hw.kept.2 _ HZ.out.lt (by have:=HG.out;omega)).trans HZ.out);have HB3:=As (HB2.out.trans (hw.bel (fun k hk => by have hk : k = g:=hk;have:=HG.out;omega) HB2.out.size));have HF:=As hF;have HGL:=As (And.intro hgl hw.kept.1);have HD:=As (And.intro hcp (And.intro hfw hD));have HRD : A7 (∃ r,0 ≤ r ∧ r ≤ 13000 ∧ BZ w3 g A ys.length d r):=⟨⟨r,hr0,by omega,hrd⟩⟩;clear hcp hD hfw hF hr0 hr1 hrd hw hgl;have K3 : True:=trivial))
 obtain ⟨w4,hw4⟩ : ∃ w4,w3.alloc (Obj.cells #[.slice B1 E.disk.length d1, .slice B2 E.mem.length d2, .slice B3 E.log.length d3, .int .i64 E.safe, .bool E.down] 26) = w4:=⟨_,rfl⟩
 rw [hw4]
 have hb4 : Below w3.heap.size w3 w4:=by rw [← hw4];exact Aa (Below.refl _ _) _
 have hq4 : Ab w4 w3.heap.size E (.slice B1 E.disk.length d1) (.slice B2 E.mem.length d2) (.slice B3 E.log.length d3):=by rw [← hw4];exact Ab.mk1 _ _ _ _ _
 have HS : A7 (Dw w w4 g A ys.length d 13000 w3.heap.size w2.heap.size E B1 B2 B3 d1 d2 d3):=⟨by obtain ⟨r,h1,h2,h3⟩:=HRD.out;have h4:=HGL.out;exact ⟨⟨r,h1,h2,h3.up hb4⟩,bj HB3.out hb4,HZ.out.up hb4,hq4,HF.out.below hb4,HD.out.1,HD.out.2.1,HG.out,h4.1,by omega⟩⟩
 have HBB:=As (show w.heap.size < w3.heap.size from HZ.out.lt)
 clear hb4 hq4 hw4
 have x0:=(HS.out.eg).c0
 have x1:=(HS.out.eg).c1
 have x2:=(HS.out.eg).c2
 have x3:=(HS.out.eg).c3
 have x4:=(HS.out.eg).c4
 clear HF HZ HB3 HRD HD
 go_cut [21] (fun s21 wx => Dw w wx g A ys.length d 13001 w3.heap.size w2.heap.size E B1 B2 B3 d1 d2 d3 ∧ (s21 = .bool false ∨ s21 = .bool true ∧ eOk E = true))
 case first =>
  go_wp2_with fail
  go_at_call 33
  refine (HS.out.call HBY.out (by decide) (by decide)).mono ?_
  rintro x wk ⟨k1,rfl,hk_k1,hs⟩
  have HS:=As hs
  clear hs
  clear x0 x1 x2 x3 x4
  have x0:=(HS.out.eg).c0
  have x1:=(HS.out.eg).c1
  have x2:=(HS.out.eg).c2
  have x3:=(HS.out.eg).c3
  have x4:=(HS.out.eg).c4
  have hk1 : k1 = 0 ∨ 0 < k1:=Nat.eq_zero_or_pos k1
  rcases hk1 with hk1 | hk1
  ·have p0 : decide ((0 : Int) < (k1 : Int)) = false:=by rw [decide_eq_false_iff_not];omega
   have p1 : ¬ 0 < k1:=by omega
   clear hk1
   go_wp2_with fail
   go_meet
   case rel => exact ⟨HS.out, .inl rfl⟩
  have p0 : decide ((0 : Int) < (k1 : Int)) = true:=by rw [decide_eq_true_iff];omega
  cases hdn : E.down
  all_goals have HDN:=As hdn
  all_goals rw [hdn] at x4
  all_goals clear hdn
  rotate_left
  ·go_wp2_with fail
   go_meet
   case rel => exact ⟨HS.out, .inl rfl⟩
  cases hv : eOk E
  all_goals have HV:=As hv
  all_goals clear hv
  ·go_wp2_with (first | (go_at_call 24;refine (XO (Cw (cd:=d1) (cm:=d2) HV.out HS.out.cap (Below.refl _ _) HS.out.F.now) (by simp only [Eng.val,Eng.ag,HDN.out])).mono ?_;rintro x wl ⟨rfl,hbl⟩;have HS:=As (HS.out.below hbl);clear hbl;clear x0 x1 x2 x3 x4;have x0:=(HS.out.eg).c0;have x1:=(HS.out.eg).c1;have x2:=(HS.out.eg).c2;have x3:=(HS.out.eg).c3;have x4:=(HS.out.eg).c4))
   go_meet
   case rel => exact ⟨HS.out, .inl rfl⟩
  ·go_wp2_with (first | (go_at_call 24;refine (XO (Cw (cd:=d1) (cm:=d2) HV.out HS.out.cap (Below.refl _ _) HS.out.F.now) (by simp only [Eng.val,Eng.ag,HDN.out])).mono ?_;rintro x wl ⟨rfl,hbl⟩;have HS:=As (HS.out.below hbl);clear hbl;clear x0 x1 x2 x3 x4;have x0:=(HS.out.eg).c0;have x1:=(HS.out.eg).c1;have x2:=(HS.out.eg).c2;have x3:=(HS.out.eg).c3;have x4:=(HS.out.eg).c4))
   go_meet
   case rel => exact ⟨HS.out, .inr ⟨rfl,HV.out⟩⟩
 case rest =>
  clear x0 x1 x2 x3 x4 HS
  obtain ⟨hS,hc⟩:=hcut
  have HS:=As hS
  clear hS
  go_upto_if 21 with fail
  go_cut [] (fun wx => ∃ (F : Eng) (C1 C2 C3 : Option Addr) (e1 e2 e3 : Nat),Dw w wx g A ys.length d 13002 w3.heap.size w2.heap.size F C1 C2 C3 e1 e2 e3)
  case first =>
   rcases hc with rfl | ⟨rfl,hv⟩
   ·go_wp2_with fail
    go_meet
    case rel => exact ⟨E,B1,B2,B3,d1,d2,d3,HS.out.more (by decide)⟩
   have HV:=As hv
   clear hv
   have HOK:=As (Ct.1 HV.out)
   have HLG:=As (BA HOK.out.log)
   have hll:=HLG.out
   have x0:=(HS.out.eg).c0
   have x1:=(HS.out.eg).c1
   have x2:=(HS.out.eg).c2
   have x3:=(HS.out.eg).c3
   have x4:=(HS.out.eg).c4
   go_wp2_with fail
   refine Bo (fun lx a wx => Dw w wx g A ys.length d 13002 w3.heap.size w2.heap.size E B1 B2 B3 d1 d2 d3 ∧ (Un 5 (fun wx => Dw w wx g A ys.length d 13001 w3.heap.size w2.heap.size E B1 B2 B3 d1 d2 d3) lx a wx ∧ Sl 8 30 (fun v wx => ∃ (left : Int) (C2 C3 : Option Addr) (e2 e3 : Nat),v = (BL E left).val B1 C2 C3 d1 e2 e3 ∧ (BL E left).log.length ≤ e3 ∧ Ur wx w2.heap.size (BL E left) B1 C2 C3) lx a wx)) 9 rfl (by kernel_rfl) (⟨(HS.out.below (Ac (Below.refl _ _))).more (by decide),fun _ => HS.out.below (Ac (Below.refl _ _)),Bp⟩) (fun HT => ?_)
   refine Bw [0,1,2,3,4] ?_
   iterate 5 (refine Bq (v:=?_) HT rfl (by kernel_rfl) rfl (kA Ah (kA (Bj rfl) (Ak rfl rfl))) (by rfl) (fun _ _ _ h => h) (fun lx ax wx hS => ?_) ?_;rotate_left;(have x0:=(hS.1.eg).c0;have x1:=(hS.1.eg).c1;have x2:=(hS.1.eg).c2;have x3:=(hS.1.eg).c3;have x4:=(hS.1.eg).c4;go_simp;with_reducible rfl);rotate_left;simp only [sc0,sc1])
   refine Bv ?_
   refine Cr (i:=5) (f:=33) (args:=#[.pointer (some ⟨g,0,none⟩), .int .i64 3]) (fun v => ∃ k : Nat,v = .int .i64 (k : Int) ∧ (k : Int) < 3) rfl (by kernel_rfl) rfl Tryz.func33 (by kernel_rfl) rfl rfl (by rfl) (by simp only [List.map_toArray,List.map_cons,List.map_nil];rfl) (fun wx hS => ((hS.2.1 (by kernel_rfl)).call HBY.out (by decide) (by decide)).mono (by rintro y w6 ⟨k,rfl,hk,hc⟩;exact ⟨_,rfl,⟨k,rfl,hk⟩,hc,fun h => (Ao (by kernel_rfl) h).elim,fun h => (Ao h (by kernel_rfl)).elim⟩)) (fun vx hg => ?_);simp only [sc0,sc1]
   obtain ⟨k5,rfl,hk5⟩:=hg
   refine Bw [6,7] ?_
   iterate 2 (refine Bq (v:=?_) HT rfl (by kernel_rfl) rfl (kA Ah (kA (Bj rfl) (Ak rfl rfl))) (by rfl) (fun _ _ _ h => h) (fun lx ax wx hS => ?_) ?_;rotate_left;(go_simp;with_reducible rfl);rotate_left;simp only [sc0,sc1])
   refine Bv ?_
   refine Cr (i:=8) (f:=34) (args:=#[E.val B1 B2 B3 d1 d2 d3, .int .i64 _]) (fun v => ∃ (left : Int) (C2 C3 : Option Addr) (e2 e3 : Nat),v = (BL E left).val B1 C2 C3 d1 e2 e3) rfl (by kernel_rfl) rfl Tryz.func34 (by kernel_rfl) rfl rfl (by rfl) (by simp only [List.map_toArray,List.map_cons,List.map_nil];rfl) (fun wx hS => (l21FallC_calls (cd:=d1) (cm:=d2) (cl:=d3) _ (AZ HOK.out.disk) HOK.out.s0 HOK.out.s1 HLG.out hS.1.cap (Below.refl _ _) hS.1.F.now).mono (by rintro x wz ⟨vm,vl,rfl,ho,hbz⟩;obtain ⟨_,_,C2,e2,C3,e3, -,rfl,rfl,hle, -⟩:=ho.reads;exact ⟨_,rfl,⟨_,C2,C3,e2,e3,rfl⟩,hS.1.below hbz,fun h => (Ao (by kernel_rfl) h).elim,fun _ => ⟨_,C2,C3,e2,e3,rfl,hle,((hS.1.F.below hbz).both (ho.firm.lower (by have h1:=hS.1.eg.lt;have h2:=HGL.out.2;omega))).mono (fun w h => ⟨h.1.d,h.2.m,h.2.l⟩)⟩⟩)) (fun vx hg => ?_);simp only [sc0,sc1]
   obtain ⟨left,C2,C3,e2,e3,rfl⟩:=hg
   refine Cb (i:=9) (by kernel_rfl) rfl (fun wx hS => ?_)
   obtain ⟨left2,D2,D3,i2,i3,hv,hle,hF⟩:=hS.2.2 (by kernel_rfl)
   have hv : (BL E left).val B1 C2 C3 d1 e2 e3 = (BL E left2).val B1 D2 D3 d1 i2 i3:=hv
   have HS:=As hS.1
   clear hS
   have y0:=(HS.out.eg).c0
   have y1:=(HS.out.eg).c1
   have y2:=(HS.out.eg).c2
   have y3:=(HS.out.eg).c3
   have y4:=(HS.out.eg).c4
   have f0:=(HS.out.eg).frz 0
   have f1:=(HS.out.eg).frz 1
   have f2:=(HS.out.eg).frz 2
   have f3:=(HS.out.eg).frz 3
   have f4:=(HS.out.eg).frz 4
   obtain ⟨rfl,rfl,rfl,hlen,rfl⟩:=fall_val_inj hv
   clear hv
   obtain ⟨w9,hw9⟩ : ∃ w9,Go.Proofs.YtjeodgfkilhkhaaGreat.Ap wx w3.heap.size (BL E left2) (.slice B1 (BL E left2).disk.length d1) (.slice C2 (BL E left2).mem.length e2) (.slice C3 (BL E left2).log.length e3) = w9:=⟨_,rfl⟩
   have HT:=HS.out.set (e1:=d1) (e2:=e2) (e3:=e3) HBB.out hF hle (by have:=HLG.out;simp [BL];omega)
   rw [hw9] at HT
   refine BH (w1:=w9) rfl (by rfl) (by rw [← hw9, ← hlen];go_simp) ?_
   refine BM (by kernel_rfl) ?_
   generalize BL E left2 = F at HT
   clear HS y0 y1 y2 y3 y4 f0 f1 f2 f3 f4 hF hle hw9 hlen
   have HS:=As HT
   clear HT
   go_wp2_with fail
   go_meet
   case rel => exact ⟨F,B1,C2,C3,d1,e2,e3,HS.out⟩
  case rest =>
   obtain ⟨F,C1,C2,C3,e1,e2,e3,hS⟩:=hcut
   clear HS hc
   have HS:=As hS
   clear hS
   go_wp2_with fail
   have HGB:=As HS.out.hg.2.2
   have HFIN:=As (And.intro HS.out.cap HS.out.few)
   refine Bo (fun lx a wx => Ab wx w3.heap.size F (.slice C1 F.disk.length e1) (.slice C2 F.mem.length e2) (.slice C3 F.log.length e3) ∧ (Un 6 (fun wx => Dw w wx g A ys.length d (13002 + 1) w3.heap.size w2.heap.size F C1 C2 C3 e1 e2 e3) lx a wx ∧ (Un 3 (fun wx => Dw w wx g A ys.length d 13002 w3.heap.size w2.heap.size F C1 C2 C3 e1 e2 e3) lx a wx ∧ (Sl 1 32 (fun v wx => ∃ (B : Nat) (l : List Int),v = .slice (some ⟨B,0,none⟩) 6 6 ∧ g < B ∧ l.length = 6 ∧ AA wx B v l) lx a wx ∧ Ys 6 (fun wx => Ab wx w.heap.size F (.slice C1 F.disk.length e1) (.slice C2 F.mem.length e2) (.slice C3 F.log.length e3) ∧ Ur wx w2.heap.size F C1 C2 C3 ∧ Below w.heap.size w wx) lx a wx)))) 8 rfl (by kernel_rfl) (⟨HS.out.eg.up (Ac (Below.refl _ _)),fun _ => (HS.out.below (Ac (Below.refl _ _))).more (by omega),fun _ => HS.out.below (Ac (Below.refl _ _)),Bp,KV⟩) (fun HT => ?_)
   refine Bw [0,2] ?_
   iterate 2 (refine Bq (v:=?_) HT rfl (by kernel_rfl) rfl (kA Ah (kA (Bj rfl) (kA (Bj rfl) (kA (Ak rfl rfl) (Gx rfl))))) (by rfl) (fun _ _ _ h => h) (fun lx ax wx hS => ?_) ?_;rotate_left;(have x0:=(hS.1).c0;have x1:=(hS.1).c1;have x2:=(hS.1).c2;have x3:=(hS.1).c3;have x4:=(hS.1).c4;go_simp;with_reducible rfl);rotate_left;simp only [sc0,sc1])
   refine Bv ?_
   clear HS
   refine AJ [1,3] (by kernel_rfl) (fun i hi w4_ hS => ?_)
   rcases List.mem_cons.1 hi with rfl | hi
   ·clear hi
    refine BG (w1:=?_) (.slice (some ⟨w4_.heap.size,0,none⟩) 6 6) rfl rfl (by rfl) ?_ ?_
    rotate_left
    ·go_simp
     with_reducible rfl
    refine ⟨⟨hS.1.up (Aa (Below.refl _ _) _),fun _ => (hS.2.1 (by kernel_rfl)).below (Aa (Below.refl _ _) _),fun _ => (hS.2.2.1 (by kernel_rfl)).below (Aa (Below.refl _ _) _),fun _ => ⟨w4_.heap.size,_,rfl,Nat.lt_trans HGB.out hS.1.lt,rfl,own_row6 _ _ _ _ _ _ _⟩,fun h => (Ao h (by kernel_rfl)).elim⟩,?_⟩
    simp only [sc0,sc1]
    clear hS
    refine AJ [3] (by kernel_rfl) (fun i hi w5_ hS => ?_)
    obtain rfl:=List.mem_singleton.1 hi
    clear hi
    refine Cz (f:=33) (args:=#[.pointer (some ⟨g,0,none⟩), .int .i64 6]) rfl rfl Tryz.func33 (by kernel_rfl) rfl rfl (by rfl) (by simp only [List.map_toArray,List.map_cons,List.map_nil];rfl) (((hS.2.2.1 (by kernel_rfl)).callW HBY.out (by omega) (by decide)).mono ?_)
    rintro y w6 ⟨k,rfl,hk,hc,hw⟩
    refine ⟨_,rfl,⟨hc.eg,fun _ => hc,fun h => (Ao (by kernel_rfl) h).elim,fun _ => ?_,fun h => (Ao h (by kernel_rfl)).elim⟩,?_⟩
    ·obtain ⟨B,l,hB,hBn,hln,hown⟩:=hS.2.2.2.1 (by kernel_rfl)
     exact ⟨B,l,hB,hBn,hln,hown.kept hw.kept (fun m hm => by have hm : m = g:=hm;omega)⟩
    simp only [sc0,sc1]
    clear hS hc hw
    refine CZ (i:=4) (v:=?_) HT rfl (by kernel_rfl) rfl (kA Ah (kA (Bj rfl) (kA (Bj rfl) (kA (Ak rfl rfl) (Gx rfl))))) (by rfl) (fun _ _ _ h => h) (fun lx ax wx hS => ?_) ?_;rotate_left;(go_simp;with_reducible rfl);rotate_left;simp only [sc0,sc1]
    refine AJ [5,6] (by kernel_rfl) (fun i hi w6_ hS => ?_)
    rcases List.mem_cons.1 hi with rfl | hi
    ·clear hi
     obtain ⟨B,l,hB,hBn,hln,hown⟩:=hS.2.2.2.1 (by kernel_rfl)
     have hB : Value.slice (some ⟨w4_.heap.size,0,none⟩) 6 6 = .slice (some ⟨B,0,none⟩) 6 6:=hB
     injection hB with hB
     injection hB with hB
     injection hB with hB
     subst hB
     have hown : AA w6_ w4_.heap.size (.slice (some ⟨w4_.heap.size,0,none⟩) l.length 6) l:=by rw [hln];exact hown
     have hc0:=(hown.at (k : Int) (by omega) (by omega)).1
     rw [Int.toNat_natCast] at hc0
     have hc:=(Exists.intro (p:=fun z => w6_.cell? ⟨w4_.heap.size,k,none⟩ = some (.int .i64 z)) _ hc0)
     clear hc0 hown
     obtain ⟨zz,hc⟩:=hc
     refine BG (w1:=?_) (.int .i64 zz) rfl rfl (by rfl) ?_ ?_
     rotate_left
     ·go_simp
      with_reducible rfl
     refine ⟨⟨hS.1,fun _ => hS.2.1 (by kernel_rfl),fun h => (Ao (by kernel_rfl) h).elim,fun _ => hS.2.2.2.1 (by kernel_rfl),fun h => (Ao h (by kernel_rfl)).elim⟩,?_⟩
     simp only [sc0,sc1]
     clear hS hc
     refine AJ [6] (by kernel_rfl) (fun i hi w7_ hS => ?_)
     obtain rfl:=List.mem_singleton.1 hi
     clear hi
     have hS1:=hS.2.1 (by kernel_rfl)
     have y0:=(hS1.z).c0
     have y1:=(hS1.z).c1
     have y2:=(hS1.z).c2
     have y3:=(hS1.z).c3
     have y4:=(hS1.z).c4
     have f0:=(hS1.z).frz 0
     have f1:=(hS1.z).frz 1
     have f2:=(hS1.z).frz 2
     have f3:=(hS1.z).frz 3
     have f4:=(hS1.z).frz 4
     refine BH (w1:=Go.Proofs.YtjeodgfkilhkhaaGreat.Ap w7_ w.heap.size F (.slice C1 F.disk.length e1) (.slice C2 F.mem.length e2) (.slice C3 F.log.length e3)) rfl (by rfl) (by go_simp) ?_
     refine ⟨⟨eg_far5 hS.1 (Nat.ne_of_lt HBB.out) F (.slice C1 F.disk.length e1) (.slice C2 F.mem.length e2) (.slice C3 F.log.length e3),fun h => (Ao (by kernel_rfl) h).elim,fun h => (Ao (by kernel_rfl) h).elim,fun _ => ?_,fun _ => ⟨hS1.z.Ap F (.slice C1 F.disk.length e1) (.slice C2 F.mem.length e2) (.slice C3 F.log.length e3),hS1.F.Ap hS1.z F (.slice C1 F.disk.length e1) (.slice C2 F.mem.length e2) (.slice C3 F.log.length e3),Aj hS1.bel (Nat.le_refl _) F (.slice C1 F.disk.length e1) (.slice C2 F.mem.length e2) (.slice C3 F.log.length e3)⟩⟩,?_⟩
     ·obtain ⟨B,l,hB,hBn,hln,hown⟩:=hS.2.2.2.1 (by kernel_rfl)
      have hgz:=hS1.hg
      exact ⟨B,l,hB,hBn,hln,((((hown.set (by omega) _ _).set (by omega) _ _).set (by omega) _ _).set (by omega) _ _).set (by omega) _ _⟩
     clear hS hS1 y0 y1 y2 y3 y4 f0 f1 f2 f3 f4
     refine CZ (i:=7) (v:=?_) HT rfl (by kernel_rfl) rfl (kA Ah (kA (Bj rfl) (kA (Bj rfl) (kA (Ak rfl rfl) (Gx rfl))))) (by rfl) (fun _ _ _ h => h) (fun lx ax wx hS => ?_) ?_;rotate_left;(go_simp;with_reducible rfl);rotate_left;simp only [sc0,sc1]
     refine GU (by kernel_rfl) (fun w8 hS => ?_)
     obtain ⟨hy,hF,hB⟩:=hS.2.2.2.2 (by kernel_rfl)
     have HF9:=As hF
     have HB9:=As hB
     have y0:=hy.c0
     have y1:=hy.c1
     have y2:=hy.c2
     have y3:=hy.c3
     have y4:=hy.c4
     clear hS hF hB
     go_wp2
     exact bodyPost_ret (v:=.tuple #[Eng.val F C1 C2 C3 e1 e2 e3, .int .i64 _]) (by simp [results,Tryz.results21,go_sem,y0,y1,y2,y3,y4];rfl) rfl ⟨F,C1,C2,C3,e1,e2,e3,_,rfl,HFIN.out.1,HFIN.out.2,HF9.out.now,HB9.out⟩
    ·obtain rfl:=List.mem_singleton.1 hi
     clear hi
     have hS1:=hS.2.1 (by kernel_rfl)
     have y0:=(hS1.z).c0
     have y1:=(hS1.z).c1
     have y2:=(hS1.z).c2
     have y3:=(hS1.z).c3
     have y4:=(hS1.z).c4
     have f0:=(hS1.z).frz 0
     have f1:=(hS1.z).frz 1
     have f2:=(hS1.z).frz 2
     have f3:=(hS1.z).frz 3
     have f4:=(hS1.z).frz 4
     refine BH (w1:=Go.Proofs.YtjeodgfkilhkhaaGreat.Ap w6_ w.heap.size F (.slice C1 F.disk.length e1) (.slice C2 F.mem.length e2) (.slice C3 F.log.length e3)) rfl (by rfl) (by go_simp) ?_
     refine ⟨⟨eg_far5 hS.1 (Nat.ne_of_lt HBB.out) F (.slice C1 F.disk.length e1) (.slice C2 F.mem.length e2) (.slice C3 F.log.length e3),fun h => (Ao (by kernel_rfl) h).elim,fun h => (Ao (by kernel_rfl) h).elim,fun _ => ?_,fun _ => ⟨hS1.z.Ap F (.slice C1 F.disk.length e1) (.slice C2 F.mem.length e2) (.slice C3 F.log.length e3),hS1.F.Ap hS1.z F (.slice C1 F.disk.length e1) (.slice C2 F.mem.length e2) (.slice C3 F.log.length e3),Aj hS1.bel (Nat.le_refl _) F (.slice C1 F.disk.length e1) (.slice C2 F.mem.length e2) (.slice C3 F.log.length e3)⟩⟩,?_⟩
     ·obtain ⟨B,l,hB,hBn,hln,hown⟩:=hS.2.2.2.1 (by kernel_rfl)
      have hgz:=hS1.hg
      exact ⟨B,l,hB,hBn,hln,((((hown.set (by omega) _ _).set (by omega) _ _).set (by omega) _ _).set (by omega) _ _).set (by omega) _ _⟩
     clear hS hS1 y0 y1 y2 y3 y4 f0 f1 f2 f3 f4
     refine AJ [5] (by kernel_rfl) (fun i hi w7_ hS => ?_)
     obtain rfl:=List.mem_singleton.1 hi
     clear hi
     obtain ⟨B,l,hB,hBn,hln,hown⟩:=hS.2.2.2.1 (by kernel_rfl)
     have hB : Value.slice (some ⟨w4_.heap.size,0,none⟩) 6 6 = .slice (some ⟨B,0,none⟩) 6 6:=hB
     injection hB with hB
     injection hB with hB
     injection hB with hB
     subst hB
     have hown : AA w7_ w4_.heap.size (.slice (some ⟨w4_.heap.size,0,none⟩) l.length 6) l:=by rw [hln];exact hown
     have hc0:=(hown.at (k : Int) (by omega) (by omega)).1
     rw [Int.toNat_natCast] at hc0
     have hc:=(Exists.intro (p:=fun z => w7_.cell? ⟨w4_.heap.size,k,none⟩ = some (.int .i64 z)) _ hc0)
     clear hc0 hown
     obtain ⟨zz,hc⟩:=hc
     refine BG (w1:=?_) (.int .i64 zz) rfl rfl (by rfl) ?_ ?_
     rotate_left
     ·go_simp
      with_reducible rfl
     refine ⟨⟨hS.1,fun h => (Ao (by kernel_rfl) h).elim,fun h => (Ao (by kernel_rfl) h).elim,fun _ => hS.2.2.2.1 (by kernel_rfl),fun _ => hS.2.2.2.2 (by kernel_rfl)⟩,?_⟩
     simp only [sc0,sc1]
     clear hS hc
     refine CZ (i:=7) (v:=?_) HT rfl (by kernel_rfl) rfl (kA Ah (kA (Bj rfl) (kA (Bj rfl) (kA (Ak rfl rfl) (Gx rfl))))) (by rfl) (fun _ _ _ h => h) (fun lx ax wx hS => ?_) ?_;rotate_left;(go_simp;with_reducible rfl);rotate_left;simp only [sc0,sc1]
     refine GU (by kernel_rfl) (fun w8 hS => ?_)
     obtain ⟨hy,hF,hB⟩:=hS.2.2.2.2 (by kernel_rfl)
     have HF9:=As hF
     have HB9:=As hB
     have y0:=hy.c0
     have y1:=hy.c1
     have y2:=hy.c2
     have y3:=hy.c3
     have y4:=hy.c4
     clear hS hF hB
     go_wp2
     exact bodyPost_ret (v:=.tuple #[Eng.val F C1 C2 C3 e1 e2 e3, .int .i64 _]) (by simp [results,Tryz.results21,go_sem,y0,y1,y2,y3,y4];rfl) rfl ⟨F,C1,C2,C3,e1,e2,e3,_,rfl,HFIN.out.1,HFIN.out.2,HF9.out.now,HB9.out⟩
   ·obtain rfl:=List.mem_singleton.1 hi
    clear hi
    refine Cz (f:=33) (args:=#[.pointer (some ⟨g,0,none⟩), .int .i64 6]) rfl rfl Tryz.func33 (by kernel_rfl) rfl rfl (by rfl) (by simp only [List.map_toArray,List.map_cons,List.map_nil];rfl) (((hS.2.2.1 (by kernel_rfl)).callW HBY.out (by omega) (by decide)).mono ?_)
    rintro y w6 ⟨k,rfl,hk,hc,hw⟩
    refine ⟨_,rfl,⟨hc.eg,fun _ => hc,fun h => (Ao (by kernel_rfl) h).elim,fun h => (Ao h (by kernel_rfl)).elim,fun h => (Ao h (by kernel_rfl)).elim⟩,?_⟩
    simp only [sc0,sc1]
    clear hS hc hw
    refine AJ [1,6] (by kernel_rfl) (fun i hi w5_ hS => ?_)
    rcases List.mem_cons.1 hi with rfl | hi
    ·clear hi
     refine BG (w1:=?_) (.slice (some ⟨w5_.heap.size,0,none⟩) 6 6) rfl rfl (by rfl) ?_ ?_
     rotate_left
     ·go_simp
      with_reducible rfl
     refine ⟨⟨hS.1.up (Aa (Below.refl _ _) _),fun _ => (hS.2.1 (by kernel_rfl)).below (Aa (Below.refl _ _) _),fun h => (Ao (by kernel_rfl) h).elim,fun _ => ⟨w5_.heap.size,_,rfl,Nat.lt_trans HGB.out hS.1.lt,rfl,own_row6 _ _ _ _ _ _ _⟩,fun h => (Ao h (by kernel_rfl)).elim⟩,?_⟩
     simp only [sc0,sc1]
     clear hS
     refine CZ (i:=4) (v:=?_) HT rfl (by kernel_rfl) rfl (kA Ah (kA (Bj rfl) (kA (Bj rfl) (kA (Ak rfl rfl) (Gx rfl))))) (by rfl) (fun _ _ _ h => h) (fun lx ax wx hS => ?_) ?_;rotate_left;(go_simp;with_reducible rfl);rotate_left;simp only [sc0,sc1]
     refine AJ [5,6] (by kernel_rfl) (fun i hi w6_ hS => ?_)
     rcases List.mem_cons.1 hi with rfl | hi
     ·clear hi
      obtain ⟨B,l,hB,hBn,hln,hown⟩:=hS.2.2.2.1 (by kernel_rfl)
      have hB : Value.slice (some ⟨w5_.heap.size,0,none⟩) 6 6 = .slice (some ⟨B,0,none⟩) 6 6:=hB
      injection hB with hB
      injection hB with hB
      injection hB with hB
      subst hB
      have hown : AA w6_ w5_.heap.size (.slice (some ⟨w5_.heap.size,0,none⟩) l.length 6) l:=by rw [hln];exact hown
      have hc0:=(hown.at (k : Int) (by omega) (by omega)).1
      rw [Int.toNat_natCast] at hc0
      have hc:=(Exists.intro (p:=fun z => w6_.cell? ⟨w5_.heap.size,k,none⟩ = some (.int .i64 z)) _ hc0)
      clear hc0 hown
      obtain ⟨zz,hc⟩:=hc
      refine BG (w1:=?_) (.int .i64 zz) rfl rfl (by rfl) ?_ ?_
      rotate_left
      ·go_simp
       with_reducible rfl
      refine ⟨⟨hS.1,fun _ => hS.2.1 (by kernel_rfl),fun h => (Ao (by kernel_rfl) h).elim,fun _ => hS.2.2.2.1 (by kernel_rfl),fun h => (Ao h (by kernel_rfl)).elim⟩,?_⟩
      simp only [sc0,sc1]
      clear hS hc
      refine AJ [6] (by kernel_rfl) (fun i hi w7_ hS => ?_)
      obtain rfl:=List.mem_singleton.1 hi
      clear hi
      have hS1:=hS.2.1 (by kernel_rfl)
      have y0:=(hS1.z).c0
      have y1:=(hS1.z).c1
      have y2:=(hS1.z).c2
      have y3:=(hS1.z).c3
      have y4:=(hS1.z).c4
      have f0:=(hS1.z).frz 0
      have f1:=(hS1.z).frz 1
      have f2:=(hS1.z).frz 2
      have f3:=(hS1.z).frz 3
      have f4:=(hS1.z).frz 4
      refine BH (w1:=Go.Proofs.YtjeodgfkilhkhaaGreat.Ap w7_ w.heap.size F (.slice C1 F.disk.length e1) (.slice C2 F.mem.length e2) (.slice C3 F.log.length e3)) rfl (by rfl) (by go_simp) ?_
      refine ⟨⟨eg_far5 hS.1 (Nat.ne_of_lt HBB.out) F (.slice C1 F.disk.length e1) (.slice C2 F.mem.length e2) (.slice C3 F.log.length e3),fun h => (Ao (by kernel_rfl) h).elim,fun h => (Ao (by kernel_rfl) h).elim,fun _ => ?_,fun _ => ⟨hS1.z.Ap F (.slice C1 F.disk.length e1) (.slice C2 F.mem.length e2) (.slice C3 F.log.length e3),hS1.F.Ap hS1.z F (.slice C1 F.disk.length e1) (.slice C2 F.mem.length e2) (.slice C3 F.log.length e3),Aj hS1.bel (Nat.le_refl _) F (.slice C1 F.disk.length e1) (.slice C2 F.mem.length e2) (.slice C3 F.log.length e3)⟩⟩,?_⟩
      ·obtain ⟨B,l,hB,hBn,hln,hown⟩:=hS.2.2.2.1 (by kernel_rfl)
       have hgz:=hS1.hg
       exact ⟨B,l,hB,hBn,hln,((((hown.set (by omega) _ _).set (by omega) _ _).set (by omega) _ _).set (by omega) _ _).set (by omega) _ _⟩
      clear hS hS1 y0 y1 y2 y3 y4 f0 f1 f2 f3 f4
      refine CZ (i:=7) (v:=?_) HT rfl (by kernel_rfl) rfl (kA Ah (kA (Bj rfl) (kA (Bj rfl) (kA (Ak rfl rfl) (Gx rfl))))) (by rfl) (fun _ _ _ h => h) (fun lx ax wx hS => ?_) ?_;rotate_left;(go_simp;with_reducible rfl);rotate_left;simp only [sc0,sc1]
      refine GU (by kernel_rfl) (fun w8 hS => ?_)
      obtain ⟨hy,hF,hB⟩:=hS.2.2.2.2 (by kernel_rfl)
      have HF9:=As hF
      have HB9:=As hB
      have y0:=hy.c0
      have y1:=hy.c1
      have y2:=hy.c2
      have y3:=hy.c3
      have y4:=hy.c4
      clear hS hF hB
      go_wp2
      exact bodyPost_ret (v:=.tuple #[Eng.val F C1 C2 C3 e1 e2 e3, .int .i64 _]) (by simp [results,Tryz.results21,go_sem,y0,y1,y2,y3,y4];rfl) rfl ⟨F,C1,C2,C3,e1,e2,e3,_,rfl,HFIN.out.1,HFIN.out.2,HF9.out.now,HB9.out⟩
     ·obtain rfl:=List.mem_singleton.1 hi
      clear hi
      have hS1:=hS.2.1 (by kernel_rfl)
      have y0:=(hS1.z).c0
      have y1:=(hS1.z).c1
      have y2:=(hS1.z).c2
      have y3:=(hS1.z).c3
      have y4:=(hS1.z).c4
      have f0:=(hS1.z).frz 0
      have f1:=(hS1.z).frz 1
      have f2:=(hS1.z).frz 2
      have f3:=(hS1.z).frz 3
      have f4:=(hS1.z).frz 4
      refine BH (w1:=Go.Proofs.YtjeodgfkilhkhaaGreat.Ap w6_ w.heap.size F (.slice C1 F.disk.length e1) (.slice C2 F.mem.length e2) (.slice C3 F.log.length e3)) rfl (by rfl) (by go_simp) ?_
      refine ⟨⟨eg_far5 hS.1 (Nat.ne_of_lt HBB.out) F (.slice C1 F.disk.length e1) (.slice C2 F.mem.length e2) (.slice C3 F.log.length e3),fun h => (Ao (by kernel_rfl) h).elim,fun h => (Ao (by kernel_rfl) h).elim,fun _ => ?_,fun _ => ⟨hS1.z.Ap F (.slice C1 F.disk.length e1) (.slice C2 F.mem.length e2) (.slice C3 F.log.length e3),hS1.F.Ap hS1.z F (.slice C1 F.disk.length e1) (.slice C2 F.mem.length e2) (.slice C3 F.log.length e3),Aj hS1.bel (Nat.le_refl _) F (.slice C1 F.disk.length e1) (.slice C2 F.mem.length e2) (.slice C3 F.log.length e3)⟩⟩,?_⟩
      ·obtain ⟨B,l,hB,hBn,hln,hown⟩:=hS.2.2.2.1 (by kernel_rfl)
       have hgz:=hS1.hg
       exact ⟨B,l,hB,hBn,hln,((((hown.set (by omega) _ _).set (by omega) _ _).set (by omega) _ _).set (by omega) _ _).set (by omega) _ _⟩
      clear hS hS1 y0 y1 y2 y3 y4 f0 f1 f2 f3 f4
      refine AJ [5] (by kernel_rfl) (fun i hi w7_ hS => ?_)
      obtain rfl:=List.mem_singleton.1 hi
      clear hi
      obtain ⟨B,l,hB,hBn,hln,hown⟩:=hS.2.2.2.1 (by kernel_rfl)
      have hB : Value.slice (some ⟨w5_.heap.size,0,none⟩) 6 6 = .slice (some ⟨B,0,none⟩) 6 6:=hB
      injection hB with hB
      injection hB with hB
      injection hB with hB
      subst hB
      have hown : AA w7_ w5_.heap.size (.slice (some ⟨w5_.heap.size,0,none⟩) l.length 6) l:=by rw [hln];exact hown
      have hc0:=(hown.at (k : Int) (by omega) (by omega)).1
      rw [Int.toNat_natCast] at hc0
      have hc:=(Exists.intro (p:=fun z => w7_.cell? ⟨w5_.heap.size,k,none⟩ = some (.int .i64 z)) _ hc0)
      clear hc0 hown
      obtain ⟨zz,hc⟩:=hc
      refine BG (w1:=?_) (.int .i64 zz) rfl rfl (by rfl) ?_ ?_
      rotate_left
      ·go_simp
       with_reducible rfl
      refine ⟨⟨hS.1,fun h => (Ao (by kernel_rfl) h).elim,fun h => (Ao (by kernel_rfl) h).elim,fun _ => hS.2.2.2.1 (by kernel_rfl),fun _ => hS.2.2.2.2 (by kernel_rfl)⟩,?_⟩
      simp only [sc0,sc1]
      clear hS hc
      refine CZ (i:=7) (v:=?_) HT rfl (by kernel_rfl) rfl (kA Ah (kA (Bj rfl) (kA (Bj rfl) (kA (Ak rfl rfl) (Gx rfl))))) (by rfl) (fun _ _ _ h => h) (fun lx ax wx hS => ?_) ?_;rotate_left;(go_simp;with_reducible rfl);rotate_left;simp only [sc0,sc1]
      refine GU (by kernel_rfl) (fun w8 hS => ?_)
      obtain ⟨hy,hF,hB⟩:=hS.2.2.2.2 (by kernel_rfl)
      have HF9:=As hF
      have HB9:=As hB
      have y0:=hy.c0
      have y1:=hy.c1
      have y2:=hy.c2
      have y3:=hy.c3
      have y4:=hy.c4
      clear hS hF hB
      go_wp2
      exact bodyPost_ret (v:=.tuple #[Eng.val F C1 C2 C3 e1 e2 e3, .int .i64 _]) (by simp [results,Tryz.results21,go_sem,y0,y1,y2,y3,y4];rfl) rfl ⟨F,C1,C2,C3,e1,e2,e3,_,rfl,HFIN.out.1,HFIN.out.2,HF9.out.now,HB9.out⟩
    ·obtain rfl:=List.mem_singleton.1 hi
     clear hi
     have hS1:=hS.2.1 (by kernel_rfl)
     have y0:=(hS1.z).c0
     have y1:=(hS1.z).c1
     have y2:=(hS1.z).c2
     have y3:=(hS1.z).c3
     have y4:=(hS1.z).c4
     have f0:=(hS1.z).frz 0
     have f1:=(hS1.z).frz 1
     have f2:=(hS1.z).frz 2
     have f3:=(hS1.z).frz 3
     have f4:=(hS1.z).frz 4
     refine BH (w1:=Go.Proofs.YtjeodgfkilhkhaaGreat.Ap w5_ w.heap.size F (.slice C1 F.disk.length e1) (.slice C2 F.mem.length e2) (.slice C3 F.log.length e3)) rfl (by rfl) (by go_simp) ?_
     refine ⟨⟨eg_far5 hS.1 (Nat.ne_of_lt HBB.out) F (.slice C1 F.disk.length e1) (.slice C2 F.mem.length e2) (.slice C3 F.log.length e3),fun h => (Ao (by kernel_rfl) h).elim,fun h => (Ao (by kernel_rfl) h).elim,fun h => (Ao h (by kernel_rfl)).elim,fun _ => ⟨hS1.z.Ap F (.slice C1 F.disk.length e1) (.slice C2 F.mem.length e2) (.slice C3 F.log.length e3),hS1.F.Ap hS1.z F (.slice C1 F.disk.length e1) (.slice C2 F.mem.length e2) (.slice C3 F.log.length e3),Aj hS1.bel (Nat.le_refl _) F (.slice C1 F.disk.length e1) (.slice C2 F.mem.length e2) (.slice C3 F.log.length e3)⟩⟩,?_⟩
     clear hS hS1 y0 y1 y2 y3 y4 f0 f1 f2 f3 f4
     refine AJ [1] (by kernel_rfl) (fun i hi w6_ hS => ?_)
     obtain rfl:=List.mem_singleton.1 hi
     clear hi
     refine BG (w1:=?_) (.slice (some ⟨w6_.heap.size,0,none⟩) 6 6) rfl rfl (by rfl) ?_ ?_
     rotate_left
     ·go_simp
      with_reducible rfl
     refine ⟨⟨hS.1.up (Aa (Below.refl _ _) _),fun h => (Ao (by kernel_rfl) h).elim,fun h => (Ao (by kernel_rfl) h).elim,fun _ => ⟨w6_.heap.size,_,rfl,Nat.lt_trans HGB.out hS.1.lt,rfl,own_row6 _ _ _ _ _ _ _⟩,fun _ => (by obtain ⟨h1,h2,h3⟩:=hS.2.2.2.2 (by kernel_rfl);exact ⟨h1.up (Aa (Below.refl _ _) _),h2.below (Aa (Below.refl _ _) _),Aa h3 _⟩)⟩,?_⟩
     simp only [sc0,sc1]
     clear hS
     refine CZ (i:=4) (v:=?_) HT rfl (by kernel_rfl) rfl (kA Ah (kA (Bj rfl) (kA (Bj rfl) (kA (Ak rfl rfl) (Gx rfl))))) (by rfl) (fun _ _ _ h => h) (fun lx ax wx hS => ?_) ?_;rotate_left;(go_simp;with_reducible rfl);rotate_left;simp only [sc0,sc1]
     refine AJ [5] (by kernel_rfl) (fun i hi w7_ hS => ?_)
     obtain rfl:=List.mem_singleton.1 hi
     clear hi
     obtain ⟨B,l,hB,hBn,hln,hown⟩:=hS.2.2.2.1 (by kernel_rfl)
     have hB : Value.slice (some ⟨w6_.heap.size,0,none⟩) 6 6 = .slice (some ⟨B,0,none⟩) 6 6:=hB
     injection hB with hB
     injection hB with hB
     injection hB with hB
     subst hB
     have hown : AA w7_ w6_.heap.size (.slice (some ⟨w6_.heap.size,0,none⟩) l.length 6) l:=by rw [hln];exact hown
     have hc0:=(hown.at (k : Int) (by omega) (by omega)).1
     rw [Int.toNat_natCast] at hc0
     have hc:=(Exists.intro (p:=fun z => w7_.cell? ⟨w6_.heap.size,k,none⟩ = some (.int .i64 z)) _ hc0)
     clear hc0 hown
     obtain ⟨zz,hc⟩:=hc
     refine BG (w1:=?_) (.int .i64 zz) rfl rfl (by rfl) ?_ ?_
     rotate_left
     ·go_simp
      with_reducible rfl
     refine ⟨⟨hS.1,fun h => (Ao (by kernel_rfl) h).elim,fun h => (Ao (by kernel_rfl) h).elim,fun _ => hS.2.2.2.1 (by kernel_rfl),fun _ => hS.2.2.2.2 (by kernel_rfl)⟩,?_⟩
     simp only [sc0,sc1]
     clear hS hc
     refine CZ (i:=7) (v:=?_) HT rfl (by kernel_rfl) rfl (kA Ah (kA (Bj rfl) (kA (Bj rfl) (kA (Ak rfl rfl) (Gx rfl))))) (by rfl) (fun _ _ _ h => h) (fun lx ax wx hS => ?_) ?_;rotate_left;(go_simp;with_reducible rfl);rotate_left;simp only [sc0,sc1]
     refine GU (by kernel_rfl) (fun w8 hS => ?_)
     obtain ⟨hy,hF,hB⟩:=hS.2.2.2.2 (by kernel_rfl)
     have HF9:=As hF
     have HB9:=As hB
     have y0:=hy.c0
     have y1:=hy.c1
     have y2:=hy.c2
     have y3:=hy.c3
     have y4:=hy.c4
     clear hS hF hB
     go_wp2
     exact bodyPost_ret (v:=.tuple #[Eng.val F C1 C2 C3 e1 e2 e3, .int .i64 _]) (by simp [results,Tryz.results21,go_sem,y0,y1,y2,y3,y4];rfl) rfl ⟨F,C1,C2,C3,e1,e2,e3,_,rfl,HFIN.out.1,HFIN.out.2,HF9.out.now,HB9.out⟩
end Go.Proofs.YtjeodgfkilhkhaaGreat
