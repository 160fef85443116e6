/- Proved here: for all bytes that are handed in, laws.FnPlaySums returns true (behind a fall sums are those of what was done: behind a drawn play, a fall and a rise, each table's number and sum are those of the pages that PlayTrue tells). Conditions: none beyond those that the given statement itself bears. -/
import Derived.Test.YtofgeajaajfiaaaGreatZF1
import Derived.Test.YtofgeajaajfiaaaGreatZA1
import Derived.Test.YtofgeajaajfiaaaGreatZV2
import Derived.WalkKit
import Derived.ProofKit
import Derived.OpenShut
import Derived.ShutString
import Derived.ChangeOld
import Derived.Below
import Derived.SizedLaws
set_option linter.unusedVariables false
set_option linter.unusedSimpArgs false
namespace Go.Proofs.YtofgeajaajfiaaaGreat
open Go.RowKit Go.Proofs.YtofgeajaajfiaaaGreatW.PrintWords Go.Proofs.YtofgeajaajfiaaaGreatW.PrintLast Go.Proofs.YtofgeajaajfiaaaGreatW.PrintMore
theorem cS_not {p : Page} {t : Int} (h : p.owner ≠ t) : ∀ k,cS p t k = 0 ∧ sS p t k = 0
 | 0 => ⟨rfl,rfl⟩
 | k + 1 => by
  have:=cS_not h k
  simp [cS,sS,this.1,this.2,hitS,h]
set_option maxRecDepth 100000 in
set_option maxHeartbeats 16000000 in
theorem FnPlaySums_calls {w : World} {A : Option Addr} {c : Nat} {xs : List Int} {B : Option Addr} {d : Nat} {ys : List Int} (hcap : xs.length ≤ c) (hx : Bytes xs) (hr : Kd.C (Kd.int .u8) w A xs.length xs) (hy : ys.length ≤ 9223372036854775807) : Calls Tryz.prog 12 #[.slice A xs.length c, .slice B ys.length d] w (JV w):=by
 have HR:=As hr
 have HCAP:=As hcap
 have HBY:=As hx
 have hmx:=(Cg hr).2
 clear hcap hx hr
 rcases lts 1048576 (xs.length : Int) with ⟨e1,b1,c1⟩ | ⟨e1,b1,c1⟩
 ·go_enter Tryz.func12,Tryz.ntmps12
  go_wp2
  go_ret
  exact ⟨rfl,Below.refl _ _⟩
 rcases lts 1048576 (ys.length : Int) with ⟨e2,b2,c2⟩ | ⟨e2,b2,c2⟩
 ·go_enter Tryz.func12,Tryz.ntmps12
  go_wp2
  go_ret
  exact ⟨rfl,Below.refl _ _⟩
 go_enter Tryz.func12,Tryz.ntmps12
 go_wp2_with (go_at_call 30;refine (Iu HCAP.out HBY.out (Below.refl w.heap.size w) HR.out).mono ?_;rintro x w1 ⟨V,vs,rfl,hV,hlen,hb1⟩;obtain ⟨V1,v1_,rfl,hcv,hc⟩:=Kd.BI hV;have HVC:=As hc;have HCV:=As hcv;have HLN:=As hlen;have HB1:=As hb1;clear hV hcv hc hlen hb1)
 obtain ⟨ts,hts⟩ : ∃ ts,JR vs = ts:=⟨_,rfl⟩
 have HTS:=As hts
 have K0 : True:=trivial
 by_cases few : vs.length ≤ 40
 rotate_left
 ·have hl : ts.length = 0:=by rw [← hts,OD (by omega)];rfl
  have hz : ((ts.length : Int) == 0) = true:=by rw [hl];rfl
  clear hl hts
  go_wp2_with (first | (clear K0;go_at_call 31;refine (ER (c:=v1_) (Below.refl w1.heap.size w1) HVC.out).mono ?_;rw [HTS.out];rintro x w2 ⟨v,rfl,ho,hb2⟩;obtain ⟨T1,t1_,rfl, -,hc⟩:=Kd.BI ho;have HTC:=As hc;have HB2:=As hb2;clear ho hb2 hc;have K1 : True:=trivial) | (clear K1;go_at_call 32;refine (CF (c:=v1_) HB2.out HVC.out).mono ?_;rw [HTS.out];rintro x w3 ⟨v,rfl,ho,hb3⟩;obtain ⟨S1,s1_,rfl, -,hc⟩:=Kd.BI ho;have HSC:=As hc;have HB3:=As hb3;clear ho hb3 hc;have K2 : True:=trivial) | (clear K2;go_at_call 24;refine (CW (c:=t1_) (d:=s1_) HB3.out HTC.out (Below.refl w3.heap.size w3) HSC.out).mono ?_;rintro x w4 ⟨rfl,hb4⟩;have HB4:=As (bj HB2.out (bj HB3.out hb4));have HT4:=As (bj HB3.out hb4);clear hb4;have K3 : True:=trivial) | (clear K3;go_at_call 32;refine (CF (c:=v1_) HB4.out HVC.out).mono ?_;rw [HTS.out];rintro x w5 ⟨v,rfl,ho,hb3⟩;obtain ⟨S5,s5_,rfl, -,hc⟩:=Kd.BI ho;have HSC5:=As hc;have HB5:=As hb3;clear ho hb3 hc;have K4 : True:=trivial) | (clear K4;go_at_call 24;refine (CW (c:=t1_) (d:=s5_) (bj HT4.out HB5.out) HTC.out (Below.refl w5.heap.size w5) HSC5.out).mono ?_;rintro x w6 ⟨rfl,hb4⟩;have HB6:=As (bj HB4.out (bj HB5.out hb4));clear hb4;have K5 : True:=trivial))
  go_ret
  exact ⟨rfl,bj HB1.out HB6.out⟩
 have HTL:=As (show ts = tL (OE vs) by rw [← hts,Q9 few])
 have hl5 : ts.length = 5:=by rw [HTL.out,OI]
 have hz : ((ts.length : Int) == 0) = false:=by rw [hl5];rfl
 have HL5:=As hl5
 clear hl5 hts
 obtain ⟨E,hE⟩ : ∃ E,runE newE vs = E:=⟨_,rfl⟩
 obtain ⟨C,hC⟩ : ∃ C,OE vs = C:=⟨_,rfl⟩
 have hI:=Sr few
 rw [hE,hC] at hI
 rw [hC] at HTL
 have HRR:=As (show Kl vs = (E,true) by rw [Kl,if_neg (by omega),hE])
 have HI:=As hI
 obtain ⟨X,hX⟩ : ∃ X,KC E ((ys.length : Int) % 70) = X:=⟨_,rfl⟩
 have hx:=hI.RX (n:=(ys.length : Int) % 70) (by omega)
 have hxh:=hI.Oj (n:=(ys.length : Int) % 70) (by omega)
 rw [hX] at hx hxh
 have HXI:=As hx.1
 have HSM:=As (show ∀ p,p < 5 → (pg ts p).owner = (pg X.mem p).owner ∧ (pg ts p).vals = (pg X.mem p).vals from fun p hp => by rw [HTL.out,Wq hp];exact ⟨(hxh.2 p hp).1.symm,(hxh.2 p hp).2.symm⟩)
 have HPK:=As (Cv.1 hx.1.FT).2
 have HX:=As hX
 clear hE hC hI hX hx hxh
 go_wp2_with (first | (clear K0;go_at_call 31;refine (ER (c:=v1_) (Below.refl w1.heap.size w1) HVC.out).mono ?_;rw [HTS.out];rintro x w2 ⟨v,rfl,ho,hb2⟩;obtain ⟨T1,t1_,rfl, -,hc⟩:=Kd.BI ho;have HTC:=As hc;have HB2:=As hb2;clear ho hb2 hc;have K1 : True:=trivial) | (clear K1;go_at_call 32;refine (CF (c:=v1_) HB2.out HVC.out).mono ?_;rw [HTS.out];rintro x w3 ⟨v,rfl,ho,hb3⟩;obtain ⟨S1,s1_,rfl, -,hc⟩:=Kd.BI ho;have HSC:=As hc;have HB3:=As hb3;clear ho hb3 hc;have K2 : True:=trivial) | (clear K2;go_at_call 24;refine (CW (c:=t1_) (d:=s1_) HB3.out HTC.out (Below.refl w3.heap.size w3) HSC.out).mono ?_;rintro x w4 ⟨rfl,hb4⟩;have HB4:=As (bj HB2.out (bj HB3.out hb4));have HT4:=As (bj HB3.out hb4);clear hb4;have K3 : True:=trivial) | (clear K3;go_at_call 14;refine (Cy (c:=v1_) HB4.out HVC.out).mono ?_;rw [HRR.out];rintro x w5 ⟨vd,vm,vl,rfl,ho,hb5⟩;obtain ⟨Gd,g1_,Gm,g2_,Gl,g3_,rfl,rfl,rfl,hgl,hc⟩:=ho.reads;have HGC:=As hc;have HGL:=As hgl;have HB5:=As hb5;clear ho hb5 hc hgl;have K4 : True:=trivial) | (clear K4;refine Ag (vd:=.slice Gd E.disk.length g1_) (vm:=.slice Gm E.mem.length g2_) (vl:=.slice Gl E.log.length g3_) E ?_;intro w6 hb6 hz6 hq6;have HS6:=As hb6;have HQ6:=As hq6;have g0:=hq6.c0;have g1:=hq6.c1;have g2:=hq6.c2;have g3:=hq6.c3;have g4:=hq6.c4;clear hb6 hz6 hq6;have K5 : True:=trivial) | (clear K5;go_at_call 19;clear g0 g1 g2 g3 g4;refine (Ic (w0:=w5) (cd:=g1_) (cm:=g2_) (cl:=g3_) ((ys.length : Int) % 70) HI.out (by omega) HGL.out HS6.out HGC.out).mono ?_;rw [HX.out];rintro x w7 ⟨vd,vm,vl,rfl,ho,hb7⟩;obtain ⟨Xd,x1_,Xm,x2_,Xl,x3_,rfl,rfl,rfl,hcl, -⟩:=ho.reads;have HO7:=As ho;have HXL:=As hcl;have HB7:=As (bj HS6.out hb7);have HQ7:=As (HQ6.out.up hb7);clear ho hb7 hcl;have y0:=HQ7.out.c0;have y1:=HQ7.out.c1;have y2:=HQ7.out.c2;have y3:=HQ7.out.c3;have y4:=HQ7.out.c4;have f0:=HQ7.out.frz 0;have f1:=HQ7.out.frz 1;have f2:=HQ7.out.frz 2;have f3:=HQ7.out.frz 3;have f4:=HQ7.out.frz 4;have K6 : True:=trivial))
 obtain ⟨w8,hw8⟩ : ∃ w8,((((w7.setCell ⟨w5.heap.size,0,none⟩ (.slice Xd X.disk.length x1_)).setCell ⟨w5.heap.size,1,none⟩ (.slice Xm X.mem.length x2_)).setCell ⟨w5.heap.size,2,none⟩ (.slice Xl X.log.length x3_)).setCell ⟨w5.heap.size,3,none⟩ (.int .i64 X.safe)).setCell ⟨w5.heap.size,4,none⟩ (.bool X.down) = w8:=⟨_,rfl⟩
 rw [hw8]
 have HB8 : Aa (Below w5.heap.size w5 w8):=⟨by rw [← hw8];exact Ah HB7.out (Nat.le_refl _) X _ _ _⟩
 have HQ8 : Aa (Ac w8 w5.heap.size X (.slice Xd X.disk.length x1_) (.slice Xm X.mem.length x2_) (.slice Xl X.log.length x3_)):=⟨by rw [← hw8];exact HQ7.out.Ao X _ _ _⟩
 have HXC : Aa (DC w8 X Xd Xm Xl):=⟨by have h:=HO7.out.Ao (f:=X) (xd:=.slice Xd X.disk.length x1_) (xm:=.slice Xm X.mem.length x2_) (xl:=.slice Xl X.log.length x3_) HQ7.out;rw [show Go.Proofs.YtofgeajaajfiaaaGreat.Ao w7 w5.heap.size X (.slice Xd X.disk.length x1_) (.slice Xm X.mem.length x2_) (.slice Xl X.log.length x3_) = w8 from hw8] at h;obtain ⟨_,_,_,_,_,_,h1,h2,h3, -,h4⟩:=h.reads;injection h1 with h1;injection h2 with h2;injection h3 with h3;subst h1 h2 h3;exact h4⟩
 have HT8:=As (BA HTC.out (bj HT4.out (bj HB5.out HB8.out)))
 clear hw8 y0 y1 y2 y3 y4 f0 f1 f2 f3 f4
 go_loopw [9] (fun i wr => ∃ t : Nat,1 ≤ t ∧ t ≤ 4 ∧ i = .int .i64 (t : Int) ∧ Aa (Below w8.heap.size w8 wr)) (fun i _ => (4 - intOf i).toNat)
 case atStart => exact ⟨1,by decide,by decide,rfl,⟨Below.refl _ _⟩⟩
 case round =>
  obtain ⟨t,ht1,ht4,rfl,HW⟩:=hrel
  by_cases hlt : t < 4
  rotate_left
  ·have hti : ¬ (t : Int) ≤ 3:=by omega
   go_wp2
   go_ret
   exact ⟨rfl,bj HB1.out (bj HB4.out (bj HB5.out (bj HB8.out HW.out)))⟩
  have hti : (t : Int) ≤ 3:=by omega
  have x0:=(HQ8.out.up HW.out).c0
  have x1:=(HQ8.out.up HW.out).c1
  have x2:=(HQ8.out.up HW.out).c2
  have x3:=(HQ8.out.up HW.out).c3
  have x4:=(HQ8.out.up HW.out).c4
  have L0 : True:=trivial
  go_wp2_with (first | (clear L0;go_at_call 29;refine (EngineSum_calls (w0:=w8) (cd:=x1_) (cm:=x2_) (cl:=x3_) (t : Int) HXI.out (by omega) (by omega) HXL.out HW.out HXC.out).mono ?_;rintro x w9 ⟨rfl,hb9⟩;have HW9:=As (bj HW.out hb9);clear hb9 x0 x1 x2 x3 x4))
  go_loopw [10,11,12] (fun n s j wr => ∃ J : Nat,J ≤ 5 ∧ j = .int .i64 (J : Int) ∧ n = .int .i64 (cP X.mem t 5 - cP X.mem t J) ∧ s = .int .i64 (sP X.mem t 5 - sP X.mem t J) ∧ Aa (Below w8.heap.size w8 wr)) (fun _ _ j _ => (5 - intOf j).toNat)
  case atStart => exact ⟨0,by decide,rfl,by simp [cP],by simp [sP],HW9⟩
  case round =>
   obtain ⟨J,hJ,rfl,rfl,rfl,HV⟩:=hrel
   have s1 : cP X.mem t (J + 1) = cP X.mem t J + cS (pg X.mem J) t 3:=rfl
   have s2 : sP X.mem t (J + 1) = sP X.mem t J + sS (pg X.mem J) t 3:=rfl
   have HS1:=As s1
   have HS2:=As s2
   clear s1 s2
   by_cases hj : J < 5
   rotate_left
   ·obtain rfl : J = 5:=by omega
    have hJi : ¬ ((5 : Nat) : Int) < 5:=by decide
    have z1 : ((cP X.mem t 5 - cP X.mem t 5) != 0) = false:=by simp
    have z2 : ((sP X.mem t 5 - sP X.mem t 5) != 0) = false:=by simp
    go_wp2
    go_roundw
    case rel => exact ⟨t + 1,by omega,by omega,by go_num,HV⟩
    case measure => simp [intOf];omega
   have hJi : (J : Int) < 5:=by omega
   have hJt : (J : Int) < (ts.length : Int):=by rw [HL5.out];omega
   go_wp2
   go_loopw [10,11,13] (fun n s k w6 => ∃ K : Nat,K ≤ 3 ∧ k = .int .i64 (K : Int) ∧ n = .int .i64 (cP X.mem t 5 - cP X.mem t J - cS (pg X.mem J) t K) ∧ s = .int .i64 (sP X.mem t 5 - sP X.mem t J - sS (pg X.mem J) t K) ∧ Aa (Below w8.heap.size w8 w6)) (fun _ _ k _ => (3 - intOf k).toNat)
   case atStart => exact ⟨0,by decide,rfl,by simp [cS],by simp [sS],HV⟩
   case round =>
    obtain ⟨K,hK,rfl,rfl,rfl,HU⟩:=hrel
    obtain ⟨ad,A2,c2,rfl,QP, -,hv⟩:=Di (BA HT8.out HU.out) J (by rw [HL5.out];exact hj)
    obtain ⟨m0,m1,m2⟩:=QP
    rw [(HSM.out J hj).1] at m1
    rw [(HSM.out J hj).2] at m2 hv
    have hpk:=HPK.out J hj
    have hl3:=(Cj.1 hpk).2.2.2.2.1
    rcases BQ (pg X.mem J).owner (t : Int) with ⟨e1,b1,c1⟩ | ⟨e1,b1,c1⟩
    rotate_left
    ·have h0:=cS_not (p:=pg X.mem J) e1.out
     clear hv hpk hl3
     go_wp2
     go_roundw
     case rel => exact ⟨J + 1,by omega,by go_num,by rw [HS1.out,(h0 K).1,(h0 3).1];congr 1;omega,by rw [HS2.out,(h0 K).2,(h0 3).2];congr 1;omega,HU⟩
     case measure => simp [intOf];omega
    by_cases hk3 : K < 3
    rotate_left
    ·obtain rfl : K = 3:=by omega
     have hKi : ¬ ((3 : Nat) : Int) < 3:=by decide
     clear hv hpk hl3
     go_wp2
     go_roundw
     case rel => exact ⟨J + 1,by omega,by go_num,by rw [HS1.out];congr 1;omega,by rw [HS2.out];congr 1;omega,HU⟩
     case measure => simp [intOf];omega
    have hKi : (K : Int) < 3:=by omega
    have hKl : (K : Int) < ((pg X.mem J).vals.length : Int):=by rw [hl3];omega
    obtain ⟨vd,rfl,u0⟩:=Dj hv K (by rw [hl3];exact hk3)
    have q1:=cP_range X.mem t J
    have q2:=cS_range (pg X.mem J) t K
    have q3:=sP_range HPK.out t J hJ
    have q4:=sS_range hpk t K hK
    have q5:=WH hpk (k:=K) hk3
    have q6:=cP_range X.mem t 5
    have q7:=sP_range HPK.out t 5 (by decide)
    have hw1 : IntKind.i64.wrap (cP X.mem t 5 - cP X.mem t J - cS (pg X.mem J) t K - 1) = cP X.mem t 5 - cP X.mem t J - cS (pg X.mem J) t K - 1:=by simp (disch:=omega) only [IntWalk.i64_in]
    have hw2 : IntKind.i64.wrap (sP X.mem t 5 - sP X.mem t J - sS (pg X.mem J) t K - iv (pg X.mem J).vals K) = sP X.mem t 5 - sP X.mem t J - sS (pg X.mem J) t K - iv (pg X.mem J).vals K:=by simp (disch:=omega) only [IntWalk.i64_in]
    clear q1 q2 q3 q4 q5 q6 q7 hv hpk hl3
    rcases BQ (iv (pg X.mem J).vals K) 0 with ⟨e2,b2,c2'⟩ | ⟨e2,b2,c2'⟩
    ·have hh : hitS (pg X.mem J) t K = false:=by rw [hitS,c2',Bool.and_false]
     go_wp2
     go_roundw
     case rel => exact ⟨K + 1,by omega,by go_num,by simp [cS,hh],by simp [sS,hh],HU⟩
     case measure => simp [intOf];omega
    ·have hh : hitS (pg X.mem J) t K = true:=by rw [hitS,b1,c2'];rfl
     go_wp2
     go_roundw
     case rel => exact ⟨K + 1,by omega,by go_num,by simp only [cS,hh,if_true];congr 1;omega,by simp only [sS,hh,if_true];congr 1;omega,HU⟩
     case measure => simp [intOf];omega
open Go.RowKit Go.Proofs.YtofgeajaajfiaaaGreatW.PrintWords Go.Proofs.YtofgeajaajfiaaaGreatW.PrintLast Go.Proofs.YtofgeajaajfiaaaGreatW.PrintMore Go.ChangeShapes Go.WideShapes Go.Deep
theorem CP {H : Type} {enc : TypeId × Value → H} {w : World} {held : Bool} {fuel : Nat} {cs : List Value} {y : DataW H × List MemPlace} (h : DataW.trod enc Tryz.prog w 0 (fun _ => true) held fuel 22 cs = some y) : ∃ xs A c,cs = [.slice A (List.length xs) c] ∧ xs.length ≤ c ∧ (Kd.int .u8).C w A xs.length xs ∧ Bytes xs:=by
 obtain ⟨xs,A,c,he,hcl,hr⟩:=Gu (d:=Kd.int .u8) Tryz.underlying22 (by kernel_rfl) (J6 Tryz.underlying5) _ _ _ h
 refine ⟨xs,A,c,he,hcl,hr,fun b hb => ?_⟩
 obtain ⟨i,hi,rfl⟩:=List.getElem_of_mem hb
 obtain ⟨ad,ha,hc⟩:=Oa hr i hi
 rcases open_ints Tryz.underlying22 Tryz.underlying5 (by kernel_rfl) h with ⟨hcs,_⟩ | ⟨x,l,c',zs,hcs,_,hl,hm,hz,_,hcell,hwz⟩
 ·rw [he,ha] at hcs
  simp at hcs
 ·rw [he,ha] at hcs
  simp only [List.cons.injEq,Value.slice.injEq,Option.some.injEq,and_true] at hcs
  obtain ⟨rfl,h2,rfl⟩:=hcs
  rw [if_pos rfl] at hz
  have h3:=hcell i (by omega)
  rw [hc] at h3
  have h4 : iv xs i = zs.getD i 0:=by simpa using h3
  have h5:=range_u8 hwz i
  have e : iv xs i = xs[i]:=by simp [iv,List.getD_eq_getElem?_getD,hi]
  rw [← e,h4,List.getD_eq_getElem?_getD]
  exact h5
end Go.Proofs.YtofgeajaajfiaaaGreat
namespace Go.Proofs.YtofgeajaajfiaaaGreat.fnPlaySums
open Go.ChangeShapes Go.WideShapes Go.ChangeAt Go.RowKit Go.Proofs.YtofgeajaajfiaaaGreat
theorem own : ownKnob Tryz.prog.godebug = none:=by kernel_rfl
theorem laidOut : laidOutB Tryz.prog = true:=by kernel_rfl
set_option maxRecDepth 100000 in
theorem lifted (os : Os) (started : os.Started) (H : Type) (enc : TypeId × Value → H) :
  ReturnsInHanded {} Tryz.checked os 12 .any (Rows.fnPlaySumsSpec.pre6 enc Tryz.prog Tryz.f12 Rows.fnPlaySumsRow.domain false) (Rows.fnPlaySumsSpec.post enc Tryz.prog Tryz.f12 false true false false):=by
 refine returnsInHanded_of_change_sized (C:=Tryz.checked) own started (by kernel_rfl) Tryz.func12
  (ChangeSpec.witness6 (enc:=enc) (C:=Tryz.checked) false ⟨#[],#[.slice none 0 0, .slice none 0 0], []⟩ 8 (by kernel_rfl) (by kernel_rfl) (by kernel_rfl) (by kernel_rfl)) ?_
 intro W base args ds gs before hval0 hW hcnd hsz0 _
 have hval : ∀ (j : Nat) t v,Tryz.f12.params[j]? = some t → args[j]? = some v → Value.okWide Tryz.prog W .any base t v:=hval0
 have hW':=hW
 obtain ⟨p,q,hA0,hV,rfl,hfz,hnd⟩:=hW
 have hA : DataW.TrodAll enc Tryz.prog W 0 (fun _ => true) true Tryz.f12.params.toList args.toList ds p:=hA0
 rw [Tryz.params12] at hA hval
 obtain ⟨v0,vs0,d0,ds0,p0,q0,hargs,rfl,rfl,h0,r0⟩:=trodAll_cons hA
 obtain ⟨v1,vs1,d1,ds1,p1,q1,rfl,rfl,rfl,h1,r1⟩:=trodAll_cons r0
 obtain ⟨rfl,rfl,rfl⟩:=trodAll_nil r1
 obtain rfl : args = #[v0,v1]:=by cases args;simp_all
 obtain ⟨rfl,rfl⟩:=trodVars_none hV
 have k0:=h0
 have lt0 : ∀ x ∈ p0,x.block < W.heap.size:=by obtain ⟨m,hm⟩:=k0;exact DataW.trod_lt m _ _ _ hm
 obtain ⟨a0,len0,cap0,rfl⟩:=okWide_slice Tryz.underlying22 (hval 0 22 v0 rfl rfl)
 obtain ⟨fuel0,hf0⟩:=h0
 obtain ⟨xs0,A0,c0,he0,hcl0,hr0,hby0⟩:=CP hf0
 obtain ⟨rfl,rfl,rfl⟩ : a0 = A0 ∧ len0 = xs0.length ∧ cap0 = c0:=by simpa [Value.cells] using he0
 have k1:=h1
 have lt1 : ∀ x ∈ p1,x.block < W.heap.size:=by obtain ⟨m,hm⟩:=k1;exact DataW.trod_lt m _ _ _ hm
 obtain ⟨a1,Oe,cap1,rfl⟩:=okWide_slice Tryz.underlying22 (hval 1 22 v1 rfl rfl)
 obtain ⟨fuel1,hf1⟩:=h1
 obtain ⟨xs1,A1,c1,he1,hcl1,hr1,hby1⟩:=CP hf1
 obtain ⟨rfl,rfl,rfl⟩ : a1 = A1 ∧ Oe = xs1.length ∧ cap1 = c1:=by simpa [Value.cells] using he1
 clear hA0 hval0 hsz0 hval hA
 refine (FnPlaySums_calls hcl0 hby0 hr0 (Cg hr1).2).mono fun e1 W' ⟨he1,bel⟩ => ?_
 subst he1
 exact ⟨_,rfl,_,_,_, [],_, [],hW',trodAll_mk1 (shut_bool Tryz.underlying4 _),(trodAll_cons_mk (Below.trod laidOut (by kernel_rfl) (of_decide_eq_true (by kernel_rfl)) k0 bel lt0) (trodAll_cons_mk (Below.trod laidOut (by kernel_rfl) (of_decide_eq_true (by kernel_rfl)) k1 bel lt1) trodAll_mk0)),rfl,bel.frame _,fun h => by cases h⟩
theorem k24b : (Rows.fnPlaySumsRow.lifted == Tryz.pinned.checked.prog.liftsFinal) = true:=by
 rw [show Tryz.pinned.checked.prog.liftsFinal = false from Gy]
 rfl
theorem k24c : (Tryz.pinned.checked.prog.make == some Rows.fnPlaySumsRow.make) = true:=by
 rw [show Tryz.pinned.checked.prog.make = some Make.cut from KA]
 rfl
set_option maxRecDepth 100000 in
set_option maxHeartbeats 8000000 in
theorem closed : joinedFacts Tryz.pinned.checked.prog 12 Tryz.f12 Rows.fnPlaySumsSpec Rows.fnPlaySumsRow = true:=by
 simp only [joinedFacts,Bool.and_eq_true]
 exact ⟨⟨⟨⟨⟨⟨⟨⟨⟨⟨⟨⟨⟨⟨⟨⟨⟨⟨⟨⟨⟨⟨⟨⟨⟨⟨⟨⟨⟨⟨⟨(by as_aux_lemma => kernel_rfl),(by as_aux_lemma => kernel_rfl)⟩,(by as_aux_lemma => kernel_rfl)⟩,(by as_aux_lemma => kernel_rfl)⟩,(by as_aux_lemma => kernel_rfl)⟩,(by as_aux_lemma => kernel_rfl)⟩,(by as_aux_lemma => kernel_rfl)⟩,(by as_aux_lemma => kernel_rfl)⟩,(by as_aux_lemma => kernel_rfl)⟩,(by as_aux_lemma => kernel_rfl)⟩,(by as_aux_lemma => kernel_rfl)⟩,(by as_aux_lemma => kernel_rfl)⟩,(by as_aux_lemma => kernel_rfl)⟩,(by as_aux_lemma => kernel_rfl)⟩,(by as_aux_lemma => kernel_rfl)⟩,(by as_aux_lemma => kernel_rfl)⟩,(by as_aux_lemma => kernel_rfl)⟩,(by as_aux_lemma => kernel_rfl)⟩,(by as_aux_lemma => kernel_rfl)⟩,(by as_aux_lemma => kernel_rfl)⟩,(by as_aux_lemma => kernel_rfl)⟩,(by as_aux_lemma => kernel_rfl)⟩,(by as_aux_lemma => kernel_rfl)⟩,(by as_aux_lemma => kernel_rfl)⟩,(by as_aux_lemma => kernel_rfl)⟩,J9⟩,k24b⟩,k24c⟩,(by as_aux_lemma => kernel_rfl)⟩,(by as_aux_lemma => kernel_rfl)⟩,(by as_aux_lemma => kernel_rfl)⟩,(by as_aux_lemma => kernel_rfl)⟩
theorem over : Rows.fnPlaySumsRow.holds Tryz.pinned (OpenSpec.ofChange Rows.fnPlaySumsSpec):=
 OpenClaim.holds_of_wide 12 Tryz.f12 rfl rfl rfl rfl rfl rfl rfl ⟨rfl,rfl,rfl,rfl,rfl⟩ rfl rfl rfl rfl rfl (by kernel_rfl) Tryz.func12 closed
  (of_decide_eq_true (by kernel_rfl)) (by unfold Func.isWrapper;first | (rw [if_pos (by decide +kernel)];kernel_rfl) | (rw [if_neg (by decide +kernel)];exact ⟨rfl,rfl⟩))
  (fun os started H enc _ => lifted os started H enc)
theorem proved : Rows.FnPlaySumsSaid:=over
end Go.Proofs.YtofgeajaajfiaaaGreat.fnPlaySums
namespace Go.Proofs.YtofgeajaajfiaaaGreat
theorem fnPlaySums_holds : Rows.FnPlaySumsSaid:=fnPlaySums.proved
end Go.Proofs.YtofgeajaajfiaaaGreat
