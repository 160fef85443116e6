/- Proved here: for all bytes that are handed in, laws.FnPlayLock returns true (nobody changes what another one holds: behind a drawn play a transaction may change just the pages that it, or nobody, holds). Conditions: none beyond those that the given statement itself bears. -/
import Derived.Test.YtklmhkglcfjclaaGreatZF1
import Derived.Test.YtklmhkglcfjclaaGreatZA1
import Derived.Test.YtklmhkglcfjclaaGreatZV2
import Derived.WalkKit
import Derived.ProofKit
import Derived.OpenShut
import Derived.ShutString
import Derived.ChangeOld
import Derived.Below
import Derived.SizedLaws
set_option linter.unusedVariables false
set_option linter.unusedSimpArgs false
namespace Go.Proofs.YtklmhkglcfjclaaGreat
open Go.RowKit Go.Proofs.YtklmhkglcfjclaaGreatW.PrintWords Go.Proofs.YtklmhkglcfjclaaGreatW.PrintLast Go.Proofs.YtklmhkglcfjclaaGreatW.PrintMore
set_option maxRecDepth 100000 in
set_option maxHeartbeats 16000000 in
theorem MU {w : World} {A : Option Addr} {c : Nat} {xs : List Int} (hcap : xs.length ≤ c) (hx : Bytes xs) (hr : Kd.C (Kd.int .u8) w A xs.length xs) : Calls Tryz.prog 9 #[.slice A xs.length c] w (I5 w):=by
 have HR:=As hr
 have HCAP:=As hcap
 have HBY:=As hx
 have hmx:=(Co hr).2
 have H2 : True:=trivial
 have H3 : True:=trivial
 have H5 : True:=trivial
 clear hcap hx hr
 rcases lts 1048576 (xs.length : Int) with ⟨e1,b1,c1⟩ | ⟨e1,b1,c1⟩
 ·go_enter Tryz.func9,Tryz.ntmps9
  go_wp2
  go_ret
  exact ⟨rfl,Below.refl _ _⟩
 go_enter Tryz.func9,Tryz.ntmps9
 go_wp2_with (go_at_call 19;refine (Cv HCAP.out HBY.out (Below.refl w.heap.size w) HR.out).mono ?_;rintro x w1 ⟨V,vs,rfl,hV,hlen,hb1⟩;obtain ⟨V1,v1_,rfl,hcv,hc⟩:=Kd.Cj hV;have HVC:=As hc;have HCV:=As hcv;have HLN:=As hlen;have HB1:=As hb1;clear hV hcv hc hlen hb1)
 obtain ⟨E,bb,hE⟩ : ∃ E bb,JH vs = (E,bb):=⟨_,_,rfl⟩
 have HE:=As hE
 clear hE
 have K0 : True:=trivial
 cases bb
 ·go_wp2_with (first | (clear K0;clear H2;go_at_call 20;refine (Br (c:=v1_) (Below.refl w1.heap.size w1) HVC.out).mono ?_;rw [HE.out];rintro x w2 ⟨vd,vm,vl,rfl,ho,hb2⟩;obtain ⟨Gd,g1_,Gm,g2_,Gl,g3_,rfl,rfl,rfl,hgcl,hc⟩:=ho.reads;have HG2:=As hc;have HGL:=As hgcl;have HB2:=As hb2;clear ho hb2 hc hgcl;have K1 : True:=trivial) | (clear K1;clear H3;refine Ai (vd:=.slice Gd E.disk.length g1_) (vm:=.slice Gm E.mem.length g2_) (vl:=.slice Gl E.log.length g3_) E ?_;intro w3 hb3 hz3 hq3;have HG3:=As (HG2.out.up hb3);have HQ3:=As hq3;have HB3:=As (bj HB2.out hb3);clear hb3 hz3 hq3;have K2 : True:=trivial) | (clear K2;go_at_call 21;refine (AV (c:=v1_) HB3.out HVC.out).mono ?_;rw [HE.out];rintro x w4 ⟨vd,vm,vl,rfl,ho,hb4⟩;obtain ⟨Jd,j1_,Jm,j2_,Jl,j3_,rfl,rfl,rfl, -,hc⟩:=ho.reads;have HJ4:=As hc;have HB4:=As hb4;clear ho hb4 hc;have K3 : True:=trivial) | (clear K3;clear H5;refine Ai (vd:=.slice Jd E.disk.length j1_) (vm:=.slice Jm E.mem.length j2_) (vl:=.slice Jl E.log.length j3_) E ?_;intro w5 hb5 hz5 hq5;have HJ5:=As (HJ4.out.up hb5);have HQ5:=As hq5;have HT5:=As (bj HB4.out hb5);have HN5:=As (Below.refl w5.heap.size w5);clear hb5 hz5 hq5;have g0:=(HQ3.out.up HT5.out).c0;have g1:=(HQ3.out.up HT5.out).c1;have g2:=(HQ3.out.up HT5.out).c2;have g3:=(HQ3.out.up HT5.out).c3;have g4:=(HQ3.out.up HT5.out).c4;have s0:=(HQ5.out).c0;have s1:=(HQ5.out).c1;have s2:=(HQ5.out).c2;have s3:=(HQ5.out).c3;have s4:=(HQ5.out).c4;have K4 : True:=trivial) | (clear K4;go_at_call 22;refine (Bc (cd:=g1_) (cm:=g2_) (cl:=g3_) (dd:=j1_) (dm:=j2_) (dl:=j3_) (bj HT5.out HN5.out) HG3.out HN5.out HJ5.out).mono ?_;rintro x w6 ⟨rfl,hb6⟩;have HN6:=As (bj HN5.out hb6);clear HN5 hb6;clear g0 g1 g2 g3 g4 s0 s1 s2 s3 s4;have HN5:=HN6;clear HN6;have g0:=(HQ3.out.up (bj HT5.out HN5.out)).c0;have g1:=(HQ3.out.up (bj HT5.out HN5.out)).c1;have g2:=(HQ3.out.up (bj HT5.out HN5.out)).c2;have g3:=(HQ3.out.up (bj HT5.out HN5.out)).c3;have g4:=(HQ3.out.up (bj HT5.out HN5.out)).c4;have s0:=(HQ5.out.up HN5.out).c0;have s1:=(HQ5.out.up HN5.out).c1;have s2:=(HQ5.out.up HN5.out).c2;have s3:=(HQ5.out.up HN5.out).c3;have s4:=(HQ5.out.up HN5.out).c4;have K5 : True:=trivial) | (clear K5;go_at_call 22;refine (Bc (cd:=g1_) (cm:=g2_) (cl:=g3_) (dd:=j1_) (dm:=j2_) (dl:=j3_) (bj HT5.out HN5.out) HG3.out HN5.out HJ5.out).mono ?_;rintro x w6 ⟨rfl,hb6⟩;have HN6:=As (bj HN5.out hb6);clear HN5 hb6;clear g0 g1 g2 g3 g4 s0 s1 s2 s3 s4;have HN5:=HN6;clear HN6;have g0:=(HQ3.out.up (bj HT5.out HN5.out)).c0;have g1:=(HQ3.out.up (bj HT5.out HN5.out)).c1;have g2:=(HQ3.out.up (bj HT5.out HN5.out)).c2;have g3:=(HQ3.out.up (bj HT5.out HN5.out)).c3;have g4:=(HQ3.out.up (bj HT5.out HN5.out)).c4;have s0:=(HQ5.out.up HN5.out).c0;have s1:=(HQ5.out.up HN5.out).c1;have s2:=(HQ5.out.up HN5.out).c2;have s3:=(HQ5.out.up HN5.out).c3;have s4:=(HQ5.out.up HN5.out).c4;have K6 : True:=trivial))
  go_ret
  exact ⟨rfl,bj HB1.out (bj HB3.out (bj HT5.out HN5.out))⟩
 have HRUN:=As (Gn HE.out)
 have HINV : Ac (∃ C,Inv E C (3 * 40)):=⟨by rw [HRUN.out.2];exact inv_all vs HRUN.out.1⟩
 obtain ⟨C,hI⟩:=HINV.out
 have HI:=As hI
 clear hI
 cases hd : E.down
 ·have HD:=As hd
  clear hd
  go_wp2_with (first | (clear K0;clear H2;go_at_call 20;refine (Br (c:=v1_) (Below.refl w1.heap.size w1) HVC.out).mono ?_;rw [HE.out];rintro x w2 ⟨vd,vm,vl,rfl,ho,hb2⟩;obtain ⟨Gd,g1_,Gm,g2_,Gl,g3_,rfl,rfl,rfl,hgcl,hc⟩:=ho.reads;have HG2:=As hc;have HGL:=As hgcl;have HB2:=As hb2;clear ho hb2 hc hgcl;have K1 : True:=trivial) | (clear K1;clear H3;refine Ai (vd:=.slice Gd E.disk.length g1_) (vm:=.slice Gm E.mem.length g2_) (vl:=.slice Gl E.log.length g3_) E ?_;intro w3 hb3 hz3 hq3;have HG3:=As (HG2.out.up hb3);have HQ3:=As hq3;have HB3:=As (bj HB2.out hb3);clear hb3 hz3 hq3;have K2 : True:=trivial) | (clear K2;go_at_call 21;refine (AV (c:=v1_) HB3.out HVC.out).mono ?_;rw [HE.out];rintro x w4 ⟨vd,vm,vl,rfl,ho,hb4⟩;obtain ⟨Jd,j1_,Jm,j2_,Jl,j3_,rfl,rfl,rfl, -,hc⟩:=ho.reads;have HJ4:=As hc;have HB4:=As hb4;clear ho hb4 hc;have K3 : True:=trivial) | (clear K3;clear H5;refine Ai (vd:=.slice Jd E.disk.length j1_) (vm:=.slice Jm E.mem.length j2_) (vl:=.slice Jl E.log.length j3_) E ?_;intro w5 hb5 hz5 hq5;have HJ5:=As (HJ4.out.up hb5);have HQ5:=As hq5;have HT5:=As (bj HB4.out hb5);have HN5:=As (Below.refl w5.heap.size w5);clear hb5 hz5 hq5;have g0:=(HQ3.out.up HT5.out).c0;have g1:=(HQ3.out.up HT5.out).c1;have g2:=(HQ3.out.up HT5.out).c2;have g3:=(HQ3.out.up HT5.out).c3;have g4:=(HQ3.out.up HT5.out).c4;have s0:=(HQ5.out).c0;have s1:=(HQ5.out).c1;have s2:=(HQ5.out).c2;have s3:=(HQ5.out).c3;have s4:=(HQ5.out).c4;have K4 : True:=trivial) | (clear K4;go_at_call 22;refine (Bc (cd:=g1_) (cm:=g2_) (cl:=g3_) (dd:=j1_) (dm:=j2_) (dl:=j3_) (bj HT5.out HN5.out) HG3.out HN5.out HJ5.out).mono ?_;rintro x w6 ⟨rfl,hb6⟩;have HN6:=As (bj HN5.out hb6);clear HN5 hb6;clear g0 g1 g2 g3 g4 s0 s1 s2 s3 s4;have HN5:=HN6;clear HN6;have g0:=(HQ3.out.up (bj HT5.out HN5.out)).c0;have g1:=(HQ3.out.up (bj HT5.out HN5.out)).c1;have g2:=(HQ3.out.up (bj HT5.out HN5.out)).c2;have g3:=(HQ3.out.up (bj HT5.out HN5.out)).c3;have g4:=(HQ3.out.up (bj HT5.out HN5.out)).c4;have s0:=(HQ5.out.up HN5.out).c0;have s1:=(HQ5.out.up HN5.out).c1;have s2:=(HQ5.out.up HN5.out).c2;have s3:=(HQ5.out.up HN5.out).c3;have s4:=(HQ5.out.up HN5.out).c4;rw [HD.out] at g4;have K5 : True:=trivial))
  clear g0 g1 g2 g3 g4 s0 s1 s2 s3 s4
  have HG5:=As (bj HT5.out HN5.out)
  go_loopw [8] (fun i wr => ∃ k : Nat,k ≤ 5 ∧ i = .int .i64 (k : Int) ∧ Ac (Below w3.heap.size w3 wr)) (fun i _ => (5 - intOf i).toNat)
  case atStart => exact ⟨0,by decide,rfl,HG5⟩
  case round =>
   obtain ⟨k,hk,rfl,HW⟩:=hrel
   have g0:=(HQ3.out.up HW.out).c0
   have g1:=(HQ3.out.up HW.out).c1
   have g2:=(HQ3.out.up HW.out).c2
   have g3:=(HQ3.out.up HW.out).c3
   have g4:=(HQ3.out.up HW.out).c4
   by_cases hlt : k < 5
   ·have hki : (k : Int) < 5:=by omega
    have HP5:=As (show inB (k : Int) 0 4 = true from Dh.2 ⟨by omega,by omega⟩)
    obtain ⟨L,hL⟩ : ∃ L,lk E.log (k : Int) = L:=⟨_,rfl⟩
    have HL:=As hL
    clear hL
    go_wp2_with (go_at_call 33;refine (MW (cd:=g1_) (cm:=g2_) (cl:=g3_) (k : Int) HI.out.ok HP5.out HGL.out HW.out HG3.out).mono ?_;rw [HL.out];rintro x w8 ⟨rfl,hb8⟩;have HW8:=As (bj HW.out hb8);clear hb8 g0 g1 g2 g3 g4)
    go_loopw [10] (fun i wr => ∃ t : Nat,1 ≤ t ∧ t ≤ 4 ∧ i = .int .i64 (t : Int) ∧ Ac (Below w3.heap.size w3 wr)) (fun i _ => (4 - intOf i).toNat)
    case atStart => exact ⟨1,by decide,by decide,rfl,HW8⟩
    case round =>
     obtain ⟨t,ht1,ht4,rfl,HV⟩:=hrel
     have g0:=(HQ3.out.up HV.out).c0
     have g1:=(HQ3.out.up HV.out).c1
     have g2:=(HQ3.out.up HV.out).c2
     have g3:=(HQ3.out.up HV.out).c3
     have g4:=(HQ3.out.up HV.out).c4
     by_cases hlt3 : t < 4
     ·have hti : (t : Int) ≤ 3:=by omega
      have HM:=As (show Dv E (t : Int) (k : Int) = (L == 0 || L == (t : Int)) by rw [Wp HD.out (by omega) (by omega) (by omega) (by omega),HL.out])
      rcases BV L 0 with ⟨e3,b3,c3⟩ | ⟨e3,b3,c3⟩
      all_goals rcases BV L (t : Int) with ⟨e4,b4,c4⟩ | ⟨e4,b4,c4⟩
      all_goals
       go_wp2_with (go_at_call 32;refine (JG (cd:=g1_) (cm:=g2_) (cl:=g3_) (t : Int) (k : Int) HI.out.ok HGL.out HV.out HG3.out).mono ?_;rw [HM.out,b3,b4];rintro x w9 ⟨rfl,hb9⟩;have HV9:=As (bj HV.out hb9);clear hb9)
       go_roundw
       case rel => exact ⟨t + 1,by omega,by omega,by go_num,HV9⟩
       case measure => simp [intOf];omega
     ·have hti : ¬ (t : Int) ≤ 3:=by omega
      go_wp2
      go_roundw
      case rel => exact ⟨k + 1,by omega,by go_num,HV⟩
      case measure => simp [intOf];omega
   ·have hki : ¬ (k : Int) < 5:=by omega
    go_wp2
    go_ret
    exact ⟨rfl,bj HB1.out (bj HB3.out HW.out)⟩
 ·have HD:=As hd
  clear hd
  have HM:=As (NP HD.out 1 0)
  go_wp2_with (first | (clear K0;clear H2;go_at_call 20;refine (Br (c:=v1_) (Below.refl w1.heap.size w1) HVC.out).mono ?_;rw [HE.out];rintro x w2 ⟨vd,vm,vl,rfl,ho,hb2⟩;obtain ⟨Gd,g1_,Gm,g2_,Gl,g3_,rfl,rfl,rfl,hgcl,hc⟩:=ho.reads;have HG2:=As hc;have HGL:=As hgcl;have HB2:=As hb2;clear ho hb2 hc hgcl;have K1 : True:=trivial) | (clear K1;clear H3;refine Ai (vd:=.slice Gd E.disk.length g1_) (vm:=.slice Gm E.mem.length g2_) (vl:=.slice Gl E.log.length g3_) E ?_;intro w3 hb3 hz3 hq3;have HG3:=As (HG2.out.up hb3);have HQ3:=As hq3;have HB3:=As (bj HB2.out hb3);clear hb3 hz3 hq3;have K2 : True:=trivial) | (clear K2;go_at_call 21;refine (AV (c:=v1_) HB3.out HVC.out).mono ?_;rw [HE.out];rintro x w4 ⟨vd,vm,vl,rfl,ho,hb4⟩;obtain ⟨Jd,j1_,Jm,j2_,Jl,j3_,rfl,rfl,rfl, -,hc⟩:=ho.reads;have HJ4:=As hc;have HB4:=As hb4;clear ho hb4 hc;have K3 : True:=trivial) | (clear K3;clear H5;refine Ai (vd:=.slice Jd E.disk.length j1_) (vm:=.slice Jm E.mem.length j2_) (vl:=.slice Jl E.log.length j3_) E ?_;intro w5 hb5 hz5 hq5;have HJ5:=As (HJ4.out.up hb5);have HQ5:=As hq5;have HT5:=As (bj HB4.out hb5);have HN5:=As (Below.refl w5.heap.size w5);clear hb5 hz5 hq5;have g0:=(HQ3.out.up HT5.out).c0;have g1:=(HQ3.out.up HT5.out).c1;have g2:=(HQ3.out.up HT5.out).c2;have g3:=(HQ3.out.up HT5.out).c3;have g4:=(HQ3.out.up HT5.out).c4;have s0:=(HQ5.out).c0;have s1:=(HQ5.out).c1;have s2:=(HQ5.out).c2;have s3:=(HQ5.out).c3;have s4:=(HQ5.out).c4;have K4 : True:=trivial) | (clear K4;go_at_call 22;refine (Bc (cd:=g1_) (cm:=g2_) (cl:=g3_) (dd:=j1_) (dm:=j2_) (dl:=j3_) (bj HT5.out HN5.out) HG3.out HN5.out HJ5.out).mono ?_;rintro x w6 ⟨rfl,hb6⟩;have HN6:=As (bj HN5.out hb6);clear HN5 hb6;clear g0 g1 g2 g3 g4 s0 s1 s2 s3 s4;have HN5:=HN6;clear HN6;have g0:=(HQ3.out.up (bj HT5.out HN5.out)).c0;have g1:=(HQ3.out.up (bj HT5.out HN5.out)).c1;have g2:=(HQ3.out.up (bj HT5.out HN5.out)).c2;have g3:=(HQ3.out.up (bj HT5.out HN5.out)).c3;have g4:=(HQ3.out.up (bj HT5.out HN5.out)).c4;have s0:=(HQ5.out.up HN5.out).c0;have s1:=(HQ5.out.up HN5.out).c1;have s2:=(HQ5.out.up HN5.out).c2;have s3:=(HQ5.out.up HN5.out).c3;have s4:=(HQ5.out.up HN5.out).c4;rw [HD.out] at g4;have K5 : True:=trivial) | (clear K5;go_at_call 32;refine (calls_cast (JG (cd:=g1_) (cm:=g2_) (cl:=g3_) 1 0 HI.out.ok HGL.out (bj HT5.out HN5.out) HG3.out) (by simp only [Eng.val,Eng.ag,Evt.val,HD.out,List.length_nil])).mono ?_;rw [HM.out];rintro x w8 ⟨rfl,hb8⟩;have HGW:=As (bj HT5.out (bj HN5.out hb8));clear hb8;clear g0 g1 g2 g3 g4 s0 s1 s2 s3 s4;have K6 : True:=trivial))
  go_ret
  exact ⟨rfl,bj HB1.out (bj HB3.out HGW.out)⟩
open Go.RowKit Go.Proofs.YtklmhkglcfjclaaGreatW.PrintWords Go.Proofs.YtklmhkglcfjclaaGreatW.PrintLast Go.Proofs.YtklmhkglcfjclaaGreatW.PrintMore Go.ChangeShapes Go.WideShapes Go.Deep
theorem BS {H : Type} {enc : TypeId × Value → H} {w : World} {held : Bool} {fuel : Nat} {cs : List Value} {y : DataW H × List MemPlace} (h : DataW.trod enc Tryz.prog w 0 (fun _ => true) held fuel 37 cs = some y) : ∃ xs A c,cs = [.slice A (List.length xs) c] ∧ xs.length ≤ c ∧ (Kd.int .u8).C w A xs.length xs ∧ Bytes xs:=by
 obtain ⟨xs,A,c,he,hcl,hr⟩:=E9 (d:=Kd.int .u8) Tryz.underlying37 (by kernel_rfl) (FB Tryz.underlying5) _ _ _ h
 refine ⟨xs,A,c,he,hcl,hr,fun b hb => ?_⟩
 obtain ⟨i,hi,rfl⟩:=List.getElem_of_mem hb
 obtain ⟨ad,ha,hc⟩:=Kb hr i hi
 rcases open_ints Tryz.underlying37 Tryz.underlying5 (by kernel_rfl) h with ⟨hcs,_⟩ | ⟨x,l,c',zs,hcs,_,hl,hm,hz,_,hcell,hwz⟩
 ·rw [he,ha] at hcs
  simp at hcs
 ·rw [he,ha] at hcs
  simp only [List.cons.injEq,Value.slice.injEq,Option.some.injEq,and_true] at hcs
  obtain ⟨rfl,h2,rfl⟩:=hcs
  rw [if_pos rfl] at hz
  have h3:=hcell i (by omega)
  rw [hc] at h3
  have h4 : iv xs i = zs.getD i 0:=by simpa using h3
  have h5:=range_u8 hwz i
  have e : iv xs i = xs[i]:=by simp [iv,List.getD_eq_getElem?_getD,hi]
  rw [← e,h4,List.getD_eq_getElem?_getD]
  exact h5
end Go.Proofs.YtklmhkglcfjclaaGreat
namespace Go.Proofs.YtklmhkglcfjclaaGreat.fnPlayLock
open Go.ChangeShapes Go.WideShapes Go.ChangeAt Go.RowKit Go.Proofs.YtklmhkglcfjclaaGreat
theorem own : ownKnob Tryz.prog.godebug = none:=by kernel_rfl
theorem laidOut : laidOutB Tryz.prog = true:=by kernel_rfl
set_option maxRecDepth 100000 in
theorem lifted (os : Os) (started : os.Started) (H : Type) (enc : TypeId × Value → H) :
  ReturnsInHanded {} Tryz.checked os 9 .any (Rows.fnPlayLockSpec.pre6 enc Tryz.prog Tryz.f9 Rows.fnPlayLockRow.domain false) (Rows.fnPlayLockSpec.post enc Tryz.prog Tryz.f9 false true false false):=by
 refine returnsInHanded_of_change_sized (C:=Tryz.checked) own started (by kernel_rfl) Tryz.func9
  (ChangeSpec.witness6 (enc:=enc) (C:=Tryz.checked) false ⟨#[],#[.slice none 0 0], []⟩ 8 (by kernel_rfl) (by kernel_rfl) (by kernel_rfl) (by kernel_rfl)) ?_
 intro W base args ds gs before hval0 hW hcnd hsz0 _
 have hval : ∀ (j : Nat) t v,Tryz.f9.params[j]? = some t → args[j]? = some v → Value.okWide Tryz.prog W .any base t v:=hval0
 have hW':=hW
 obtain ⟨p,q,hA0,hV,rfl,hfz,hnd⟩:=hW
 have hA : DataW.TrodAll enc Tryz.prog W 0 (fun _ => true) true Tryz.f9.params.toList args.toList ds p:=hA0
 rw [Tryz.params9] at hA hval
 obtain ⟨v0,vs0,d0,ds0,p0,q0,hargs,rfl,rfl,h0,r0⟩:=trodAll_cons hA
 obtain ⟨rfl,rfl,rfl⟩:=trodAll_nil r0
 obtain rfl : args = #[v0]:=by cases args;simp_all
 obtain ⟨rfl,rfl⟩:=trodVars_none hV
 have k0:=h0
 have lt0 : ∀ x ∈ p0,x.block < W.heap.size:=by obtain ⟨m,hm⟩:=k0;exact DataW.trod_lt m _ _ _ hm
 obtain ⟨a0,len0,cap0,rfl⟩:=okWide_slice Tryz.underlying37 (hval 0 37 v0 rfl rfl)
 obtain ⟨fuel0,hf0⟩:=h0
 obtain ⟨xs0,A0,c0,he0,hcl0,hr0,hby0⟩:=BS hf0
 obtain ⟨rfl,rfl,rfl⟩ : a0 = A0 ∧ len0 = xs0.length ∧ cap0 = c0:=by simpa [Value.cells] using he0
 clear hA0 hval0 hsz0 hval hA
 refine (MU hcl0 hby0 hr0).mono fun e1 W' ⟨he1,bel⟩ => ?_
 subst he1
 exact ⟨_,rfl,_,_,_, [],_, [],hW',trodAll_mk1 (shut_bool Tryz.underlying4 _),(trodAll_cons_mk (Below.trod laidOut (by kernel_rfl) (of_decide_eq_true (by kernel_rfl)) k0 bel lt0) trodAll_mk0),rfl,bel.frame _,fun h => by cases h⟩
theorem k24b : (Rows.fnPlayLockRow.lifted == Tryz.pinned.checked.prog.liftsFinal) = true:=by
 rw [show Tryz.pinned.checked.prog.liftsFinal = false from Ea]
 rfl
theorem k24c : (Tryz.pinned.checked.prog.make == some Rows.fnPlayLockRow.make) = true:=by
 rw [show Tryz.pinned.checked.prog.make = some Make.cut from Gs]
 rfl
set_option maxRecDepth 100000 in
set_option maxHeartbeats 8000000 in
theorem closed : joinedFacts Tryz.pinned.checked.prog 9 Tryz.f9 Rows.fnPlayLockSpec Rows.fnPlayLockRow = true:=by
 simp only [joinedFacts,Bool.and_eq_true]
 exact ⟨⟨⟨⟨⟨⟨⟨⟨⟨⟨⟨⟨⟨⟨⟨⟨⟨⟨⟨⟨⟨⟨⟨⟨⟨⟨⟨⟨⟨⟨⟨(by as_aux_lemma => kernel_rfl),(by as_aux_lemma => kernel_rfl)⟩,(by as_aux_lemma => kernel_rfl)⟩,(by as_aux_lemma => kernel_rfl)⟩,(by as_aux_lemma => kernel_rfl)⟩,(by as_aux_lemma => kernel_rfl)⟩,(by as_aux_lemma => kernel_rfl)⟩,(by as_aux_lemma => kernel_rfl)⟩,(by as_aux_lemma => kernel_rfl)⟩,(by as_aux_lemma => kernel_rfl)⟩,(by as_aux_lemma => kernel_rfl)⟩,(by as_aux_lemma => kernel_rfl)⟩,(by as_aux_lemma => kernel_rfl)⟩,(by as_aux_lemma => kernel_rfl)⟩,(by as_aux_lemma => kernel_rfl)⟩,(by as_aux_lemma => kernel_rfl)⟩,(by as_aux_lemma => kernel_rfl)⟩,(by as_aux_lemma => kernel_rfl)⟩,(by as_aux_lemma => kernel_rfl)⟩,(by as_aux_lemma => kernel_rfl)⟩,(by as_aux_lemma => kernel_rfl)⟩,(by as_aux_lemma => kernel_rfl)⟩,(by as_aux_lemma => kernel_rfl)⟩,(by as_aux_lemma => kernel_rfl)⟩,(by as_aux_lemma => kernel_rfl)⟩,FD⟩,k24b⟩,k24c⟩,(by as_aux_lemma => kernel_rfl)⟩,(by as_aux_lemma => kernel_rfl)⟩,(by as_aux_lemma => kernel_rfl)⟩,(by as_aux_lemma => kernel_rfl)⟩
theorem over : Rows.fnPlayLockRow.holds Tryz.pinned (OpenSpec.ofChange Rows.fnPlayLockSpec):=
 OpenClaim.holds_of_wide 9 Tryz.f9 rfl rfl rfl rfl rfl rfl rfl ⟨rfl,rfl,rfl,rfl,rfl⟩ rfl rfl rfl rfl rfl (by kernel_rfl) Tryz.func9 closed
  (of_decide_eq_true (by kernel_rfl)) (by unfold Func.isWrapper;first | (rw [if_pos (by decide +kernel)];kernel_rfl) | (rw [if_neg (by decide +kernel)];exact ⟨rfl,rfl⟩))
  (fun os started H enc _ => lifted os started H enc)
theorem proved : Rows.FnPlayLockSaid:=over
end Go.Proofs.YtklmhkglcfjclaaGreat.fnPlayLock
namespace Go.Proofs.YtklmhkglcfjclaaGreat
theorem fnPlayLock_holds : Rows.FnPlayLockSaid:=fnPlayLock.proved
end Go.Proofs.YtklmhkglcfjclaaGreat
