/- Proved here: for all bytes that are handed in, laws.FnPlayOwn returns true (a page is of one table, or nobody's: behind a drawn play every page in memory and on the disk that is nobody's is empty, every page is well-formed, and the engine is ok). Conditions: none beyond those that the given statement itself bears. -/
import Derived.Test.YtklmhkglcfjclaaGreatZF1
import Derived.Test.YtklmhkglcfjclaaGreatZN1
import Derived.Test.YtklmhkglcfjclaaGreatZV1
import Derived.Test.YtklmhkglcfjclaaGreatZA1
import Derived.Test.YtklmhkglcfjclaaGreatZV2
import Derived.WalkKit
import Derived.ProofKit
import Derived.OpenShut
import Derived.ShutString
import Derived.ChangeOld
import Derived.Below
import Derived.SizedLaws
set_option linter.unusedVariables false
set_option linter.unusedSimpArgs false
namespace Go.Proofs.YtklmhkglcfjclaaGreat
open Go.RowKit Go.Proofs.YtklmhkglcfjclaaGreatW.PrintWords Go.Proofs.YtklmhkglcfjclaaGreatW.PrintLast Go.Proofs.YtklmhkglcfjclaaGreatW.PrintMore
set_option maxRecDepth 100000 in
set_option maxHeartbeats 16000000 in
theorem NI {w : World} {A : Option Addr} {c : Nat} {xs : List Int} (hcap : xs.length ≤ c) (hx : Bytes xs) (hr : Kd.C (Kd.int .u8) w A xs.length xs) : Calls Tryz.prog 5 #[.slice A xs.length c] w (I5 w):=by
 have HR:=As hr
 have HCAP:=As hcap
 have HBY:=As hx
 have hmx:=(Co hr).2
 have H2 : True:=trivial
 have H3 : True:=trivial
 have H5 : True:=trivial
 clear hcap hx hr
 rcases lts 1048576 (xs.length : Int) with ⟨e1,b1,c1⟩ | ⟨e1,b1,c1⟩
 ·go_enter Tryz.func5,Tryz.ntmps5
  go_wp2
  go_ret
  exact ⟨rfl,Below.refl _ _⟩
 go_enter Tryz.func5,Tryz.ntmps5
 go_wp2_with (go_at_call 19;refine (Cv HCAP.out HBY.out (Below.refl w.heap.size w) HR.out).mono ?_;rintro x w1 ⟨V,vs,rfl,hV,hlen,hb1⟩;obtain ⟨V1,v1_,rfl,hcv,hc⟩:=Kd.Cj hV;have HVC:=As hc;have HCV:=As hcv;have HLN:=As hlen;have HB1:=As hb1;clear hV hcv hc hlen hb1)
 obtain ⟨E,bb,hE⟩ : ∃ E bb,JH vs = (E,bb):=⟨_,_,rfl⟩
 have HE:=As hE
 clear hE
 have K0 : True:=trivial
 cases bb
 ·go_wp2_with (first | (clear K0;clear H2;go_at_call 20;refine (Br (c:=v1_) (Below.refl w1.heap.size w1) HVC.out).mono ?_;rw [HE.out];rintro x w2 ⟨vd,vm,vl,rfl,ho,hb2⟩;obtain ⟨Gd,g1_,Gm,g2_,Gl,g3_,rfl,rfl,rfl,hgcl,hc⟩:=ho.reads;have HG2:=As hc;have HGL:=As hgcl;have HB2:=As hb2;clear ho hb2 hc hgcl;have K1 : True:=trivial) | (clear K1;clear H3;refine Ai (vd:=.slice Gd E.disk.length g1_) (vm:=.slice Gm E.mem.length g2_) (vl:=.slice Gl E.log.length g3_) E ?_;intro w3 hb3 hz3 hq3;have HG3:=As (HG2.out.up hb3);have HQ3:=As hq3;have HB3:=As (bj HB2.out hb3);clear hb3 hz3 hq3;have K2 : True:=trivial) | (clear K2;go_at_call 21;refine (AV (c:=v1_) HB3.out HVC.out).mono ?_;rw [HE.out];rintro x w4 ⟨vd,vm,vl,rfl,ho,hb4⟩;obtain ⟨Jd,j1_,Jm,j2_,Jl,j3_,rfl,rfl,rfl, -,hc⟩:=ho.reads;have HJ4:=As hc;have HB4:=As hb4;clear ho hb4 hc;have K3 : True:=trivial) | (clear K3;clear H5;refine Ai (vd:=.slice Jd E.disk.length j1_) (vm:=.slice Jm E.mem.length j2_) (vl:=.slice Jl E.log.length j3_) E ?_;intro w5 hb5 hz5 hq5;have HJ5:=As (HJ4.out.up hb5);have HQ5:=As hq5;have HT5:=As (bj HB4.out hb5);have HN5:=As (Below.refl w5.heap.size w5);clear hb5 hz5 hq5;have g0:=(HQ3.out.up HT5.out).c0;have g1:=(HQ3.out.up HT5.out).c1;have g2:=(HQ3.out.up HT5.out).c2;have g3:=(HQ3.out.up HT5.out).c3;have g4:=(HQ3.out.up HT5.out).c4;have s0:=(HQ5.out).c0;have s1:=(HQ5.out).c1;have s2:=(HQ5.out).c2;have s3:=(HQ5.out).c3;have s4:=(HQ5.out).c4;have K4 : True:=trivial) | (clear K4;go_at_call 22;refine (Bc (cd:=g1_) (cm:=g2_) (cl:=g3_) (dd:=j1_) (dm:=j2_) (dl:=j3_) (bj HT5.out HN5.out) HG3.out HN5.out HJ5.out).mono ?_;rintro x w6 ⟨rfl,hb6⟩;have HN6:=As (bj HN5.out hb6);clear HN5 hb6;clear g0 g1 g2 g3 g4 s0 s1 s2 s3 s4;have HN5:=HN6;clear HN6;have g0:=(HQ3.out.up (bj HT5.out HN5.out)).c0;have g1:=(HQ3.out.up (bj HT5.out HN5.out)).c1;have g2:=(HQ3.out.up (bj HT5.out HN5.out)).c2;have g3:=(HQ3.out.up (bj HT5.out HN5.out)).c3;have g4:=(HQ3.out.up (bj HT5.out HN5.out)).c4;have s0:=(HQ5.out.up HN5.out).c0;have s1:=(HQ5.out.up HN5.out).c1;have s2:=(HQ5.out.up HN5.out).c2;have s3:=(HQ5.out.up HN5.out).c3;have s4:=(HQ5.out.up HN5.out).c4;have K5 : True:=trivial) | (clear K5;go_at_call 22;refine (Bc (cd:=g1_) (cm:=g2_) (cl:=g3_) (dd:=j1_) (dm:=j2_) (dl:=j3_) (bj HT5.out HN5.out) HG3.out HN5.out HJ5.out).mono ?_;rintro x w6 ⟨rfl,hb6⟩;have HN6:=As (bj HN5.out hb6);clear HN5 hb6;clear g0 g1 g2 g3 g4 s0 s1 s2 s3 s4;have HN5:=HN6;clear HN6;have g0:=(HQ3.out.up (bj HT5.out HN5.out)).c0;have g1:=(HQ3.out.up (bj HT5.out HN5.out)).c1;have g2:=(HQ3.out.up (bj HT5.out HN5.out)).c2;have g3:=(HQ3.out.up (bj HT5.out HN5.out)).c3;have g4:=(HQ3.out.up (bj HT5.out HN5.out)).c4;have s0:=(HQ5.out.up HN5.out).c0;have s1:=(HQ5.out.up HN5.out).c1;have s2:=(HQ5.out.up HN5.out).c2;have s3:=(HQ5.out.up HN5.out).c3;have s4:=(HQ5.out.up HN5.out).c4;have K6 : True:=trivial))
  go_ret
  exact ⟨rfl,bj HB1.out (bj HB3.out (bj HT5.out HN5.out))⟩
 have HRUN:=As (Gn HE.out)
 have HINV : Ac (∃ C,Inv E C (3 * 40)):=⟨by rw [HRUN.out.2];exact inv_all vs HRUN.out.1⟩
 go_wp2_with (first | (clear K0;clear H2;go_at_call 20;refine (Br (c:=v1_) (Below.refl w1.heap.size w1) HVC.out).mono ?_;rw [HE.out];rintro x w2 ⟨vd,vm,vl,rfl,ho,hb2⟩;obtain ⟨Gd,g1_,Gm,g2_,Gl,g3_,rfl,rfl,rfl,hgcl,hc⟩:=ho.reads;have HG2:=As hc;have HGL:=As hgcl;have HB2:=As hb2;clear ho hb2 hc hgcl;have K1 : True:=trivial) | (clear K1;clear H3;refine Ai (vd:=.slice Gd E.disk.length g1_) (vm:=.slice Gm E.mem.length g2_) (vl:=.slice Gl E.log.length g3_) E ?_;intro w3 hb3 hz3 hq3;have HG3:=As (HG2.out.up hb3);have HQ3:=As hq3;have HB3:=As (bj HB2.out hb3);clear hb3 hz3 hq3;have K2 : True:=trivial) | (clear K2;go_at_call 21;refine (AV (c:=v1_) HB3.out HVC.out).mono ?_;rw [HE.out];rintro x w4 ⟨vd,vm,vl,rfl,ho,hb4⟩;obtain ⟨Jd,j1_,Jm,j2_,Jl,j3_,rfl,rfl,rfl, -,hc⟩:=ho.reads;have HJ4:=As hc;have HB4:=As hb4;clear ho hb4 hc;have K3 : True:=trivial) | (clear K3;clear H5;refine Ai (vd:=.slice Jd E.disk.length j1_) (vm:=.slice Jm E.mem.length j2_) (vl:=.slice Jl E.log.length j3_) E ?_;intro w5 hb5 hz5 hq5;have HJ5:=As (HJ4.out.up hb5);have HQ5:=As hq5;have HT5:=As (bj HB4.out hb5);have HN5:=As (Below.refl w5.heap.size w5);clear hb5 hz5 hq5;have g0:=(HQ3.out.up HT5.out).c0;have g1:=(HQ3.out.up HT5.out).c1;have g2:=(HQ3.out.up HT5.out).c2;have g3:=(HQ3.out.up HT5.out).c3;have g4:=(HQ3.out.up HT5.out).c4;have s0:=(HQ5.out).c0;have s1:=(HQ5.out).c1;have s2:=(HQ5.out).c2;have s3:=(HQ5.out).c3;have s4:=(HQ5.out).c4;have K4 : True:=trivial) | (clear K4;go_at_call 22;refine (Bc (cd:=g1_) (cm:=g2_) (cl:=g3_) (dd:=j1_) (dm:=j2_) (dl:=j3_) (bj HT5.out HN5.out) HG3.out HN5.out HJ5.out).mono ?_;rintro x w6 ⟨rfl,hb6⟩;have HN6:=As (bj HN5.out hb6);clear HN5 hb6;clear g0 g1 g2 g3 g4 s0 s1 s2 s3 s4;have HN5:=HN6;clear HN6;have g0:=(HQ3.out.up (bj HT5.out HN5.out)).c0;have g1:=(HQ3.out.up (bj HT5.out HN5.out)).c1;have g2:=(HQ3.out.up (bj HT5.out HN5.out)).c2;have g3:=(HQ3.out.up (bj HT5.out HN5.out)).c3;have g4:=(HQ3.out.up (bj HT5.out HN5.out)).c4;have s0:=(HQ5.out.up HN5.out).c0;have s1:=(HQ5.out.up HN5.out).c1;have s2:=(HQ5.out.up HN5.out).c2;have s3:=(HQ5.out.up HN5.out).c3;have s4:=(HQ5.out.up HN5.out).c4;have K5 : True:=trivial))
 clear g0 g1 g2 g3 g4 s0 s1 s2 s3 s4
 go_loopw [8] (fun i wr => ∃ k : Nat,k ≤ 5 ∧ i = .int .i64 (k : Int) ∧ Ac (Below w5.heap.size w5 wr)) (fun i _ => (5 - intOf i).toNat)
 case atStart => exact ⟨0,by decide,rfl,HN5⟩
 case round =>
  obtain ⟨k,hk,rfl,HW⟩:=hrel
  have HX:=As (bj HT5.out HW.out)
  have hcg:=HG3.out.up HX.out
  have HCG:=As hcg
  obtain ⟨C,hI⟩:=HINV.out
  have HI:=As hI
  have hm5:=hI.mlen
  have hd5:=hI.core.dlen
  have HM5:=As hm5
  have HD5:=As hd5
  clear hm5 hd5
  have g0:=(HQ3.out.up HX.out).c0
  have g1:=(HQ3.out.up HX.out).c1
  have g2:=(HQ3.out.up HX.out).c2
  have g3:=(HQ3.out.up HX.out).c3
  have g4:=(HQ3.out.up HX.out).c4
  clear hI
  by_cases hlt : k < 5
  ·have hki : (k : Int) < 5:=by omega
   have hkm : (k : Int) < (E.mem.length : Int):=by rw [HM5.out];omega
   have hkd : (k : Int) < (E.disk.length : Int):=by rw [HD5.out];omega
   obtain ⟨ad,A2,c2,rfl,QP, -,q2⟩:=Ei hcg.m k (by rw [HM5.out];exact hlt)
   obtain ⟨bd,B2,d2,rfl,QD, -,r2⟩:=Ei hcg.d k (by rw [HD5.out];exact hlt)
   obtain ⟨m0,m1,m2⟩:=QP
   obtain ⟨n0,n1,n2⟩:=QD
   have HQ2:=As q2
   have HR2:=As r2
   have HOM:=As (show Bt (pg E.mem k) = true from (Cz.1 HI.out.Gp).2 k hlt)
   have HOD:=As (HI.out.core.dok k hlt)
   obtain ⟨P,hP⟩ : ∃ P,pg E.mem k = P:=⟨_,rfl⟩
   obtain ⟨D,hD⟩ : ∃ D,pg E.disk k = D:=⟨_,rfl⟩
   rw [hP] at m0 m1 m2 HQ2 HOM
   rw [hD] at n0 n1 n2 HR2 HOD
   clear q2 r2 hcg hP hD
   rcases BV P.owner 0 with ⟨e3,b3,c3⟩ | ⟨e3,b3,c3⟩
   all_goals rcases BV D.owner 0 with ⟨e4,b4,c4⟩ | ⟨e4,b4,c4⟩
   ·have L0 : True:=trivial
    go_wp2_with (first | (clear L0;go_at_call 24;refine (Er (p:=P) (b:=true) HOM.out (Nk HOM.out e3.out) (Below.refl _ _) HQ2.out).mono ?_;rintro x w9 ⟨rfl,hb⟩;have HW':=As (bj HW.out hb);clear HW;have HW:=HW';clear HW';have HX':=As (bj HX.out hb);clear HX;have HX:=HX';clear HX';have HQ3':=As (BF HQ2.out hb);clear HQ2;have HQ2:=HQ3';clear HQ3';have HR3':=As (BF HR2.out hb);clear HR2;have HR2:=HR3';clear HR3';replace g0:=bc hb g0;replace g1:=bc hb g1;replace g2:=bc hb g2;replace g3:=bc hb g3;replace g4:=bc hb g4;replace m0:=bc hb m0;replace m1:=bc hb m1;replace m2:=bc hb m2;replace n0:=bc hb n0;replace n1:=bc hb n1;replace n2:=bc hb n2;clear hb;have L1 : True:=trivial) | (clear L1;go_at_call 24;refine (Er (p:=D) (b:=true) HOD.out (Nk HOD.out e4.out) (Below.refl _ _) HR2.out).mono ?_;rintro x w9 ⟨rfl,hb⟩;have HW':=As (bj HW.out hb);clear HW;have HW:=HW';clear HW';have HX':=As (bj HX.out hb);clear HX;have HX:=HX';clear HX';have HQ3':=As (BF HQ2.out hb);clear HQ2;have HQ2:=HQ3';clear HQ3';have HR3':=As (BF HR2.out hb);clear HR2;have HR2:=HR3';clear HR3';replace g0:=bc hb g0;replace g1:=bc hb g1;replace g2:=bc hb g2;replace g3:=bc hb g3;replace g4:=bc hb g4;replace m0:=bc hb m0;replace m1:=bc hb m1;replace m2:=bc hb m2;replace n0:=bc hb n0;replace n1:=bc hb n1;replace n2:=bc hb n2;clear hb;have L2 : True:=trivial) | (clear L2;go_at_call 25;refine (Dq (p:=P) (b:=true) HOM.out (Below.refl _ _) HQ2.out).mono ?_;rintro x w9 ⟨rfl,hb⟩;have HW':=As (bj HW.out hb);clear HW;have HW:=HW';clear HW';have HX':=As (bj HX.out hb);clear HX;have HX:=HX';clear HX';have HQ3':=As (BF HQ2.out hb);clear HQ2;have HQ2:=HQ3';clear HQ3';have HR3':=As (BF HR2.out hb);clear HR2;have HR2:=HR3';clear HR3';replace g0:=bc hb g0;replace g1:=bc hb g1;replace g2:=bc hb g2;replace g3:=bc hb g3;replace g4:=bc hb g4;replace m0:=bc hb m0;replace m1:=bc hb m1;replace m2:=bc hb m2;replace n0:=bc hb n0;replace n1:=bc hb n1;replace n2:=bc hb n2;clear hb;have L3 : True:=trivial))
    go_roundw
    case rel => exact ⟨k + 1,by omega,by go_num,HW⟩
    case measure => simp [intOf];omega
   ·have L0 : True:=trivial
    go_wp2_with (first | (clear L0;go_at_call 24;refine (Er (p:=P) (b:=true) HOM.out (Nk HOM.out e3.out) (Below.refl _ _) HQ2.out).mono ?_;rintro x w9 ⟨rfl,hb⟩;have HW':=As (bj HW.out hb);clear HW;have HW:=HW';clear HW';have HX':=As (bj HX.out hb);clear HX;have HX:=HX';clear HX';have HQ3':=As (BF HQ2.out hb);clear HQ2;have HQ2:=HQ3';clear HQ3';have HR3':=As (BF HR2.out hb);clear HR2;have HR2:=HR3';clear HR3';replace g0:=bc hb g0;replace g1:=bc hb g1;replace g2:=bc hb g2;replace g3:=bc hb g3;replace g4:=bc hb g4;replace m0:=bc hb m0;replace m1:=bc hb m1;replace m2:=bc hb m2;replace n0:=bc hb n0;replace n1:=bc hb n1;replace n2:=bc hb n2;clear hb;have L1 : True:=trivial) | (clear L1;go_at_call 25;refine (Dq (p:=P) (b:=true) HOM.out (Below.refl _ _) HQ2.out).mono ?_;rintro x w9 ⟨rfl,hb⟩;have HW':=As (bj HW.out hb);clear HW;have HW:=HW';clear HW';have HX':=As (bj HX.out hb);clear HX;have HX:=HX';clear HX';have HQ3':=As (BF HQ2.out hb);clear HQ2;have HQ2:=HQ3';clear HQ3';have HR3':=As (BF HR2.out hb);clear HR2;have HR2:=HR3';clear HR3';replace g0:=bc hb g0;replace g1:=bc hb g1;replace g2:=bc hb g2;replace g3:=bc hb g3;replace g4:=bc hb g4;replace m0:=bc hb m0;replace m1:=bc hb m1;replace m2:=bc hb m2;replace n0:=bc hb n0;replace n1:=bc hb n1;replace n2:=bc hb n2;clear hb;have L2 : True:=trivial))
    go_roundw
    case rel => exact ⟨k + 1,by omega,by go_num,HW⟩
    case measure => simp [intOf];omega
   ·have L0 : True:=trivial
    go_wp2_with (first | (clear L0;go_at_call 24;refine (Er (p:=D) (b:=true) HOD.out (Nk HOD.out e4.out) (Below.refl _ _) HR2.out).mono ?_;rintro x w9 ⟨rfl,hb⟩;have HW':=As (bj HW.out hb);clear HW;have HW:=HW';clear HW';have HX':=As (bj HX.out hb);clear HX;have HX:=HX';clear HX';have HQ3':=As (BF HQ2.out hb);clear HQ2;have HQ2:=HQ3';clear HQ3';have HR3':=As (BF HR2.out hb);clear HR2;have HR2:=HR3';clear HR3';replace g0:=bc hb g0;replace g1:=bc hb g1;replace g2:=bc hb g2;replace g3:=bc hb g3;replace g4:=bc hb g4;replace m0:=bc hb m0;replace m1:=bc hb m1;replace m2:=bc hb m2;replace n0:=bc hb n0;replace n1:=bc hb n1;replace n2:=bc hb n2;clear hb;have L1 : True:=trivial) | (clear L1;go_at_call 25;refine (Dq (p:=P) (b:=true) HOM.out (Below.refl _ _) HQ2.out).mono ?_;rintro x w9 ⟨rfl,hb⟩;have HW':=As (bj HW.out hb);clear HW;have HW:=HW';clear HW';have HX':=As (bj HX.out hb);clear HX;have HX:=HX';clear HX';have HQ3':=As (BF HQ2.out hb);clear HQ2;have HQ2:=HQ3';clear HQ3';have HR3':=As (BF HR2.out hb);clear HR2;have HR2:=HR3';clear HR3';replace g0:=bc hb g0;replace g1:=bc hb g1;replace g2:=bc hb g2;replace g3:=bc hb g3;replace g4:=bc hb g4;replace m0:=bc hb m0;replace m1:=bc hb m1;replace m2:=bc hb m2;replace n0:=bc hb n0;replace n1:=bc hb n1;replace n2:=bc hb n2;clear hb;have L2 : True:=trivial))
    go_roundw
    case rel => exact ⟨k + 1,by omega,by go_num,HW⟩
    case measure => simp [intOf];omega
   ·have L0 : True:=trivial
    go_wp2_with (first | (clear L0;go_at_call 25;refine (Dq (p:=P) (b:=true) HOM.out (Below.refl _ _) HQ2.out).mono ?_;rintro x w9 ⟨rfl,hb⟩;have HW':=As (bj HW.out hb);clear HW;have HW:=HW';clear HW';have HX':=As (bj HX.out hb);clear HX;have HX:=HX';clear HX';have HQ3':=As (BF HQ2.out hb);clear HQ2;have HQ2:=HQ3';clear HQ3';have HR3':=As (BF HR2.out hb);clear HR2;have HR2:=HR3';clear HR3';replace g0:=bc hb g0;replace g1:=bc hb g1;replace g2:=bc hb g2;replace g3:=bc hb g3;replace g4:=bc hb g4;replace m0:=bc hb m0;replace m1:=bc hb m1;replace m2:=bc hb m2;replace n0:=bc hb n0;replace n1:=bc hb n1;replace n2:=bc hb n2;clear hb;have L1 : True:=trivial))
    go_roundw
    case rel => exact ⟨k + 1,by omega,by go_num,HW⟩
    case measure => simp [intOf];omega
  ·have hki : ¬ (k : Int) < 5:=by omega
   clear hcg
   go_wp2_with (go_at_call 26;refine (AB (b:=true) HI.out.ok HGL.out (Below.refl wr.heap.size wr) HCG.out).mono ?_;rintro x w9 ⟨rfl,hb⟩;have HB9:=As (bj HB1.out (bj HB3.out (bj HX.out hb)));clear hb)
   go_ret
   exact ⟨rfl,HB9.out⟩
open Go.RowKit Go.Proofs.YtklmhkglcfjclaaGreatW.PrintWords Go.Proofs.YtklmhkglcfjclaaGreatW.PrintLast Go.Proofs.YtklmhkglcfjclaaGreatW.PrintMore Go.ChangeShapes Go.WideShapes Go.Deep
theorem BS {H : Type} {enc : TypeId × Value → H} {w : World} {held : Bool} {fuel : Nat} {cs : List Value} {y : DataW H × List MemPlace} (h : DataW.trod enc Tryz.prog w 0 (fun _ => true) held fuel 37 cs = some y) : ∃ xs A c,cs = [.slice A (List.length xs) c] ∧ xs.length ≤ c ∧ (Kd.int .u8).C w A xs.length xs ∧ Bytes xs:=by
 obtain ⟨xs,A,c,he,hcl,hr⟩:=E9 (d:=Kd.int .u8) Tryz.underlying37 (by kernel_rfl) (FB Tryz.underlying5) _ _ _ h
 refine ⟨xs,A,c,he,hcl,hr,fun b hb => ?_⟩
 obtain ⟨i,hi,rfl⟩:=List.getElem_of_mem hb
 obtain ⟨ad,ha,hc⟩:=Kb hr i hi
 rcases open_ints Tryz.underlying37 Tryz.underlying5 (by kernel_rfl) h with ⟨hcs,_⟩ | ⟨x,l,c',zs,hcs,_,hl,hm,hz,_,hcell,hwz⟩
 ·rw [he,ha] at hcs
  simp at hcs
 ·rw [he,ha] at hcs
  simp only [List.cons.injEq,Value.slice.injEq,Option.some.injEq,and_true] at hcs
  obtain ⟨rfl,h2,rfl⟩:=hcs
  rw [if_pos rfl] at hz
  have h3:=hcell i (by omega)
  rw [hc] at h3
  have h4 : iv xs i = zs.getD i 0:=by simpa using h3
  have h5:=range_u8 hwz i
  have e : iv xs i = xs[i]:=by simp [iv,List.getD_eq_getElem?_getD,hi]
  rw [← e,h4,List.getD_eq_getElem?_getD]
  exact h5
end Go.Proofs.YtklmhkglcfjclaaGreat
namespace Go.Proofs.YtklmhkglcfjclaaGreat.fnPlayOwn
open Go.ChangeShapes Go.WideShapes Go.ChangeAt Go.RowKit Go.Proofs.YtklmhkglcfjclaaGreat
theorem own : ownKnob Tryz.prog.godebug = none:=by kernel_rfl
theorem laidOut : laidOutB Tryz.prog = true:=by kernel_rfl
set_option maxRecDepth 100000 in
theorem lifted (os : Os) (started : os.Started) (H : Type) (enc : TypeId × Value → H) :
  ReturnsInHanded {} Tryz.checked os 5 .any (Rows.fnPlayOwnSpec.pre6 enc Tryz.prog Tryz.f5 Rows.fnPlayOwnRow.domain false) (Rows.fnPlayOwnSpec.post enc Tryz.prog Tryz.f5 false true false false):=by
 refine returnsInHanded_of_change_sized (C:=Tryz.checked) own started (by kernel_rfl) Tryz.func5
  (ChangeSpec.witness6 (enc:=enc) (C:=Tryz.checked) false ⟨#[],#[.slice none 0 0], []⟩ 8 (by kernel_rfl) (by kernel_rfl) (by kernel_rfl) (by kernel_rfl)) ?_
 intro W base args ds gs before hval0 hW hcnd hsz0 _
 have hval : ∀ (j : Nat) t v,Tryz.f5.params[j]? = some t → args[j]? = some v → Value.okWide Tryz.prog W .any base t v:=hval0
 have hW':=hW
 obtain ⟨p,q,hA0,hV,rfl,hfz,hnd⟩:=hW
 have hA : DataW.TrodAll enc Tryz.prog W 0 (fun _ => true) true Tryz.f5.params.toList args.toList ds p:=hA0
 rw [Tryz.params5] at hA hval
 obtain ⟨v0,vs0,d0,ds0,p0,q0,hargs,rfl,rfl,h0,r0⟩:=trodAll_cons hA
 obtain ⟨rfl,rfl,rfl⟩:=trodAll_nil r0
 obtain rfl : args = #[v0]:=by cases args;simp_all
 obtain ⟨rfl,rfl⟩:=trodVars_none hV
 have k0:=h0
 have lt0 : ∀ x ∈ p0,x.block < W.heap.size:=by obtain ⟨m,hm⟩:=k0;exact DataW.trod_lt m _ _ _ hm
 obtain ⟨a0,len0,cap0,rfl⟩:=okWide_slice Tryz.underlying37 (hval 0 37 v0 rfl rfl)
 obtain ⟨fuel0,hf0⟩:=h0
 obtain ⟨xs0,A0,c0,he0,hcl0,hr0,hby0⟩:=BS hf0
 obtain ⟨rfl,rfl,rfl⟩ : a0 = A0 ∧ len0 = xs0.length ∧ cap0 = c0:=by simpa [Value.cells] using he0
 clear hA0 hval0 hsz0 hval hA
 refine (NI hcl0 hby0 hr0).mono fun e1 W' ⟨he1,bel⟩ => ?_
 subst he1
 exact ⟨_,rfl,_,_,_, [],_, [],hW',trodAll_mk1 (shut_bool Tryz.underlying4 _),(trodAll_cons_mk (Below.trod laidOut (by kernel_rfl) (of_decide_eq_true (by kernel_rfl)) k0 bel lt0) trodAll_mk0),rfl,bel.frame _,fun h => by cases h⟩
theorem k24b : (Rows.fnPlayOwnRow.lifted == Tryz.pinned.checked.prog.liftsFinal) = true:=by
 rw [show Tryz.pinned.checked.prog.liftsFinal = false from Ea]
 rfl
theorem k24c : (Tryz.pinned.checked.prog.make == some Rows.fnPlayOwnRow.make) = true:=by
 rw [show Tryz.pinned.checked.prog.make = some Make.cut from Gs]
 rfl
set_option maxRecDepth 100000 in
set_option maxHeartbeats 8000000 in
theorem closed : joinedFacts Tryz.pinned.checked.prog 5 Tryz.f5 Rows.fnPlayOwnSpec Rows.fnPlayOwnRow = true:=by
 simp only [joinedFacts,Bool.and_eq_true]
 exact ⟨⟨⟨⟨⟨⟨⟨⟨⟨⟨⟨⟨⟨⟨⟨⟨⟨⟨⟨⟨⟨⟨⟨⟨⟨⟨⟨⟨⟨⟨⟨(by as_aux_lemma => kernel_rfl),(by as_aux_lemma => kernel_rfl)⟩,(by as_aux_lemma => kernel_rfl)⟩,(by as_aux_lemma => kernel_rfl)⟩,(by as_aux_lemma => kernel_rfl)⟩,(by as_aux_lemma => kernel_rfl)⟩,(by as_aux_lemma => kernel_rfl)⟩,(by as_aux_lemma => kernel_rfl)⟩,(by as_aux_lemma => kernel_rfl)⟩,(by as_aux_lemma => kernel_rfl)⟩,(by as_aux_lemma => kernel_rfl)⟩,(by as_aux_lemma => kernel_rfl)⟩,(by as_aux_lemma => kernel_rfl)⟩,(by as_aux_lemma => kernel_rfl)⟩,(by as_aux_lemma => kernel_rfl)⟩,(by as_aux_lemma => kernel_rfl)⟩,(by as_aux_lemma => kernel_rfl)⟩,(by as_aux_lemma => kernel_rfl)⟩,(by as_aux_lemma => kernel_rfl)⟩,(by as_aux_lemma => kernel_rfl)⟩,(by as_aux_lemma => kernel_rfl)⟩,(by as_aux_lemma => kernel_rfl)⟩,(by as_aux_lemma => kernel_rfl)⟩,(by as_aux_lemma => kernel_rfl)⟩,(by as_aux_lemma => kernel_rfl)⟩,FD⟩,k24b⟩,k24c⟩,(by as_aux_lemma => kernel_rfl)⟩,(by as_aux_lemma => kernel_rfl)⟩,(by as_aux_lemma => kernel_rfl)⟩,(by as_aux_lemma => kernel_rfl)⟩
theorem over : Rows.fnPlayOwnRow.holds Tryz.pinned (OpenSpec.ofChange Rows.fnPlayOwnSpec):=
 OpenClaim.holds_of_wide 5 Tryz.f5 rfl rfl rfl rfl rfl rfl rfl ⟨rfl,rfl,rfl,rfl,rfl⟩ rfl rfl rfl rfl rfl (by kernel_rfl) Tryz.func5 closed
  (of_decide_eq_true (by kernel_rfl)) (by unfold Func.isWrapper;first | (rw [if_pos (by decide +kernel)];kernel_rfl) | (rw [if_neg (by decide +kernel)];exact ⟨rfl,rfl⟩))
  (fun os started H enc _ => lifted os started H enc)
theorem proved : Rows.FnPlayOwnSaid:=over
end Go.Proofs.YtklmhkglcfjclaaGreat.fnPlayOwn
namespace Go.Proofs.YtklmhkglcfjclaaGreat
theorem fnPlayOwn_holds : Rows.FnPlayOwnSaid:=fnPlayOwn.proved
end Go.Proofs.YtklmhkglcfjclaaGreat
