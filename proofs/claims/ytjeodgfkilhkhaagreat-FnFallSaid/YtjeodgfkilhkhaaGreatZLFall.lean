/- Proved here: for all bytes that are handed in, laws.FnFall returns true (a fall of a drawn engine leaves what is safe, and what is behind it is ok). Conditions: none beyond those that the given statement itself bears. -/
import Derived.Test.YtjeodgfkilhkhaaGreatZS1
import Derived.Test.YtjeodgfkilhkhaaGreatZV2
import Derived.Test.YtjeodgfkilhkhaaGreatZI1
import Derived.Test.YtjeodgfkilhkhaaGreatZH1
import Derived.Test.YtjeodgfkilhkhaaGreatZN1
import Derived.Test.YtjeodgfkilhkhaaGreatZF1
import Derived.Test.YtjeodgfkilhkhaaGreatZT1
import Derived.Test.YtjeodgfkilhkhaaGreatZA1
import Derived.WalkKit
import Derived.ProofKit
import Derived.OpenShut
import Derived.ShutString
import Derived.ChangeOld
import Derived.Below
import Derived.SizedLaws
set_option linter.unusedVariables false
set_option linter.unusedSimpArgs false
namespace Go.Proofs.YtjeodgfkilhkhaaGreat
open Go.RowKit Go.Proofs.YtjeodgfkilhkhaaGreatW.PrintWords Go.Proofs.YtjeodgfkilhkhaaGreatW.PrintLast Go.Proofs.YtjeodgfkilhkhaaGreatW.PrintMore
set_option maxRecDepth 100000 in
set_option maxHeartbeats 16000000 in
theorem PN {w : World} {A : Option Addr} {c : Nat} {xs : List Int} (hcap : xs.length ≤ c) (hx : Bytes xs) (hr : Kd.C (Kd.int .u8) w A xs.length xs) : Calls Tryz.prog 3 #[.slice A xs.length c] w (OJ w):=by
 have HR:=As hr
 have HCAP:=As hcap
 have HBY:=As hx
 have hmx:=(CY hr).2
 clear hcap hx hr
 rcases lts 1048576 (xs.length : Int) with ⟨e1,b1,c1⟩ | ⟨e1,b1,c1⟩
 ·go_enter Tryz.func3,Tryz.ntmps3
  go_wp2
  go_ret
  exact ⟨rfl,Below.refl _ _⟩
 go_enter Tryz.func3,Tryz.ntmps3
 have D0 : True:=trivial
 go_wp2_with (first | (clear D0;go_at_call 10;refine (DrawRiseFall_calls HCAP.out HBY.out (Below.refl w.heap.size w) HR.out).mono ?_;rintro x w1 ⟨E,B1,B2,B3,d1,d2,d3,num,rfl,hcap,hfw,hD,hC,hb1⟩;have HE:=As hC;have HD:=As (And.intro hcap (And.intro hfw hD));have HB:=As hb1;clear hcap hfw hD hC hb1;have D1 : True:=trivial) | (clear D1;with_reducible refine Ca (vd:=.slice B1 E.disk.length d1) (vm:=.slice B2 E.mem.length d2) (vl:=.slice B3 E.log.length d3) E ?_;intro w2 hb hz hq;have HQ:=As hq;have HE:=As (HE.out.up hb);have HB:=As (bj HB.out hb);clear hb hz hq;obtain ⟨x0,x1,x2,x3,x4⟩:=HQ.out.all;have D2 : True:=trivial))
 obtain ⟨X,bb,hX⟩ : ∃ X bb,Fa E num = (X,bb):=⟨_,_,rfl⟩
 have HX:=As hX
 clear hX
 cases bb
 ·skip
  have K0 : True:=trivial
  go_wp2_with (first | (clear K0;go_at_call 11;refine (Ru (cd:=d1) (cm:=d2) (cl:=d3) num HD.out.1 (Below.refl _ _) HE.out).mono ?_;rw [HX.out];rintro x w3 ⟨vd,vm,vl,rfl,ho,hb⟩;obtain ⟨J1,j1_,J2,j2_,J3,j3_,rfl,rfl,rfl,hclHJ,hc⟩:=ho.reads;have HJ:=As hc;have HJL:=As hclHJ;have HE:=As (HE.out.up hb);have HQ:=As (HQ.out.up hb);have HB:=As (bj HB.out hb);clear x0 x1 x2 x3 x4;obtain ⟨x0,x1,x2,x3,x4⟩:=HQ.out.all;clear ho hb hc hclHJ;have K1 : True:=trivial) | (clear K1;with_reducible refine Ca (vd:=.slice J1 X.disk.length j1_) (vm:=.slice J2 X.mem.length j2_) (vl:=.slice J3 X.log.length j3_) X ?_;intro w4 hb hz hq;have HQS:=As hq;have HE:=As (HE.out.up hb);have HJ:=As (HJ.out.up hb);have HQ:=As (HQ.out.up hb);have HB:=As (bj HB.out hb);clear x0 x1 x2 x3 x4;obtain ⟨x0,x1,x2,x3,x4⟩:=HQ.out.all;clear hb hz hq;obtain ⟨s0,s1,s2,s3,s4⟩:=HQS.out.all;have K2 : True:=trivial) | (clear K2;go_at_call 12;refine (Vp (cd:=d1) (cm:=d2) (cl:=d3) num HD.out.1 (Below.refl _ _) HE.out).mono ?_;rw [HX.out];rintro x w5 ⟨vd,vm,vl,rfl,ho,hb⟩;obtain ⟨G1,g1_,G2,g2_,G3,g3_,rfl,rfl,rfl,hclHG,hc⟩:=ho.reads;have HG:=As hc;have HGL:=As hclHG;have HE:=As (HE.out.up hb);have HJ:=As (HJ.out.up hb);have HQ:=As (HQ.out.up hb);have HQS:=As (HQS.out.up hb);have HB:=As (bj HB.out hb);clear x0 x1 x2 x3 x4;obtain ⟨x0,x1,x2,x3,x4⟩:=HQ.out.all;clear s0 s1 s2 s3 s4;obtain ⟨s0,s1,s2,s3,s4⟩:=HQS.out.all;clear ho hb hc hclHG;have K3 : True:=trivial) | (clear K3;with_reducible refine Ca (vd:=.slice G1 X.disk.length g1_) (vm:=.slice G2 X.mem.length g2_) (vl:=.slice G3 X.log.length g3_) X ?_;intro w6 hb hz hq;have HQG:=As hq;have HE:=As (HE.out.up hb);have HJ:=As (HJ.out.up hb);have HG:=As (HG.out.up hb);have HQ:=As (HQ.out.up hb);have HQS:=As (HQS.out.up hb);have HB:=As (bj HB.out hb);clear x0 x1 x2 x3 x4;obtain ⟨x0,x1,x2,x3,x4⟩:=HQ.out.all;clear s0 s1 s2 s3 s4;obtain ⟨s0,s1,s2,s3,s4⟩:=HQS.out.all;clear hb hz hq;obtain ⟨g0,g1,g2,g3,g4⟩:=HQG.out.all;have K4 : True:=trivial) | (clear K4;go_at_call 13;refine (UU (e:=X) (cd:=g1_) (cm:=g2_) (cl:=g3_) (dd:=j1_) (dm:=j2_) (dl:=j3_) (Below.refl _ _) HG.out (Below.refl _ _) HJ.out).mono ?_;rintro x w7 ⟨rfl,hb⟩;have HE:=As (HE.out.up hb);have HJ:=As (HJ.out.up hb);have HG:=As (HG.out.up hb);have HQ:=As (HQ.out.up hb);have HQS:=As (HQS.out.up hb);have HQG:=As (HQG.out.up hb);have HB:=As (bj HB.out hb);clear x0 x1 x2 x3 x4;obtain ⟨x0,x1,x2,x3,x4⟩:=HQ.out.all;clear s0 s1 s2 s3 s4;obtain ⟨s0,s1,s2,s3,s4⟩:=HQS.out.all;clear g0 g1 g2 g3 g4;obtain ⟨g0,g1,g2,g3,g4⟩:=HQG.out.all;clear hb;have K5 : True:=trivial) | (clear K5;go_at_call 13;refine (UU (e:=X) (cd:=g1_) (cm:=g2_) (cl:=g3_) (dd:=j1_) (dm:=j2_) (dl:=j3_) (Below.refl _ _) HG.out (Below.refl _ _) HJ.out).mono ?_;rintro x w8 ⟨rfl,hb⟩;have HE:=As (HE.out.up hb);have HJ:=As (HJ.out.up hb);have HG:=As (HG.out.up hb);have HQ:=As (HQ.out.up hb);have HQS:=As (HQS.out.up hb);have HQG:=As (HQG.out.up hb);have HB:=As (bj HB.out hb);clear x0 x1 x2 x3 x4;obtain ⟨x0,x1,x2,x3,x4⟩:=HQ.out.all;clear s0 s1 s2 s3 s4;obtain ⟨s0,s1,s2,s3,s4⟩:=HQS.out.all;clear g0 g1 g2 g3 g4;obtain ⟨g0,g1,g2,g3,g4⟩:=HQG.out.all;clear hb;have K6 : True:=trivial))
  go_ret
  exact ⟨rfl,HB.out⟩
 obtain ⟨hok,hn0⟩:=fallR_yes HX.out
 have HOK:=As hok
 obtain ⟨l,hl⟩ : ∃ l,(BL E num).log = l:=⟨_,rfl⟩
 have hfl:=YQ hok num
 rw [hl] at hfl
 have hXX : X = ⟨E.disk,E.disk,l,E.safe,true⟩:=by have h:=HX.out;rw [XM hok hn0] at h;have h2 : BL E num = X:=congrArg Prod.fst h;rw [← h2, ← hl];rfl
 have HFO:=As (show eOk ⟨E.disk,E.disk,l,E.safe,true⟩ = true by rw [← hXX];have h:=HX.out;rw [XM hok hn0] at h;rw [show X = BL E num from (congrArg Prod.fst h).symm];exact Wq hok HD.out.2.2 num)
 have HMX:=As hfl.1.symm
 have HTK:=As hfl.2
 have hll : l.length ≤ E.log.length:=by rw [hfl.2,List.length_take];omega
 have HLL:=As (And.intro hll HD.out.1)
 clear hok hn0 hfl hl hll
 subst hXX
 have K0 : True:=trivial
 go_wp2_with (first | (clear K0;go_at_call 11;refine (Ru (cd:=d1) (cm:=d2) (cl:=d3) num HD.out.1 (Below.refl _ _) HE.out).mono ?_;rw [HX.out];rintro x w3 ⟨vd,vm,vl,rfl,ho,hb⟩;obtain ⟨J1,j1_,J2,j2_,J3,j3_,rfl,rfl,rfl,hclHJ,hc⟩:=ho.reads;have HJ:=As hc;have HJL:=As hclHJ;have HE:=As (HE.out.up hb);have HQ:=As (HQ.out.up hb);have HB:=As (bj HB.out hb);clear x0 x1 x2 x3 x4;obtain ⟨x0,x1,x2,x3,x4⟩:=HQ.out.all;clear ho hb hc hclHJ;have K1 : True:=trivial) | (clear K1;with_reducible refine Ca (vd:=.slice J1 E.disk.length j1_) (vm:=.slice J2 E.disk.length j2_) (vl:=.slice J3 l.length j3_) ⟨E.disk,E.disk,l,E.safe,true⟩ ?_;intro w4 hb hz hq;have HQS:=As hq;have HE:=As (HE.out.up hb);have HJ:=As (HJ.out.up hb);have HQ:=As (HQ.out.up hb);have HB:=As (bj HB.out hb);clear x0 x1 x2 x3 x4;obtain ⟨x0,x1,x2,x3,x4⟩:=HQ.out.all;clear hb hz hq;obtain ⟨s0,s1,s2,s3,s4⟩:=HQS.out.all;have K2 : True:=trivial) | (clear K2;go_at_call 12;refine (Vp (cd:=d1) (cm:=d2) (cl:=d3) num HD.out.1 (Below.refl _ _) HE.out).mono ?_;rw [HX.out];rintro x w5 ⟨vd,vm,vl,rfl,ho,hb⟩;obtain ⟨G1,g1_,G2,g2_,G3,g3_,rfl,rfl,rfl,hclHG,hc⟩:=ho.reads;have HG:=As hc;have HGL:=As hclHG;have HE:=As (HE.out.up hb);have HJ:=As (HJ.out.up hb);have HQ:=As (HQ.out.up hb);have HQS:=As (HQS.out.up hb);have HB:=As (bj HB.out hb);clear x0 x1 x2 x3 x4;obtain ⟨x0,x1,x2,x3,x4⟩:=HQ.out.all;clear s0 s1 s2 s3 s4;obtain ⟨s0,s1,s2,s3,s4⟩:=HQS.out.all;clear ho hb hc hclHG;have K3 : True:=trivial) | (clear K3;with_reducible refine Ca (vd:=.slice G1 E.disk.length g1_) (vm:=.slice G2 E.disk.length g2_) (vl:=.slice G3 l.length g3_) ⟨E.disk,E.disk,l,E.safe,true⟩ ?_;intro w6 hb hz hq;have HQG:=As hq;have HE:=As (HE.out.up hb);have HJ:=As (HJ.out.up hb);have HG:=As (HG.out.up hb);have HQ:=As (HQ.out.up hb);have HQS:=As (HQS.out.up hb);have HB:=As (bj HB.out hb);clear x0 x1 x2 x3 x4;obtain ⟨x0,x1,x2,x3,x4⟩:=HQ.out.all;clear s0 s1 s2 s3 s4;obtain ⟨s0,s1,s2,s3,s4⟩:=HQS.out.all;clear hb hz hq;obtain ⟨g0,g1,g2,g3,g4⟩:=HQG.out.all;have K4 : True:=trivial) | (clear K4;go_at_call 13;refine (UU (e:=⟨E.disk,E.disk,l,E.safe,true⟩) (cd:=g1_) (cm:=g2_) (cl:=g3_) (dd:=j1_) (dm:=j2_) (dl:=j3_) (Below.refl _ _) HG.out (Below.refl _ _) HJ.out).mono ?_;rintro x w7 ⟨rfl,hb⟩;have HE:=As (HE.out.up hb);have HJ:=As (HJ.out.up hb);have HG:=As (HG.out.up hb);have HQ:=As (HQ.out.up hb);have HQS:=As (HQS.out.up hb);have HQG:=As (HQG.out.up hb);have HB:=As (bj HB.out hb);clear x0 x1 x2 x3 x4;obtain ⟨x0,x1,x2,x3,x4⟩:=HQ.out.all;clear s0 s1 s2 s3 s4;obtain ⟨s0,s1,s2,s3,s4⟩:=HQS.out.all;clear g0 g1 g2 g3 g4;obtain ⟨g0,g1,g2,g3,g4⟩:=HQG.out.all;clear hb;have K5 : True:=trivial))
 obtain ⟨hl1,hl2⟩:=HLL.out
 have hlc : (l.length : Int) ≤ (d3 : Int):=by omega
 have hle : (l.length : Int) ≤ (E.log.length : Int):=by omega
 have HTC : A7 (Kd.C kRec w7 B3 l.length l):=⟨by have h:=Kd.Sw HE.out.l hl1;rw [← HTK.out] at h;exact h⟩
 refine Bo (fun lx a wx => Below w7.heap.size w7 wx) 49 rfl (by kernel_rfl) (Ac (Below.refl _ _)) (fun HT => ?_)
 refine Bw [0,1,2,3,4,5,6] ?_
 iterate 7 (refine Bq (v:=?_) HT rfl (by kernel_rfl) rfl (Ah) (by rfl) (fun _ _ _ h => h) (fun lx ax wx hS => ?_) ?_;rotate_left;(have hbx:=hS;replace x0:=bc hbx x0;replace x1:=bc hbx x1;replace x2:=bc hbx x2;replace x3:=bc hbx x3;replace x4:=bc hbx x4;replace g0:=bc hbx g0;replace g1:=bc hbx g1;replace g2:=bc hbx g2;replace g3:=bc hbx g3;replace g4:=bc hbx g4;go_simp;with_reducible rfl);rotate_left;simp only [sc0,sc1])
 refine Bv ?_
 refine Cr (i:=7) (f:=14) (args:=#[.slice G2 E.disk.length g2_, .slice B1 E.disk.length d1]) (fun v => v = .bool true) rfl (by kernel_rfl) rfl Tryz.func14 (by kernel_rfl) rfl rfl (by rfl) (by simp only [List.map_toArray,List.map_cons,List.map_nil];rfl) (fun wx hS => (Kt hS HG.out.m hS HE.out.d).mono (by rintro x wz ⟨rfl,hb⟩;exact ⟨_,rfl,rfl,bj hS hb⟩)) (fun vx hg => ?_);simp only [sc0,sc1]
 subst hg
 refine Bw [8,9,10,11,12,13] ?_
 iterate 6 (refine Bq (v:=?_) HT rfl (by kernel_rfl) rfl (Ah) (by rfl) (fun _ _ _ h => h) (fun lx ax wx hS => ?_) ?_;rotate_left;(have hbx:=hS;replace x0:=bc hbx x0;replace x1:=bc hbx x1;replace x2:=bc hbx x2;replace x3:=bc hbx x3;replace x4:=bc hbx x4;replace g0:=bc hbx g0;replace g1:=bc hbx g1;replace g2:=bc hbx g2;replace g3:=bc hbx g3;replace g4:=bc hbx g4;go_simp;with_reducible rfl);rotate_left;simp only [sc0,sc1])
 refine Bv ?_
 refine Cr (i:=14) (f:=14) (args:=#[.slice G1 E.disk.length g1_, .slice B1 E.disk.length d1]) (fun v => v = .bool true) rfl (by kernel_rfl) rfl Tryz.func14 (by kernel_rfl) rfl rfl (by rfl) (by simp only [List.map_toArray,List.map_cons,List.map_nil];rfl) (fun wx hS => (Kt hS HG.out.d hS HE.out.d).mono (by rintro x wz ⟨rfl,hb⟩;exact ⟨_,rfl,rfl,bj hS hb⟩)) (fun vx hg => ?_);simp only [sc0,sc1]
 subst hg
 refine Bw [15,16,17,18,19,20,21,22,23,24,25,26,27,28,29,30,31,32] ?_
 iterate 18 (refine Bq (v:=?_) HT rfl (by kernel_rfl) rfl (Ah) (by rfl) (fun _ _ _ h => h) (fun lx ax wx hS => ?_) ?_;rotate_left;(have hbx:=hS;replace x0:=bc hbx x0;replace x1:=bc hbx x1;replace x2:=bc hbx x2;replace x3:=bc hbx x3;replace x4:=bc hbx x4;replace g0:=bc hbx g0;replace g1:=bc hbx g1;replace g2:=bc hbx g2;replace g3:=bc hbx g3;replace g4:=bc hbx g4;go_simp;with_reducible rfl);rotate_left;simp only [sc0,sc1])
 refine Bv ?_
 refine CZ (i:=33) (v:=?_) HT rfl (by kernel_rfl) rfl (Ah) (by rfl) (fun _ _ _ h => h) (fun lx ax wx hS => ?_) ?_;rotate_left;(have hmx:=HMX.out;have hbx:=hS;replace x0:=bc hbx x0;replace x1:=bc hbx x1;replace x2:=bc hbx x2;replace x3:=bc hbx x3;replace x4:=bc hbx x4;replace g0:=bc hbx g0;replace g1:=bc hbx g1;replace g2:=bc hbx g2;replace g3:=bc hbx g3;replace g4:=bc hbx g4;go_simp;with_reducible rfl);rotate_left;simp only [sc0,sc1]
 refine Bw [34,35,36,37,38,39,40,41] ?_
 iterate 8 (refine Bq (v:=?_) HT rfl (by kernel_rfl) rfl (Ah) (by rfl) (fun _ _ _ h => h) (fun lx ax wx hS => ?_) ?_;rotate_left;(have hbx:=hS;replace x0:=bc hbx x0;replace x1:=bc hbx x1;replace x2:=bc hbx x2;replace x3:=bc hbx x3;replace x4:=bc hbx x4;replace g0:=bc hbx g0;replace g1:=bc hbx g1;replace g2:=bc hbx g2;replace g3:=bc hbx g3;replace g4:=bc hbx g4;go_simp;with_reducible rfl);rotate_left;simp only [sc0,sc1])
 refine Bv ?_
 refine Cr (i:=42) (f:=15) (args:=#[.slice G3 l.length g3_, .slice B3 l.length d3]) (fun v => v = .bool true) rfl (by kernel_rfl) rfl Tryz.func15 (by kernel_rfl) rfl rfl (by rfl) (by simp only [List.map_toArray,List.map_cons,List.map_nil];rfl) (fun wx hS => (P7 hS HG.out.l hS HTC.out).mono (by rintro x wz ⟨rfl,hb⟩;exact ⟨_,rfl,rfl,bj hS hb⟩)) (fun vx hg => ?_);simp only [sc0,sc1]
 subst hg
 refine Bw [43,44,45] ?_
 iterate 3 (refine Bq (v:=?_) HT rfl (by kernel_rfl) rfl (Ah) (by rfl) (fun _ _ _ h => h) (fun lx ax wx hS => ?_) ?_;rotate_left;(have hbx:=hS;replace x0:=bc hbx x0;replace x1:=bc hbx x1;replace x2:=bc hbx x2;replace x3:=bc hbx x3;replace x4:=bc hbx x4;replace g0:=bc hbx g0;replace g1:=bc hbx g1;replace g2:=bc hbx g2;replace g3:=bc hbx g3;replace g4:=bc hbx g4;go_simp;with_reducible rfl);rotate_left;simp only [sc0,sc1])
 refine Bv ?_
 refine Cr (i:=46) (f:=16) (args:=#[Eng.val ⟨E.disk,E.disk,l,E.safe,true⟩ G1 G2 G3 g1_ g2_ g3_]) (fun v => v = .bool true) rfl (by kernel_rfl) rfl Tryz.func16 (by kernel_rfl) rfl rfl (by rfl) (by simp only [List.map_toArray,List.map_cons,List.map_nil];rfl) (fun wx hS => (BU (cd:=g1_) (cm:=g2_) HFO.out HGL.out hS HG.out).mono (by rintro x wz ⟨rfl,hb⟩;exact ⟨_,rfl,rfl,bj hS hb⟩)) (fun vx hg => ?_);simp only [sc0,sc1]
 subst hg
 refine Bw [47,48] ?_
 iterate 2 (refine Bq (v:=?_) HT rfl (by kernel_rfl) rfl (Ah) (by rfl) (fun _ _ _ h => h) (fun lx ax wx hS => ?_) ?_;rotate_left;(have hbx:=hS;replace x0:=bc hbx x0;replace x1:=bc hbx x1;replace x2:=bc hbx x2;replace x3:=bc hbx x3;replace x4:=bc hbx x4;replace g0:=bc hbx g0;replace g1:=bc hbx g1;replace g2:=bc hbx g2;replace g3:=bc hbx g3;replace g4:=bc hbx g4;go_simp;with_reducible rfl);rotate_left;simp only [sc0,sc1])
 refine Bv ?_
 refine GU (by kernel_rfl) (fun wx hS => ?_)
 have HZ:=As (bj HB.out hS)
 clear hS
 go_wp2
 go_ret
 exact ⟨rfl,HZ.out⟩
open Go.RowKit Go.Proofs.YtjeodgfkilhkhaaGreatW.PrintWords Go.Proofs.YtjeodgfkilhkhaaGreatW.PrintLast Go.Proofs.YtjeodgfkilhkhaaGreatW.PrintMore Go.ChangeShapes Go.WideShapes Go.Deep
theorem Qk {H : Type} {enc : TypeId × Value → H} {w : World} {held : Bool} {fuel : Nat} {cs : List Value} {y : DataW H × List MemPlace} (h : DataW.trod enc Tryz.prog w 0 (fun _ => true) held fuel 22 cs = some y) : ∃ xs A c,cs = [.slice A (List.length xs) c] ∧ xs.length ≤ c ∧ (Kd.int .u8).C w A xs.length xs ∧ Bytes xs:=by
 obtain ⟨xs,A,c,he,hcl,hr⟩:=Qj (d:=Kd.int .u8) Tryz.underlying22 (by kernel_rfl) (U3 Tryz.underlying5) _ _ _ h
 refine ⟨xs,A,c,he,hcl,hr,fun b hb => ?_⟩
 obtain ⟨i,hi,rfl⟩:=List.getElem_of_mem hb
 obtain ⟨ad,ha,hc⟩:=Ti hr i hi
 rcases open_ints Tryz.underlying22 Tryz.underlying5 (by kernel_rfl) h with ⟨hcs,_⟩ | ⟨x,l,c',zs,hcs,_,hl,hm,hz,_,hcell,hwz⟩
 ·rw [he,ha] at hcs
  simp at hcs
 ·rw [he,ha] at hcs
  simp only [List.cons.injEq,Value.slice.injEq,Option.some.injEq,and_true] at hcs
  obtain ⟨rfl,h2,rfl⟩:=hcs
  rw [if_pos rfl] at hz
  have h3:=hcell i (by omega)
  rw [hc] at h3
  have h4 : iv xs i = zs.getD i 0:=by simpa using h3
  have h5:=range_u8 hwz i
  have e : iv xs i = xs[i]:=by simp [iv,List.getD_eq_getElem?_getD,hi]
  rw [← e,h4,List.getD_eq_getElem?_getD]
  exact h5
end Go.Proofs.YtjeodgfkilhkhaaGreat
namespace Go.Proofs.YtjeodgfkilhkhaaGreat.fnFall
open Go.ChangeShapes Go.WideShapes Go.ChangeAt Go.RowKit Go.Proofs.YtjeodgfkilhkhaaGreat
theorem own : ownKnob Tryz.prog.godebug = none:=by kernel_rfl
theorem laidOut : laidOutB Tryz.prog = true:=by kernel_rfl
set_option maxRecDepth 100000 in
theorem lifted (os : Os) (started : os.Started) (H : Type) (enc : TypeId × Value → H) :
  ReturnsInHanded {} Tryz.checked os 3 .any (Rows.fnFallSpec.pre6 enc Tryz.prog Tryz.f3 Rows.fnFallRow.domain false) (Rows.fnFallSpec.post enc Tryz.prog Tryz.f3 false true false false):=by
 refine returnsInHanded_of_change_sized (C:=Tryz.checked) own started (by kernel_rfl) Tryz.func3
  (ChangeSpec.witness6 (enc:=enc) (C:=Tryz.checked) false ⟨#[],#[.slice none 0 0], []⟩ 8 (by kernel_rfl) (by kernel_rfl) (by kernel_rfl) (by kernel_rfl)) ?_
 intro W base args ds gs before hval0 hW hcnd hsz0 _
 have hval : ∀ (j : Nat) t v,Tryz.f3.params[j]? = some t → args[j]? = some v → Value.okWide Tryz.prog W .any base t v:=hval0
 have hW':=hW
 obtain ⟨p,q,hA0,hV,rfl,hfz,hnd⟩:=hW
 have hA : DataW.TrodAll enc Tryz.prog W 0 (fun _ => true) true Tryz.f3.params.toList args.toList ds p:=hA0
 rw [Tryz.params3] at hA hval
 obtain ⟨v0,vs0,d0,ds0,p0,q0,hargs,rfl,rfl,h0,r0⟩:=trodAll_cons hA
 obtain ⟨rfl,rfl,rfl⟩:=trodAll_nil r0
 obtain rfl : args = #[v0]:=by cases args;simp_all
 obtain ⟨rfl,rfl⟩:=trodVars_none hV
 have k0:=h0
 have lt0 : ∀ x ∈ p0,x.block < W.heap.size:=by obtain ⟨m,hm⟩:=k0;exact DataW.trod_lt m _ _ _ hm
 obtain ⟨a0,lnn0,cap0,rfl⟩:=okWide_slice Tryz.underlying22 (hval 0 22 v0 rfl rfl)
 obtain ⟨fuel0,hf0⟩:=h0
 obtain ⟨xs0,A0,c0,he0,hcl0,hr0,hby0⟩:=Qk hf0
 obtain ⟨rfl,rfl,rfl⟩ : a0 = A0 ∧ lnn0 = xs0.length ∧ cap0 = c0:=by simpa [Value.cells] using he0
 clear hA0 hval0 hsz0 hval hA
 refine (PN hcl0 hby0 hr0).mono fun e1 W' ⟨he1,bel⟩ => ?_
 subst he1
 exact ⟨_,rfl,_,_,_, [],_, [],hW',trodAll_mk1 (shut_bool Tryz.underlying4 _),(trodAll_cons_mk (Below.trod laidOut (by kernel_rfl) (of_decide_eq_true (by kernel_rfl)) k0 bel lt0) trodAll_mk0),rfl,bel.frame _,fun h => by cases h⟩
theorem k24b : (Rows.fnFallRow.lifted == Tryz.pinned.checked.prog.liftsFinal) = true:=by
 rw [show Tryz.pinned.checked.prog.liftsFinal = false from Qy]
 rfl
theorem k24c : (Tryz.pinned.checked.prog.make == some Rows.fnFallRow.make) = true:=by
 rw [show Tryz.pinned.checked.prog.make = some Make.cut from UR]
 rfl
set_option maxRecDepth 100000 in
set_option maxHeartbeats 8000000 in
theorem closed : joinedFacts Tryz.pinned.checked.prog 3 Tryz.f3 Rows.fnFallSpec Rows.fnFallRow = true:=by
 simp only [joinedFacts,Bool.and_eq_true]
 exact ⟨⟨⟨⟨⟨⟨⟨⟨⟨⟨⟨⟨⟨⟨⟨⟨⟨⟨⟨⟨⟨⟨⟨⟨⟨⟨⟨⟨⟨⟨⟨(by as_aux_lemma => kernel_rfl),(by as_aux_lemma => kernel_rfl)⟩,(by as_aux_lemma => kernel_rfl)⟩,(by as_aux_lemma => kernel_rfl)⟩,(by as_aux_lemma => kernel_rfl)⟩,(by as_aux_lemma => kernel_rfl)⟩,(by as_aux_lemma => kernel_rfl)⟩,(by as_aux_lemma => kernel_rfl)⟩,(by as_aux_lemma => kernel_rfl)⟩,(by as_aux_lemma => kernel_rfl)⟩,(by as_aux_lemma => kernel_rfl)⟩,(by as_aux_lemma => kernel_rfl)⟩,(by as_aux_lemma => kernel_rfl)⟩,(by as_aux_lemma => kernel_rfl)⟩,(by as_aux_lemma => kernel_rfl)⟩,(by as_aux_lemma => kernel_rfl)⟩,(by as_aux_lemma => kernel_rfl)⟩,(by as_aux_lemma => kernel_rfl)⟩,(by as_aux_lemma => kernel_rfl)⟩,(by as_aux_lemma => kernel_rfl)⟩,(by as_aux_lemma => kernel_rfl)⟩,(by as_aux_lemma => kernel_rfl)⟩,(by as_aux_lemma => kernel_rfl)⟩,(by as_aux_lemma => kernel_rfl)⟩,(by as_aux_lemma => kernel_rfl)⟩,U8⟩,k24b⟩,k24c⟩,(by as_aux_lemma => kernel_rfl)⟩,(by as_aux_lemma => kernel_rfl)⟩,(by as_aux_lemma => kernel_rfl)⟩,(by as_aux_lemma => kernel_rfl)⟩
theorem over : Rows.fnFallRow.holds Tryz.pinned (OpenSpec.ofChange Rows.fnFallSpec):=
 OpenClaim.holds_of_wide 3 Tryz.f3 rfl rfl rfl rfl rfl rfl rfl ⟨rfl,rfl,rfl,rfl,rfl⟩ rfl rfl rfl rfl rfl (by kernel_rfl) Tryz.func3 closed
  (of_decide_eq_true (by kernel_rfl)) (by unfold Func.isWrapper;first | (rw [if_pos (by decide +kernel)];kernel_rfl) | (rw [if_neg (by decide +kernel)];exact ⟨rfl,rfl⟩))
  (fun os started H enc _ => lifted os started H enc)
theorem proved : Rows.FnFallSaid:=over
end Go.Proofs.YtjeodgfkilhkhaaGreat.fnFall
namespace Go.Proofs.YtjeodgfkilhkhaaGreat
theorem fnFall_holds : Rows.FnFallSaid:=fnFall.proved
end Go.Proofs.YtjeodgfkilhkhaaGreat
