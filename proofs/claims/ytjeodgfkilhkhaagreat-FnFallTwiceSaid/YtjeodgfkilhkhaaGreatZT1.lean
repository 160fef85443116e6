/- A part of the proof: what the last text of the claim says leans on this one. -/
import Derived.Test.YtjeodgfkilhkhaaGreatZS1
set_option linter.unusedVariables false
set_option linter.unusedSimpArgs false
namespace Go.Proofs.YtjeodgfkilhkhaaGreat
open Go.RowKit Go.Proofs.YtjeodgfkilhkhaaGreatW.PrintWords Go.Proofs.YtjeodgfkilhkhaaGreatW.PrintLast Go.Proofs.YtjeodgfkilhkhaaGreatW.PrintMore
set_option maxRecDepth 100000 in
set_option maxHeartbeats 16000000 in
theorem DrawRiseFall_calls {w0 w : World} {A : Option Addr} {c : Nat} {xs : List Int} (hcap : xs.length ≤ c) (hx : Bytes xs) (hb : Below w0.heap.size w0 w) (hr : Kd.C (Kd.int .u8) w0 A xs.length xs) : Calls Tryz.prog 10 #[.slice A xs.length c] w (RetDN w):=by
 have HR:=As (BF hr hb)
 have HX:=As hx
 have HC:=As hcap
 have hmx:=(CY hr).2
 have K0 : True:=trivial
 clear hr hb hx hcap
 go_enter Tryz.func10,Tryz.ntmps10
 go_wp2_with (first | (clear K0;refine Ca (vd:=.slice none 0 0) (vm:=.slice none 0 0) (vl:=.slice none 0 0) zE ?_;intro w1 hb1 hz1 hq1;have HB1:=As hb1;have HZ:=As hq1;have HN:=As hz1;clear hb1 hz1 hq1;have K1 : True:=trivial) | (clear K1;go_at_call 31;refine (Wl HC.out hmx).mono ?_;rintro x w2 ⟨g,m,d,rfl,hg,hm2,hm,hq,hb2⟩;obtain ⟨ys,hys⟩ : ∃ ys,xs.take m = ys:=⟨_,rfl⟩;have hry:=Kd.Sw HR.out hm;have hxy:=HX.out.take m;rw [hys] at hm2 hq hry hxy;have HBY : A7 (By w A ys):=⟨⟨hm2,hxy,hry⟩⟩;have HG:=As (show w.heap.size < g by have:=HN.out;omega);have HZ:=As (HZ.out.up hb2);have HB2:=As (bj HB1.out hb2);have HQ:=As hq;clear hg hm2 hm hq hb2 hys hry hxy;have K2 : True:=trivial) | (clear K2;go_at_call 32;refine (l72Up_calls (wB:=w) (p:=0) (by decide) HBY.out HB2.out (Nat.le_of_lt HG.out) HQ.out).mono ?_;rintro x w3 ⟨E,B1,B2,B3,d1,d2,d3,rfl,hcp,hD,hfw,hF,⟨r,hr0,hr1,hrd⟩,hw⟩;have hgl:=HQ.out.lt;have HZ:=As (show Ab w3 w.heap.size zE OZ OZ OZ from (hw.kept.2 _ HZ.out.lt (by have:=HG.out;omega)).trans HZ.out);have HB3:=As (HB2.out.trans (hw.bel (fun k hk => by have hk : k = g:=hk;have:=HG.out;omega) HB2.out.size));have HF:=As hF;have HGL:=As (And.intro hgl hw.kept.1);have HD:=As (And.intro hcp (And.intro hfw hD));have HRD : A7 (∃ r,0 ≤ r ∧ r ≤ 13000 ∧ BZ w3 g A ys.length d r):=⟨⟨r,hr0,by omega,hrd⟩⟩;clear hcp hD hfw hF hr0 hr1 hrd hw hgl;have K3 : True:=trivial))
 obtain ⟨w4,hw4⟩ : ∃ w4,w3.alloc (Obj.cells #[.slice B1 E.disk.length d1, .slice B2 E.mem.length d2, .slice B3 E.log.length d3, .int .i64 E.safe, .bool E.down] 26) = w4:=⟨_,rfl⟩
 rw [hw4]
 have hb4 : Below w3.heap.size w3 w4:=by rw [← hw4];exact Aa (Below.refl _ _) _
 have hq4 : Ab w4 w3.heap.size E (.slice B1 E.disk.length d1) (.slice B2 E.mem.length d2) (.slice B3 E.log.length d3):=by rw [← hw4];exact Ab.mk1 _ _ _ _ _
 have HS : A7 (Dw w w4 g A ys.length d 13000 w3.heap.size w2.heap.size E B1 B2 B3 d1 d2 d3):=⟨by obtain ⟨r,h1,h2,h3⟩:=HRD.out;have h4:=HGL.out;exact ⟨⟨r,h1,h2,h3.up hb4⟩,bj HB3.out hb4,HZ.out.up hb4,hq4,HF.out.below hb4,HD.out.1,HD.out.2.1,HG.out,h4.1,by omega⟩⟩
 have HBB:=As (show w.heap.size < w3.heap.size from HZ.out.lt)
 clear hb4 hq4 hw4
 have hll:=HD.out.2.1
 refine Bo (fun lx a wx => Ab wx w3.heap.size E (.slice B1 E.disk.length d1) (.slice B2 E.mem.length d2) (.slice B3 E.log.length d3) ∧ (Un 13 (fun wx => Dw w wx g A ys.length d 13002 w3.heap.size w2.heap.size E B1 B2 B3 d1 d2 d3) lx a wx ∧ (Un 9 (fun wx => Dw w wx g A ys.length d 13001 w3.heap.size w2.heap.size E B1 B2 B3 d1 d2 d3) lx a wx ∧ (Un 5 (fun wx => Dw w wx g A ys.length d 13000 w3.heap.size w2.heap.size E B1 B2 B3 d1 d2 d3) lx a wx ∧ Ys 13 (fun wx => ∃ wy,Dw w wy g A ys.length d 13002 w3.heap.size w2.heap.size E B1 B2 B3 d1 d2 d3 ∧ wx = Go.Proofs.YtjeodgfkilhkhaaGreat.Ap wy w.heap.size E (.slice B1 E.disk.length d1) (.slice B2 E.mem.length d2) (.slice B3 E.log.length d3)) lx a wx)))) 15 rfl (by kernel_rfl) (⟨HS.out.eg.up (Ac (Below.refl _ _)),fun _ => (HS.out.below (Ac (Below.refl _ _))).more (by decide),fun _ => (HS.out.below (Ac (Below.refl _ _))).more (by decide),fun _ => HS.out.below (Ac (Below.refl _ _)),KV⟩) (fun HT => ?_)
 refine Bw [0,1,2,3,4,8] ?_
 iterate 6 (refine Bq (v:=?_) HT rfl (by kernel_rfl) rfl (kA Ah (kA (Bj rfl) (kA (Bj rfl) (kA (Bj rfl) (Gx rfl))))) (by rfl) (fun _ _ _ h => h) (fun lx ax wx hS => ?_) ?_;rotate_left;(have x0:=(hS.1).c0;have x1:=(hS.1).c1;have x2:=(hS.1).c2;have x3:=(hS.1).c3;have x4:=(hS.1).c4;go_simp;with_reducible rfl);rotate_left;simp only [sc0,sc1])
 refine Bv ?_
 refine Cr (i:=5) (f:=33) (args:=#[.pointer (some ⟨g,0,none⟩), .int .i64 6]) (fun v => ∃ k : Nat,v = .int .i64 (k : Int) ∧ (k : Int) < 6) rfl (by kernel_rfl) rfl Tryz.func33 (by kernel_rfl) rfl rfl (by rfl) (by simp only [List.map_toArray,List.map_cons,List.map_nil];rfl) (fun wx hS => ((hS.2.2.2.1 (by kernel_rfl)).call HBY.out (by decide) (by decide)).mono (by rintro y w6 ⟨k,rfl,hk,hc⟩;exact ⟨_,rfl,⟨k,rfl,hk⟩,hc.eg,fun _ => hc.more (by decide),fun _ => hc,fun h => (Ao (by kernel_rfl) h).elim,fun h => (Ao h (by kernel_rfl)).elim⟩)) (fun vx hg => ?_);simp only [sc0,sc1]
 obtain ⟨k5,rfl,hk5⟩:=hg
 refine Bw [6,7] ?_
 iterate 2 (refine Bq (v:=?_) HT rfl (by kernel_rfl) rfl (kA Ah (kA (Bj rfl) (kA (Bj rfl) (kA (Bj rfl) (Gx rfl))))) (by rfl) (fun _ _ _ h => h) (fun lx ax wx hS => ?_) ?_;rotate_left;(go_simp;with_reducible rfl);rotate_left;simp only [sc0,sc1])
 refine Bv ?_
 refine Cr (i:=9) (f:=33) (args:=#[.pointer (some ⟨g,0,none⟩), .int .i64 24]) (fun v => ∃ k : Nat,v = .int .i64 (k : Int) ∧ (k : Int) < 24) rfl (by kernel_rfl) rfl Tryz.func33 (by kernel_rfl) rfl rfl (by rfl) (by simp only [List.map_toArray,List.map_cons,List.map_nil];rfl) (fun wx hS => ((hS.2.2.1 (by kernel_rfl)).call HBY.out (by decide) (by decide)).mono (by rintro y w6 ⟨k,rfl,hk,hc⟩;exact ⟨_,rfl,⟨k,rfl,hk⟩,hc.eg,fun _ => hc,fun h => (Ao (by kernel_rfl) h).elim,fun h => (Ao (by kernel_rfl) h).elim,fun h => (Ao h (by kernel_rfl)).elim⟩)) (fun vx hg => ?_);simp only [sc0,sc1]
 obtain ⟨k9,rfl,hk9⟩:=hg
 refine Bw [10,11,12] ?_
 iterate 3 (refine Bq (v:=?_) HT rfl (by kernel_rfl) rfl (kA Ah (kA (Bj rfl) (kA (Bj rfl) (kA (Bj rfl) (Gx rfl))))) (by rfl) (fun _ _ _ h => h) (fun lx ax wx hS => ?_) ?_;rotate_left;(go_simp;with_reducible rfl);rotate_left;simp only [sc0,sc1])
 refine Bv ?_
 refine AJ [13] (by kernel_rfl) (fun i hi wx hS => ?_)
 obtain rfl:=List.mem_singleton.1 hi
 clear hi
 have hS1:=hS.2.1 (by kernel_rfl)
 have y0:=(hS1.z).c0
 have y1:=(hS1.z).c1
 have y2:=(hS1.z).c2
 have y3:=(hS1.z).c3
 have y4:=(hS1.z).c4
 have f0:=(hS1.z).frz 0
 have f1:=(hS1.z).frz 1
 have f2:=(hS1.z).frz 2
 have f3:=(hS1.z).frz 3
 have f4:=(hS1.z).frz 4
 refine BH (w1:=Go.Proofs.YtjeodgfkilhkhaaGreat.Ap wx w.heap.size E (.slice B1 E.disk.length d1) (.slice B2 E.mem.length d2) (.slice B3 E.log.length d3)) rfl (by rfl) (by go_simp) ?_
 refine ⟨⟨eg_far5 hS.1 (Nat.ne_of_lt HZ.out.lt) E (.slice B1 E.disk.length d1) (.slice B2 E.mem.length d2) (.slice B3 E.log.length d3),fun h => (Ao (by kernel_rfl) h).elim,fun h => (Ao (by kernel_rfl) h).elim,fun h => (Ao (by kernel_rfl) h).elim,fun _ => ⟨wx,hS1,rfl⟩⟩,?_⟩
 clear hS hS1 y0 y1 y2 y3 y4 f0 f1 f2 f3 f4
 refine CZ (i:=14) (v:=?_) HT rfl (by kernel_rfl) rfl (kA Ah (kA (Bj rfl) (kA (Bj rfl) (kA (Bj rfl) (Gx rfl))))) (by rfl) (fun _ _ _ h => h) (fun lx ax wx hS => ?_) ?_;rotate_left;(go_simp;with_reducible rfl);rotate_left;simp only [sc0,sc1]
 refine GU (by kernel_rfl) (fun w8 hS => ?_)
 obtain ⟨wy,hwy,rfl⟩:=hS.2.2.2.2 (by kernel_rfl)
 have HS:=As hwy
 clear hS hwy
 go_wp2
 have hy:=HS.out.z.Ap E (.slice B1 E.disk.length d1) (.slice B2 E.mem.length d2) (.slice B3 E.log.length d3)
 have y0:=hy.c0
 have y1:=hy.c1
 have y2:=hy.c2
 have y3:=hy.c3
 have y4:=hy.c4
 exact bodyPost_ret (v:=.tuple #[Eng.val E B1 B2 B3 d1 d2 d3, .int .i64 _]) (by simp [results,Tryz.results10,go_sem,y0,y1,y2,y3,y4];rfl) rfl ⟨E,B1,B2,B3,d1,d2,d3,_,rfl,HS.out.cap,HS.out.few,HD.out.2.2,(HS.out.F.Ap HS.out.z E (.slice B1 E.disk.length d1) (.slice B2 E.mem.length d2) (.slice B3 E.log.length d3)).now,Aj HS.out.bel (Nat.le_refl _) E (.slice B1 E.disk.length d1) (.slice B2 E.mem.length d2) (.slice B3 E.log.length d3)⟩
theorem fallR_yes {e X : Eng} {n : Int} (h : Fa e n = (X,true)) : eOk e = true ∧ 0 ≤ n:=by
 rw [Fa] at h
 split at h
 ·rename_i h1
  exact h1
 ·injection h with _ h2
  cases h2
end Go.Proofs.YtjeodgfkilhkhaaGreat
