/- Proved here: for all bytes that are handed in, laws.FnTrueStays returns true (what was done stays, until another one that is done changes it: a drawn play, and then a put, a fall and a rise, tells the same pages). Conditions: none beyond those that the given statement itself bears. -/
import Derived.Test.YtofgeajaajfiaaaGreatZF1
import Derived.Test.YtofgeajaajfiaaaGreatZA1
import Derived.Test.YtofgeajaajfiaaaGreatZV2
import Derived.WalkKit
import Derived.ProofKit
import Derived.OpenShut
import Derived.ShutString
import Derived.ChangeOld
import Derived.Below
import Derived.SizedLaws
set_option linter.unusedVariables false
set_option linter.unusedSimpArgs false
namespace Go.Proofs.YtofgeajaajfiaaaGreat
open Go.RowKit Go.Proofs.YtofgeajaajfiaaaGreatW.PrintWords Go.Proofs.YtofgeajaajfiaaaGreatW.PrintLast Go.Proofs.YtofgeajaajfiaaaGreatW.PrintMore
theorem flat_len : ∀ qs : List EvI,(qs.flatMap evI).length = qs.length * 6
 | [] => rfl
 | q :: qs => by rw [List.flatMap_cons,List.length_append,flat_len qs,List.length_cons];simp [evI];omega
theorem one_evI (p : EvI) : ∀ u ∈ evI p,u.oneCell' = true:=fun u hu => by
 simp only [evI,List.mem_cons,List.not_mem_nil,or_false] at hu
 rcases hu with rfl | rfl | rfl | rfl | rfl | rfl <;> rfl
theorem Less.up {wB w : World} {v : Value} {us : List Evt} (h : Less wB w v us) (o : Obj) : Less wB (w.alloc o) v us:=by
 obtain ⟨⟨ps,h1,h2,h3⟩,hb⟩:=h
 exact ⟨⟨ps,h1,h2,h3.alloc _⟩,Ab hb _⟩
section
variable {ops : Array Oper} {rest : List Oper} {o : Oper} {a : Act} {Q : Exit → Act → World → Prop}
theorem less_appendQ {wB W : World} {v : Value} {us : List Evt} (qs : List EvI) (hgd : o.guard = none) (s x : Operand)
  (ho : o.op = .call { callee:=.builtin .append,args:=#[s,x],argTypes:=#[23,23] }) (hs : a.eval s = v) {ad : Addr} {c : Nat} (hx : a.eval x = .slice (some ad) qs.length c)
  (hcells : ∀ j u,(qs.flatMap evI)[j]? = some u → W.cell? (ad.add j) = some u) (hq : ∀ q ∈ qs,q.1.vals.length ≤ q.2.2 ∧ (Kd.int .i64).C wB q.2.1 q.1.vals.length q.1.vals) (HO : Less wB W v us) (hl : us.length + qs.length ≤ 1000)
  (h : ∀ v1 w1,Less wB w1 v1 (us ++ qs.map Prod.fst) → wpList Tryz.prog ops Q rest (a.put o.dst v1) w1) : wpList Tryz.prog ops Q (o :: rest) a W:=by
 obtain ⟨⟨ps,h1,h2,h3⟩,hb⟩:=HO
 obtain ⟨i0,hi,hzz⟩:=Option.map_eq_some_iff.1 WJ
 simp only [Prod.mk.injEq] at hzz
 obtain ⟨hz0,hz1,hz2⟩:=hzz
 refine wpList_append_own_at W hgd s x 23 ho wB.heap.size 36 i0 _ 6 64 Te hi hz0 hz1 hz2 (by decide) (by decide) v us.length (ps.flatMap evI) hs h3 ad qs.length c (qs.flatMap evI) hx (flat_len qs) hcells (fun u hu => ?_) (by simp only [maxLen];omega) (by omega) hb.size (fun v1 w1 h4 h5 _ _ => h v1 w1 ⟨⟨ps ++ qs,by rw [List.map_append,h1],fun p hp => ?_,?_⟩,hb.grown h5 hb.size (Ck h3)⟩)
 ·obtain ⟨q,_,hq2⟩:=List.mem_flatMap.1 hu
  exact one_evI q u hq2
 ·rcases List.mem_append.1 hp with hp | hp
  ·exact h2 p hp
  ·exact hq p hp
 ·rw [List.length_append,List.length_map,List.flatMap_append]
  exact h4
end
theorem evts_Q {w : World} {ad : Addr} {vs : List Evt} (h : Kd.C kEvt w (some ad) vs.length vs) : ∃ qs : List EvI,qs.map Prod.fst = vs ∧ (∀ q ∈ qs,q.1.vals.length ≤ q.2.2 ∧ (Kd.int .i64).C w q.2.1 q.1.vals.length q.1.vals) ∧ ∀ j u,(qs.flatMap evI)[j]? = some u → w.cell? (ad.add j) = some u:=by
 have hx : ∀ i : Nat, ∃ p : Option Addr × Nat,i < vs.length → YS w (ad.add (i * 6)) (ev vs i) p.1 p.2 ∧ (ev vs i).vals.length ≤ p.2 ∧ (Kd.int .i64).C w p.1 (ev vs i).vals.length (ev vs i).vals:=fun i => by
  by_cases hi : i < vs.length
  ·obtain ⟨ad',A2,c2,e,h1,h2,h3⟩:=R6 h i hi
   injection e with e
   subst e
   exact ⟨(A2,c2),fun _ => ⟨h1,h2,h3⟩⟩
  ·exact ⟨(none,0),fun h => absurd h hi⟩
 obtain ⟨f,hf⟩:=Classical.skolem.1 hx
 refine ⟨(List.range vs.length).map fun i => (ev vs i,f i),?_,fun q hq => ?_,fun j u hu => ?_⟩
 ·refine List.ext_getElem (by simp) (fun i h1 h2 => ?_)
  simp [ev,List.getD_eq_getElem?_getD,h2]
 ·obtain ⟨i,hi,rfl⟩:=List.mem_map.1 hq
  exact (hf i (List.mem_range.1 hi)).2
 ·have hj : j < vs.length * 6:=by have:=(List.getElem?_eq_some_iff.1 hu).1;rw [flat_len] at this;simpa using this
  have hi : j / 6 < vs.length:=by omega
  have hk : j % 6 < 6:=by omega
  have he : j / 6 * 6 + j % 6 = j:=by omega
  have hq : ((List.range vs.length).map fun i => ((ev vs i,f i) : EvI))[j / 6]? = some (ev vs (j / 6),f (j / 6)):=by simp [hi]
  have hfl:=flatI _ (j / 6) (j % 6) _ hq hk
  rw [he,hu] at hfl
  obtain ⟨⟨z0,z1,z2,z3,z4,z5⟩, -, -⟩:=hf (j / 6) hi
  rw [← he]
  have h6 : j % 6 = 0 ∨ j % 6 = 1 ∨ j % 6 = 2 ∨ j % 6 = 3 ∨ j % 6 = 4 ∨ j % 6 = 5:=by omega
  rcases h6 with h6 | h6 | h6 | h6 | h6 | h6 <;> rw [h6] at hfl ⊢ <;> simp only [evI,List.getElem?_cons_zero,List.getElem?_cons_succ] at hfl <;> rw [hfl]
  ·exact z0
  ·rw [Dq _ _ 1 (by omega)];exact z1
  ·rw [Dq _ _ 2 (by omega)];exact z2
  ·rw [Dq _ _ 3 (by omega)];exact z3
  ·rw [Dq _ _ 4 (by omega)];exact z4
  ·rw [Dq _ _ 5 (by omega)];exact z5
theorem append_none (W : World) (b c : Nat) (ty : TypeId) : (Builtin.append_ #[23,23] ty #[.slice (some ⟨b,0,none⟩) 0 0, .slice none 0 c]).run Tryz.prog W = .ok (.slice (some ⟨b,0,none⟩) 0 0) W:=by kernel_rfl
theorem alloc_cell (W : World) (cs : Array Value) (t : TypeId) (i : Nat) : (W.alloc (.cells cs t)).cell? ⟨W.heap.size,i,none⟩ = cs[i]?:=by
 have h : (W.alloc (.cells cs t)).heap[W.heap.size]? = some (.cells cs t (0,0)):=by
  show (W.heap.push _)[W.heap.size]? = _
  simp
 unfold World.cell?
 rw [h]
 rfl
section
variable {ops : Array Oper} {rest : List Oper} {o : Oper} {a : Act} {Q : Exit → Act → World → Prop}
theorem less_appendE {wB W : World} {b c : Nat} {V1 : Option Addr} {vs : List Evt} (hgd : o.guard = none) (s x : Operand)
  (ho : o.op = .call { callee:=.builtin .append,args:=#[s,x],argTypes:=#[23,23] }) (hs : a.eval s = .slice (some ⟨b,0,none⟩) 0 0) (hx : a.eval x = .slice V1 vs.length c)
  (hV : Kd.C kEvt wB V1 vs.length vs) (HO : Less wB W (.slice (some ⟨b,0,none⟩) 0 0) []) (hl : vs.length ≤ 40)
  (h : ∀ v1 w1,Less wB w1 v1 vs → wpList Tryz.prog ops Q rest (a.put o.dst v1) w1) : wpList Tryz.prog ops Q (o :: rest) a W:=by
 cases V1 with
 | none =>
  have h0 : vs = []:=by
   by_cases hn : 0 < vs.length
   ·obtain ⟨ad,_,_,e,_⟩:=R6 hV 0 hn
    cases e
   ·exact List.eq_nil_of_length_eq_zero (by omega)
  subst h0
  refine wpList_plain hgd fun K hK => ?_
  unfold Oper.wp execOp
  simp only [ho,resolve,invoke,builtin,Sem.run_bind,Sem.run_pure,Result.andThen_ok,List.map_toArray,List.map_cons,List.map_nil,hs,hx,List.length_nil,append_none]
  exact hK _ _ (h _ _ HO)
 | some ad =>
  obtain ⟨qs,h1,h2,h3⟩:=evts_Q hV
  have hql : qs.length = vs.length:=by rw [← h1,List.length_map]
  refine less_appendQ qs hgd s x ho hs (by rw [hql];exact hx) (fun j u hu => bc HO.bel (h3 j u hu)) h2 HO (by simp;omega) (fun v1 w1 hL => h v1 w1 ?_)
  rw [h1,List.nil_append] at hL
  exact hL
theorem less_append3 {wB W : World} {v : Value} {us : List Evt} (q1 q2 q3 : EvI) (hgd : o.guard = none) (s x : Operand)
  (ho : o.op = .call { callee:=.builtin .append,args:=#[s,x],argTypes:=#[23,23] }) (hs : a.eval s = v) (hx : a.eval x = .slice (some ⟨W.heap.size,0,none⟩) 3 3)
  (hq : ∀ q ∈ [q1,q2,q3],q.1.vals.length ≤ q.2.2 ∧ (Kd.int .i64).C wB q.2.1 q.1.vals.length q.1.vals) (HO : Less wB W v us) (hl : us.length + 3 ≤ 1000)
  (h : ∀ v1 w1,Less wB w1 v1 (us ++ [q1.1,q2.1,q3.1]) → wpList Tryz.prog ops Q rest (a.put o.dst v1) w1) :
  wpList Tryz.prog ops Q (o :: rest) a (W.alloc (.cells #[.int .i64 q1.1.kind, .int .i64 q1.1.tx, .int .i64 q1.1.page, .int .i64 q1.1.slot, .int .i64 q1.1.n, .slice q1.2.1 q1.1.vals.length q1.2.2, .int .i64 q2.1.kind, .int .i64 q2.1.tx, .int .i64 q2.1.page, .int .i64 q2.1.slot, .int .i64 q2.1.n, .slice q2.2.1 q2.1.vals.length q2.2.2, .int .i64 q3.1.kind, .int .i64 q3.1.tx, .int .i64 q3.1.page, .int .i64 q3.1.slot, .int .i64 q3.1.n, .slice q3.2.1 q3.1.vals.length q3.2.2] 36)):=by
 refine less_appendQ [q1,q2,q3] hgd s x ho hs hx (fun j u hu => ?_) hq (HO.up _) hl h
 have ha : (⟨W.heap.size,0,none⟩ : Addr).add j = ⟨W.heap.size,j,none⟩:=by simp [Addr.add];intro h;exact h.symm
 rw [ha,alloc_cell, ← Array.getElem?_toList]
 exact hu
end
theorem trueL_more {vs us : List Evt} (h : vs.length + us.length ≤ 40) (hu : ∀ v ∈ us,v.kind ≠ 4) : JR (vs ++ us) = JR vs:=by
 rw [Q9 (by rw [List.length_append];exact h),Q9 (by omega),OE,OE,Tf us vs newE _ hu]
set_option maxRecDepth 100000 in
set_option maxHeartbeats 16000000 in
theorem FnTrueStays_calls {w : World} {A : Option Addr} {c : Nat} {xs : List Int} {B : Option Addr} {d : Nat} {ys : List Int} (hcap : xs.length ≤ c) (hx : Bytes xs) (hr : Kd.C (Kd.int .u8) w A xs.length xs) (hy : ys.length ≤ 9223372036854775807) : Calls Tryz.prog 9 #[.slice A xs.length c, .slice B ys.length d] w (JV w):=by
 have HR:=As hr
 have HCAP:=As hcap
 have HBY:=As hx
 have hmx:=(Cg hr).2
 clear hcap hx hr
 rcases lts 1048576 (xs.length : Int) with ⟨e1,b1,c1⟩ | ⟨e1,b1,c1⟩
 ·go_enter Tryz.func9,Tryz.ntmps9
  go_wp2
  go_ret
  exact ⟨rfl,Below.refl _ _⟩
 rcases lts 1048576 (ys.length : Int) with ⟨e2,b2,c2⟩ | ⟨e2,b2,c2⟩
 ·go_enter Tryz.func9,Tryz.ntmps9
  go_wp2
  go_ret
  exact ⟨rfl,Below.refl _ _⟩
 go_enter Tryz.func9,Tryz.ntmps9
 go_wp2_with (go_at_call 30;refine (Iu HCAP.out HBY.out (Below.refl w.heap.size w) HR.out).mono ?_;rintro x w1 ⟨V,vs,rfl,hV,hlen,hb1⟩;obtain ⟨V1,v1_,rfl,hcv,hc⟩:=Kd.BI hV;have HVC:=As hc;have HCV:=As hcv;have HLN:=As hlen;have HB1:=As hb1;clear hV hcv hc hlen hb1)
 obtain ⟨ts,hts⟩ : ∃ ts,JR vs = ts:=⟨_,rfl⟩
 have HTS:=As hts
 have K0 : True:=trivial
 have hl41:=HLN.out
 have hwl : IntKind.i64.wrap ((vs.length : Int) + 3) = (vs.length : Int) + 3:=by simp (disch:=omega) only [IntWalk.i64_in]
 by_cases few3 : vs.length + 3 ≤ 40
 rotate_left
 ·have hgd : (40 : Int) < (vs.length : Int) + 3:=by omega
  have hgd2 : decide ((40 : Int) < (vs.length : Int) + 3) = true:=by simpa using hgd
  cases hz : ((ts.length : Int) == 0)
  all_goals
   clear hts
   go_wp2_with (first | (clear K0;go_at_call 31;refine (ER (c:=v1_) (Below.refl w1.heap.size w1) HVC.out).mono ?_;rw [HTS.out];rintro x w2 ⟨v,rfl,ho,hb2⟩;obtain ⟨T1,t1_,rfl, -,hc⟩:=Kd.BI ho;have HTC:=As hc;have HB2:=As hb2;clear ho hb2 hc;have K1 : True:=trivial) | (clear K1;go_at_call 32;refine (CF (c:=v1_) HB2.out HVC.out).mono ?_;rw [HTS.out];rintro x w3 ⟨v,rfl,ho,hb3⟩;obtain ⟨S1,s1_,rfl, -,hc⟩:=Kd.BI ho;have HSC:=As hc;have HB3:=As hb3;clear ho hb3 hc;have K2 : True:=trivial) | (clear K2;go_at_call 24;refine (CW (c:=t1_) (d:=s1_) HB3.out HTC.out (Below.refl w3.heap.size w3) HSC.out).mono ?_;rintro x w4 ⟨rfl,hb4⟩;have HB4:=As (bj HB2.out (bj HB3.out hb4));have HT4:=As (bj HB3.out hb4);clear hb4;have K3 : True:=trivial) | (clear K3;go_at_call 32;refine (CF (c:=v1_) HB4.out HVC.out).mono ?_;rw [HTS.out];rintro x w5 ⟨v,rfl,ho,hb3⟩;obtain ⟨S5,s5_,rfl, -,hc⟩:=Kd.BI ho;have HSC5:=As hc;have HB5:=As hb3;clear ho hb3 hc;have K4 : True:=trivial) | (clear K4;go_at_call 24;refine (CW (c:=t1_) (d:=s5_) (bj HT4.out HB5.out) HTC.out (Below.refl w5.heap.size w5) HSC5.out).mono ?_;rintro x w6 ⟨rfl,hb4⟩;have HB6:=As (bj HB4.out (bj HB5.out hb4));clear hb4;have K5 : True:=trivial))
   go_ret
   exact ⟨rfl,bj HB1.out HB6.out⟩
 have hgd : ¬ (40 : Int) < (vs.length : Int) + 3:=by omega
 have hgd2 : decide ((40 : Int) < (vs.length : Int) + 3) = false:=by simpa using hgd
 have hl5 : ts.length = 5:=by rw [← hts,Q9 (by omega),OI]
 have hz : ((ts.length : Int) == 0) = false:=by rw [hl5];rfl
 obtain ⟨e1v,h1v⟩ : ∃ e : Evt,(⟨1,1 + (ys.length : Int) % 3,(ys.length : Int) % 5,0,3, []⟩ : Evt) = e:=⟨_,rfl⟩
 obtain ⟨e2v,h2v⟩ : ∃ e : Evt,(⟨8,0,0,0,(ys.length : Int) % 40, []⟩ : Evt) = e:=⟨_,rfl⟩
 obtain ⟨e3v,h3v⟩ : ∃ e : Evt,(⟨9,0,0,0,99, []⟩ : Evt) = e:=⟨_,rfl⟩
 obtain ⟨us,hus⟩ : ∃ us,vs ++ [e1v,e2v,e3v] = us:=⟨_,rfl⟩
 have hul : us.length = vs.length + 3:=by rw [← hus];simp
 have HTU:=As (show JR us = ts by rw [← hus,trueL_more (by simpa using few3) (fun v hv => by simp only [List.mem_cons,List.not_mem_nil,or_false] at hv;rcases hv with h | h | h <;> rw [h] <;> first | (rw [← h1v];show (1 : Int) ≠ 4;decide) | (rw [← h2v];show (8 : Int) ≠ 4;decide) | (rw [← h3v];show (9 : Int) ≠ 4;decide)),hts])
 obtain ⟨m1,hm1⟩ : ∃ m1 : Nat,(vs.length : Int) + 1 = m1:=⟨vs.length + 1,by push_cast;rfl⟩
 have hm1n : m1 = vs.length + 1:=by omega
 have hwm : IntKind.i64.wrap ((vs.length : Int) + 1) = (m1 : Int):=by rw [← hm1];simp (disch:=omega) only [IntWalk.i64_in]
 have HTT:=As (show JR (us.take m1) = ts by rw [show us.take m1 = vs ++ [e1v] by rw [← hus,hm1n];first | (rw [List.take_length_add_append];rfl) | (simp [List.take_append];exact List.take_of_length_le (Nat.le_succ _)),trueL_more (by simp;omega) (fun v hv => by obtain rfl : v = e1v:=(by simpa using hv);rw [← h1v];show (1 : Int) ≠ 4;decide),hts])
 have HUL:=As hul
 have HM1:=As hm1n
 have HUS:=As hus
 have H1V:=As h1v
 have H2V:=As h2v
 have H3V:=As h3v
 have hmu : (m1 : Int) ≤ (us.length : Int):=by omega
 have HFW:=As few3
 clear hts hl5 hul hus h1v h2v h3v hm1n few3
 go_wp2_with (first | (clear K0;go_at_call 31;refine (ER (c:=v1_) (Below.refl w1.heap.size w1) HVC.out).mono ?_;rw [HTS.out];rintro x w2 ⟨v,rfl,ho,hb2⟩;obtain ⟨T1,t1_,rfl, -,hc⟩:=Kd.BI ho;have HTC:=As hc;have HB2:=As hb2;clear ho hb2 hc;have K1 : True:=trivial) | (clear K1;go_at_call 32;refine (CF (c:=v1_) HB2.out HVC.out).mono ?_;rw [HTS.out];rintro x w3 ⟨v,rfl,ho,hb3⟩;obtain ⟨S1,s1_,rfl, -,hc⟩:=Kd.BI ho;have HSC:=As hc;have HB3:=As hb3;clear ho hb3 hc;have K2 : True:=trivial) | (clear K2;go_at_call 24;refine (CW (c:=t1_) (d:=s1_) HB3.out HTC.out (Below.refl w3.heap.size w3) HSC.out).mono ?_;rintro x w4 ⟨rfl,hb4⟩;have HB4:=As (bj HB2.out (bj HB3.out hb4));have HT4:=As (bj HB3.out hb4);clear hb4;have K3 : True:=trivial) | (clear K3;at_builtin;obtain ⟨w5,hw5⟩ : ∃ w5,w4.alloc (Obj.cells #[] 36) = w5:=⟨_,rfl⟩;have HL0 : Aa (Less w4 w5 (.slice (some ⟨w4.heap.size,0,none⟩) 0 0) []):=⟨by rw [← hw5];exact Less.nil (Below.refl _ _)⟩;rw [hw5];refine less_appendE (W:=w5) (b:=w4.heap.size) rfl (.tmp 40) (.tmp 41) rfl rfl rfl (BA HVC.out HB4.out) HL0.out (by have:=HFW.out;omega) ?_;intro V6 w6 hL6;have HL6:=As hL6;clear hL6 hw5;have K4 : True:=trivial) | (clear K4;at_builtin;refine less_append3 (W:=w6) ((⟨1,1 + (ys.length : Int) % 3,(ys.length : Int) % 5,0,3, []⟩ : Evt),(none,0)) ((⟨8,0,0,0,(ys.length : Int) % 40, []⟩ : Evt),(none,0)) ((⟨9,0,0,0,99, []⟩ : Evt),(none,0)) rfl (.tmp 42) (.tmp 56) rfl rfl rfl (fun q hq => by simp only [List.mem_cons,List.not_mem_nil,or_false] at hq;rcases hq with rfl | rfl | rfl <;> exact ⟨Nat.le_refl _,RO _⟩) HL6.out (by have:=HFW.out;omega) ?_;intro V8 w8 hL8;simp only [H1V.out,H2V.out,H3V.out] at hL8;rw [HUS.out] at hL8;obtain ⟨A8,c8,rfl,hc8,hK8⟩:=hL8.reads (by have:=HUL.out;have:=HFW.out;omega);have HK8:=As hK8;have HB8:=As hL8.bel;have hmc : (m1 : Int) ≤ (c8 : Int):=(by omega);have HPR : Aa (∀ wx,Below w8.heap.size w8 wx → Calls Tryz.prog 31 #[.slice A8 m1 c8] wx (N7 wx ts)):=⟨fun wx hb => by have h:=ER (c:=c8) hb (Kd.X8 HK8.out (show m1 ≤ us.length by omega));rw [HTT.out,List.length_take,Nat.min_eq_left (show m1 ≤ us.length by omega)] at h;exact h⟩;clear hL8 hK8;have K5 : True:=trivial) | (clear K5;go_at_call 31;refine (ER (c:=c8) (Below.refl w8.heap.size w8) HK8.out).mono ?_;rw [HTU.out];rintro x w9 ⟨v,rfl,ho,hb9⟩;obtain ⟨U1,u1_,rfl, -,hc⟩:=Kd.BI ho;have HUC:=As hc;have HT9:=As hb9;clear ho hb9 hc;have K6 : True:=trivial) | (clear K6;go_at_call 24;refine (CW (c:=u1_) (d:=t1_) (Below.refl w9.heap.size w9) HUC.out (bj HT4.out (bj HB8.out HT9.out)) HTC.out).mono ?_;rintro x w10 ⟨rfl,hb10⟩;have HT10:=As (bj HT9.out hb10);clear hb10;have K7 : True:=trivial) | (clear K7;go_at_call 31;refine (HPR.out w10 HT10.out).mono ?_;rintro x w11 ⟨v,rfl,ho,hb9⟩;obtain ⟨Y1,y1_,rfl, -,hc⟩:=Kd.BI ho;have HYC:=As hc;have HT11:=As (bj HT10.out hb9);clear ho hb9 hc;have K8 : True:=trivial) | (clear K8;go_at_call 24;refine (CW (c:=y1_) (d:=t1_) (Below.refl w11.heap.size w11) HYC.out (bj HT4.out (bj HB8.out HT11.out)) HTC.out).mono ?_;rintro x w12 ⟨rfl,hb10⟩;have HT12:=As (bj HT11.out hb10);clear hb10;have K9 : True:=trivial))
 go_ret
 exact ⟨rfl,bj HB1.out (bj HB4.out (bj HB8.out HT12.out))⟩
end Go.Proofs.YtofgeajaajfiaaaGreat
namespace Go.Proofs.YtofgeajaajfiaaaGreat
open Go.RowKit Go.Proofs.YtofgeajaajfiaaaGreatW.PrintWords Go.Proofs.YtofgeajaajfiaaaGreatW.PrintLast Go.Proofs.YtofgeajaajfiaaaGreatW.PrintMore Go.ChangeShapes Go.WideShapes Go.Deep
theorem CP {H : Type} {enc : TypeId × Value → H} {w : World} {held : Bool} {fuel : Nat} {cs : List Value} {y : DataW H × List MemPlace} (h : DataW.trod enc Tryz.prog w 0 (fun _ => true) held fuel 22 cs = some y) : ∃ xs A c,cs = [.slice A (List.length xs) c] ∧ xs.length ≤ c ∧ (Kd.int .u8).C w A xs.length xs ∧ Bytes xs:=by
 obtain ⟨xs,A,c,he,hcl,hr⟩:=Gu (d:=Kd.int .u8) Tryz.underlying22 (by kernel_rfl) (J6 Tryz.underlying5) _ _ _ h
 refine ⟨xs,A,c,he,hcl,hr,fun b hb => ?_⟩
 obtain ⟨i,hi,rfl⟩:=List.getElem_of_mem hb
 obtain ⟨ad,ha,hc⟩:=Oa hr i hi
 rcases open_ints Tryz.underlying22 Tryz.underlying5 (by kernel_rfl) h with ⟨hcs,_⟩ | ⟨x,l,c',zs,hcs,_,hl,hm,hz,_,hcell,hwz⟩
 ·rw [he,ha] at hcs
  simp at hcs
 ·rw [he,ha] at hcs
  simp only [List.cons.injEq,Value.slice.injEq,Option.some.injEq,and_true] at hcs
  obtain ⟨rfl,h2,rfl⟩:=hcs
  rw [if_pos rfl] at hz
  have h3:=hcell i (by omega)
  rw [hc] at h3
  have h4 : iv xs i = zs.getD i 0:=by simpa using h3
  have h5:=range_u8 hwz i
  have e : iv xs i = xs[i]:=by simp [iv,List.getD_eq_getElem?_getD,hi]
  rw [← e,h4,List.getD_eq_getElem?_getD]
  exact h5
end Go.Proofs.YtofgeajaajfiaaaGreat
namespace Go.Proofs.YtofgeajaajfiaaaGreat.fnTrueStays
open Go.ChangeShapes Go.WideShapes Go.ChangeAt Go.RowKit Go.Proofs.YtofgeajaajfiaaaGreat
theorem own : ownKnob Tryz.prog.godebug = none:=by kernel_rfl
theorem laidOut : laidOutB Tryz.prog = true:=by kernel_rfl
set_option maxRecDepth 100000 in
theorem lifted (os : Os) (started : os.Started) (H : Type) (enc : TypeId × Value → H) :
  ReturnsInHanded {} Tryz.checked os 9 .any (Rows.fnTrueStaysSpec.pre6 enc Tryz.prog Tryz.f9 Rows.fnTrueStaysRow.domain false) (Rows.fnTrueStaysSpec.post enc Tryz.prog Tryz.f9 false true false false):=by
 refine returnsInHanded_of_change_sized (C:=Tryz.checked) own started (by kernel_rfl) Tryz.func9
  (ChangeSpec.witness6 (enc:=enc) (C:=Tryz.checked) false ⟨#[],#[.slice none 0 0, .slice none 0 0], []⟩ 8 (by kernel_rfl) (by kernel_rfl) (by kernel_rfl) (by kernel_rfl)) ?_
 intro W base args ds gs before hval0 hW hcnd hsz0 _
 have hval : ∀ (j : Nat) t v,Tryz.f9.params[j]? = some t → args[j]? = some v → Value.okWide Tryz.prog W .any base t v:=hval0
 have hW':=hW
 obtain ⟨p,q,hA0,hV,rfl,hfz,hnd⟩:=hW
 have hA : DataW.TrodAll enc Tryz.prog W 0 (fun _ => true) true Tryz.f9.params.toList args.toList ds p:=hA0
 rw [Tryz.params9] at hA hval
 obtain ⟨v0,vs0,d0,ds0,p0,q0,hargs,rfl,rfl,h0,r0⟩:=trodAll_cons hA
 obtain ⟨v1,vs1,d1,ds1,p1,q1,rfl,rfl,rfl,h1,r1⟩:=trodAll_cons r0
 obtain ⟨rfl,rfl,rfl⟩:=trodAll_nil r1
 obtain rfl : args = #[v0,v1]:=by cases args;simp_all
 obtain ⟨rfl,rfl⟩:=trodVars_none hV
 have k0:=h0
 have lt0 : ∀ x ∈ p0,x.block < W.heap.size:=by obtain ⟨m,hm⟩:=k0;exact DataW.trod_lt m _ _ _ hm
 obtain ⟨a0,len0,cap0,rfl⟩:=okWide_slice Tryz.underlying22 (hval 0 22 v0 rfl rfl)
 obtain ⟨fuel0,hf0⟩:=h0
 obtain ⟨xs0,A0,c0,he0,hcl0,hr0,hby0⟩:=CP hf0
 obtain ⟨rfl,rfl,rfl⟩ : a0 = A0 ∧ len0 = xs0.length ∧ cap0 = c0:=by simpa [Value.cells] using he0
 have k1:=h1
 have lt1 : ∀ x ∈ p1,x.block < W.heap.size:=by obtain ⟨m,hm⟩:=k1;exact DataW.trod_lt m _ _ _ hm
 obtain ⟨a1,Oe,cap1,rfl⟩:=okWide_slice Tryz.underlying22 (hval 1 22 v1 rfl rfl)
 obtain ⟨fuel1,hf1⟩:=h1
 obtain ⟨xs1,A1,c1,he1,hcl1,hr1,hby1⟩:=CP hf1
 obtain ⟨rfl,rfl,rfl⟩ : a1 = A1 ∧ Oe = xs1.length ∧ cap1 = c1:=by simpa [Value.cells] using he1
 clear hA0 hval0 hsz0 hval hA
 refine (FnTrueStays_calls hcl0 hby0 hr0 (Cg hr1).2).mono fun e1 W' ⟨he1,bel⟩ => ?_
 subst he1
 exact ⟨_,rfl,_,_,_, [],_, [],hW',trodAll_mk1 (shut_bool Tryz.underlying4 _),(trodAll_cons_mk (Below.trod laidOut (by kernel_rfl) (of_decide_eq_true (by kernel_rfl)) k0 bel lt0) (trodAll_cons_mk (Below.trod laidOut (by kernel_rfl) (of_decide_eq_true (by kernel_rfl)) k1 bel lt1) trodAll_mk0)),rfl,bel.frame _,fun h => by cases h⟩
theorem k24b : (Rows.fnTrueStaysRow.lifted == Tryz.pinned.checked.prog.liftsFinal) = true:=by
 rw [show Tryz.pinned.checked.prog.liftsFinal = false from Gy]
 rfl
theorem k24c : (Tryz.pinned.checked.prog.make == some Rows.fnTrueStaysRow.make) = true:=by
 rw [show Tryz.pinned.checked.prog.make = some Make.cut from KA]
 rfl
set_option maxRecDepth 100000 in
set_option maxHeartbeats 8000000 in
theorem closed : joinedFacts Tryz.pinned.checked.prog 9 Tryz.f9 Rows.fnTrueStaysSpec Rows.fnTrueStaysRow = true:=by
 simp only [joinedFacts,Bool.and_eq_true]
 exact ⟨⟨⟨⟨⟨⟨⟨⟨⟨⟨⟨⟨⟨⟨⟨⟨⟨⟨⟨⟨⟨⟨⟨⟨⟨⟨⟨⟨⟨⟨⟨(by as_aux_lemma => kernel_rfl),(by as_aux_lemma => kernel_rfl)⟩,(by as_aux_lemma => kernel_rfl)⟩,(by as_aux_lemma => kernel_rfl)⟩,(by as_aux_lemma => kernel_rfl)⟩,(by as_aux_lemma => kernel_rfl)⟩,(by as_aux_lemma => kernel_rfl)⟩,(by as_aux_lemma => kernel_rfl)⟩,(by as_aux_lemma => kernel_rfl)⟩,(by as_aux_lemma => kernel_rfl)⟩,(by as_aux_lemma => kernel_rfl)⟩,(by as_aux_lemma => kernel_rfl)⟩,(by as_aux_lemma => kernel_rfl)⟩,(by as_aux_lemma => kernel_rfl)⟩,(by as_aux_lemma => kernel_rfl)⟩,(by as_aux_lemma => kernel_rfl)⟩,(by as_aux_lemma => kernel_rfl)⟩,(by as_aux_lemma => kernel_rfl)⟩,(by as_aux_lemma => kernel_rfl)⟩,(by as_aux_lemma => kernel_rfl)⟩,(by as_aux_lemma => kernel_rfl)⟩,(by as_aux_lemma => kernel_rfl)⟩,(by as_aux_lemma => kernel_rfl)⟩,(by as_aux_lemma => kernel_rfl)⟩,(by as_aux_lemma => kernel_rfl)⟩,J9⟩,k24b⟩,k24c⟩,(by as_aux_lemma => kernel_rfl)⟩,(by as_aux_lemma => kernel_rfl)⟩,(by as_aux_lemma => kernel_rfl)⟩,(by as_aux_lemma => kernel_rfl)⟩
theorem over : Rows.fnTrueStaysRow.holds Tryz.pinned (OpenSpec.ofChange Rows.fnTrueStaysSpec):=
 OpenClaim.holds_of_wide 9 Tryz.f9 rfl rfl rfl rfl rfl rfl rfl ⟨rfl,rfl,rfl,rfl,rfl⟩ rfl rfl rfl rfl rfl (by kernel_rfl) Tryz.func9 closed
  (of_decide_eq_true (by kernel_rfl)) (by unfold Func.isWrapper;first | (rw [if_pos (by decide +kernel)];kernel_rfl) | (rw [if_neg (by decide +kernel)];exact ⟨rfl,rfl⟩))
  (fun os started H enc _ => lifted os started H enc)
theorem proved : Rows.FnTrueStaysSaid:=over
end Go.Proofs.YtofgeajaajfiaaaGreat.fnTrueStays
namespace Go.Proofs.YtofgeajaajfiaaaGreat
theorem fnTrueStays_holds : Rows.FnTrueStaysSaid:=fnTrueStays.proved
end Go.Proofs.YtofgeajaajfiaaaGreat
