/- Proved here: for all bytes that are handed in, laws.FnTrue returns true (behind a fall just what was done is there: behind a drawn play, a fall that leaves any number of records, and a rise, the pages have what PlayTrue tells). Conditions: none beyond those that the given statement itself bears. -/
import Derived.Test.YtofgeajaajfiaaaGreatZF1
import Derived.Test.YtofgeajaajfiaaaGreatZA1
import Derived.Test.YtofgeajaajfiaaaGreatZV2
import Derived.WalkKit
import Derived.ProofKit
import Derived.OpenShut
import Derived.ShutString
import Derived.ChangeOld
import Derived.Below
import Derived.SizedLaws
set_option linter.unusedVariables false
set_option linter.unusedSimpArgs false
namespace Go.Proofs.YtofgeajaajfiaaaGreat
open Go.RowKit Go.Proofs.YtofgeajaajfiaaaGreatW.PrintWords Go.Proofs.YtofgeajaajfiaaaGreatW.PrintLast Go.Proofs.YtofgeajaajfiaaaGreatW.PrintMore
set_option maxRecDepth 100000 in
set_option maxHeartbeats 16000000 in
theorem Rj {w : World} {A : Option Addr} {c : Nat} {xs : List Int} {B : Option Addr} {d : Nat} {ys : List Int} (hcap : xs.length ≤ c) (hx : Bytes xs) (hr : Kd.C (Kd.int .u8) w A xs.length xs) (hy : ys.length ≤ 9223372036854775807) : Calls Tryz.prog 7 #[.slice A xs.length c, .slice B ys.length d] w (JV w):=by
 have HR:=As hr
 have HCAP:=As hcap
 have HBY:=As hx
 have hmx:=(Cg hr).2
 clear hcap hx hr
 rcases lts 1048576 (xs.length : Int) with ⟨e1,b1,c1⟩ | ⟨e1,b1,c1⟩
 ·go_enter Tryz.func7,Tryz.ntmps7
  go_wp2
  go_ret
  exact ⟨rfl,Below.refl _ _⟩
 rcases lts 1048576 (ys.length : Int) with ⟨e2,b2,c2⟩ | ⟨e2,b2,c2⟩
 ·go_enter Tryz.func7,Tryz.ntmps7
  go_wp2
  go_ret
  exact ⟨rfl,Below.refl _ _⟩
 go_enter Tryz.func7,Tryz.ntmps7
 go_wp2_with (go_at_call 30;refine (Iu HCAP.out HBY.out (Below.refl w.heap.size w) HR.out).mono ?_;rintro x w1 ⟨V,vs,rfl,hV,hlen,hb1⟩;obtain ⟨V1,v1_,rfl,hcv,hc⟩:=Kd.BI hV;have HVC:=As hc;have HCV:=As hcv;have HLN:=As hlen;have HB1:=As hb1;clear hV hcv hc hlen hb1)
 obtain ⟨ts,hts⟩ : ∃ ts,JR vs = ts:=⟨_,rfl⟩
 have HTS:=As hts
 have K0 : True:=trivial
 by_cases few : vs.length ≤ 40
 rotate_left
 ·have hl : ts.length = 0:=by rw [← hts,OD (by omega)];rfl
  have hz : ((ts.length : Int) == 0) = true:=by rw [hl];rfl
  clear hl hts
  go_wp2_with (first | (clear K0;go_at_call 31;refine (ER (c:=v1_) (Below.refl w1.heap.size w1) HVC.out).mono ?_;rw [HTS.out];rintro x w2 ⟨v,rfl,ho,hb2⟩;obtain ⟨T1,t1_,rfl, -,hc⟩:=Kd.BI ho;have HTC:=As hc;have HB2:=As hb2;clear ho hb2 hc;have K1 : True:=trivial) | (clear K1;go_at_call 32;refine (CF (c:=v1_) HB2.out HVC.out).mono ?_;rw [HTS.out];rintro x w3 ⟨v,rfl,ho,hb3⟩;obtain ⟨S1,s1_,rfl, -,hc⟩:=Kd.BI ho;have HSC:=As hc;have HB3:=As hb3;clear ho hb3 hc;have K2 : True:=trivial) | (clear K2;go_at_call 24;refine (CW (c:=t1_) (d:=s1_) HB3.out HTC.out (Below.refl w3.heap.size w3) HSC.out).mono ?_;rintro x w4 ⟨rfl,hb4⟩;have HB4:=As (bj HB2.out (bj HB3.out hb4));have HT4:=As (bj HB3.out hb4);clear hb4;have K3 : True:=trivial) | (clear K3;go_at_call 32;refine (CF (c:=v1_) HB4.out HVC.out).mono ?_;rw [HTS.out];rintro x w5 ⟨v,rfl,ho,hb3⟩;obtain ⟨S5,s5_,rfl, -,hc⟩:=Kd.BI ho;have HSC5:=As hc;have HB5:=As hb3;clear ho hb3 hc;have K4 : True:=trivial) | (clear K4;go_at_call 24;refine (CW (c:=t1_) (d:=s5_) (bj HT4.out HB5.out) HTC.out (Below.refl w5.heap.size w5) HSC5.out).mono ?_;rintro x w6 ⟨rfl,hb4⟩;have HB6:=As (bj HB4.out (bj HB5.out hb4));clear hb4;have K5 : True:=trivial))
  go_ret
  exact ⟨rfl,bj HB1.out HB6.out⟩
 have HTL:=As (show ts = tL (OE vs) by rw [← hts,Q9 few])
 have hl5 : ts.length = 5:=by rw [HTL.out,OI]
 have hz : ((ts.length : Int) == 0) = false:=by rw [hl5];rfl
 have HL5:=As hl5
 clear hl5 hts
 obtain ⟨E,hE⟩ : ∃ E,runE newE vs = E:=⟨_,rfl⟩
 obtain ⟨C,hC⟩ : ∃ C,OE vs = C:=⟨_,rfl⟩
 have hI:=Sr few
 rw [hE,hC] at hI
 rw [hC] at HTL
 have HRR:=As (show Kl vs = (E,true) by rw [Kl,if_neg (by omega),hE])
 have HI:=As hI
 obtain ⟨n,hn⟩ : ∃ n : Int,(ys.length : Int) % 50 = n:=⟨_,rfl⟩
 obtain ⟨U,hU⟩ : ∃ U,KC E ((ys.length : Int) % 50) = U:=⟨_,rfl⟩
 obtain ⟨V',hV⟩ : ∃ V',KC E 150 = V':=⟨_,rfl⟩
 have HTA:=As (show N8 ts C by rw [HTL.out];exact UH C)
 have HUA:=As (show N8 U.mem C by rw [← hU];exact hI.Oj (by omega))
 have HVA:=As (show N8 V'.mem C by rw [← hV];exact hI.Oj (by decide))
 have HU:=As hU
 have HV:=As hV
 clear hE hC hI hU hV hn n
 go_wp2_with (first | (clear K0;go_at_call 31;refine (ER (c:=v1_) (Below.refl w1.heap.size w1) HVC.out).mono ?_;rw [HTS.out];rintro x w2 ⟨v,rfl,ho,hb2⟩;obtain ⟨T1,t1_,rfl, -,hc⟩:=Kd.BI ho;have HTC:=As hc;have HB2:=As hb2;clear ho hb2 hc;have K1 : True:=trivial) | (clear K1;go_at_call 32;refine (CF (c:=v1_) HB2.out HVC.out).mono ?_;rw [HTS.out];rintro x w3 ⟨v,rfl,ho,hb3⟩;obtain ⟨S1,s1_,rfl, -,hc⟩:=Kd.BI ho;have HSC:=As hc;have HB3:=As hb3;clear ho hb3 hc;have K2 : True:=trivial) | (clear K2;go_at_call 24;refine (CW (c:=t1_) (d:=s1_) HB3.out HTC.out (Below.refl w3.heap.size w3) HSC.out).mono ?_;rintro x w4 ⟨rfl,hb4⟩;have HB4:=As (bj HB2.out (bj HB3.out hb4));have HT4:=As (bj HB3.out hb4);clear hb4;have K3 : True:=trivial) | (clear K3;go_at_call 14;refine (Cy (c:=v1_) HB4.out HVC.out).mono ?_;rw [HRR.out];rintro x w5 ⟨vd,vm,vl,rfl,ho,hb5⟩;obtain ⟨Gd,g1_,Gm,g2_,Gl,g3_,rfl,rfl,rfl,hgl,hc⟩:=ho.reads;have HGC:=As hc;have HGL:=As hgl;have HB5:=As hb5;clear ho hb5 hc hgl;have K4 : True:=trivial) | (clear K4;refine Ag (vd:=.slice Gd E.disk.length g1_) (vm:=.slice Gm E.mem.length g2_) (vl:=.slice Gl E.log.length g3_) E ?_;intro w6 hb6 hz6 hq6;have HS6:=As hb6;have HQ6:=As hq6;have g0:=hq6.c0;have g1:=hq6.c1;have g2:=hq6.c2;have g3:=hq6.c3;have g4:=hq6.c4;clear hb6 hz6 hq6;have K5 : True:=trivial) | (clear K5;go_at_call 19;clear g0 g1 g2 g3 g4;refine (Ic (w0:=w5) (cd:=g1_) (cm:=g2_) (cl:=g3_) ((ys.length : Int) % 50) HI.out (by omega) HGL.out HS6.out HGC.out).mono ?_;rw [HU.out];rintro x w7 ⟨vd,vm,vl,rfl,ho,hb7⟩;obtain ⟨D1,dk1,D2,dk2,D3,dk3,rfl,rfl,rfl, -,hc⟩:=ho.reads;have HDC:=As hc;have HT7:=As hb7;have hf:=Qn D1 D2 D3 U.disk.length dk1 U.mem.length dk2 U.log.length dk3 U.safe U.down w7;clear ho hb7 hc;have K6 : True:=trivial) | (clear K6;go_at_call 33;clear hf;refine (KD (c:=dk2) (d:=t1_) (HUA.out.same HTA.out) (Below.refl w7.heap.size w7) HDC.out.m (bj (bj HT4.out (bj HB5.out HS6.out)) HT7.out) HTC.out).mono ?_;rintro x w8 ⟨rfl,hb8⟩;have HT8:=As hb8;clear hb8;have HK8:=As (bj HT7.out HT8.out);have g0:=(HQ6.out.up HK8.out).c0;have g1:=(HQ6.out.up HK8.out).c1;have g2:=(HQ6.out.up HK8.out).c2;have g3:=(HQ6.out.up HK8.out).c3;have g4:=(HQ6.out.up HK8.out).c4;have K7 : True:=trivial) | (clear K7;go_at_call 19;clear g0 g1 g2 g3 g4;refine (Ic (w0:=w5) (cd:=g1_) (cm:=g2_) (cl:=g3_) 150 HI.out (by omega) HGL.out (bj HS6.out HK8.out) HGC.out).mono ?_;rw [HV.out];rintro x w9 ⟨vd,vm,vl,rfl,ho,hb7⟩;obtain ⟨F1,fk1,F2,fk2,F3,fk3,rfl,rfl,rfl, -,hc⟩:=ho.reads;have HFC:=As hc;have HT9:=As hb7;have hf:=Qn F1 F2 F3 V'.disk.length fk1 V'.mem.length fk2 V'.log.length fk3 V'.safe V'.down w9;clear ho hb7 hc;have K8 : True:=trivial) | (clear K8;go_at_call 33;clear hf;refine (KD (c:=fk2) (d:=t1_) (HVA.out.same HTA.out) (Below.refl w9.heap.size w9) HFC.out.m (bj (bj HT4.out (bj HB5.out HS6.out)) (bj HK8.out HT9.out)) HTC.out).mono ?_;rintro x w10 ⟨rfl,hb8⟩;have HT10:=As hb8;clear hb8;have K9 : True:=trivial))
 go_ret
 exact ⟨rfl,bj HB1.out (bj HB4.out (bj HB5.out (bj HS6.out (bj HK8.out (bj HT9.out HT10.out)))))⟩
open Go.RowKit Go.Proofs.YtofgeajaajfiaaaGreatW.PrintWords Go.Proofs.YtofgeajaajfiaaaGreatW.PrintLast Go.Proofs.YtofgeajaajfiaaaGreatW.PrintMore Go.ChangeShapes Go.WideShapes Go.Deep
theorem CP {H : Type} {enc : TypeId × Value → H} {w : World} {held : Bool} {fuel : Nat} {cs : List Value} {y : DataW H × List MemPlace} (h : DataW.trod enc Tryz.prog w 0 (fun _ => true) held fuel 22 cs = some y) : ∃ xs A c,cs = [.slice A (List.length xs) c] ∧ xs.length ≤ c ∧ (Kd.int .u8).C w A xs.length xs ∧ Bytes xs:=by
 obtain ⟨xs,A,c,he,hcl,hr⟩:=Gu (d:=Kd.int .u8) Tryz.underlying22 (by kernel_rfl) (J6 Tryz.underlying5) _ _ _ h
 refine ⟨xs,A,c,he,hcl,hr,fun b hb => ?_⟩
 obtain ⟨i,hi,rfl⟩:=List.getElem_of_mem hb
 obtain ⟨ad,ha,hc⟩:=Oa hr i hi
 rcases open_ints Tryz.underlying22 Tryz.underlying5 (by kernel_rfl) h with ⟨hcs,_⟩ | ⟨x,l,c',zs,hcs,_,hl,hm,hz,_,hcell,hwz⟩
 ·rw [he,ha] at hcs
  simp at hcs
 ·rw [he,ha] at hcs
  simp only [List.cons.injEq,Value.slice.injEq,Option.some.injEq,and_true] at hcs
  obtain ⟨rfl,h2,rfl⟩:=hcs
  rw [if_pos rfl] at hz
  have h3:=hcell i (by omega)
  rw [hc] at h3
  have h4 : iv xs i = zs.getD i 0:=by simpa using h3
  have h5:=range_u8 hwz i
  have e : iv xs i = xs[i]:=by simp [iv,List.getD_eq_getElem?_getD,hi]
  rw [← e,h4,List.getD_eq_getElem?_getD]
  exact h5
end Go.Proofs.YtofgeajaajfiaaaGreat
namespace Go.Proofs.YtofgeajaajfiaaaGreat.fnTrue
open Go.ChangeShapes Go.WideShapes Go.ChangeAt Go.RowKit Go.Proofs.YtofgeajaajfiaaaGreat
theorem own : ownKnob Tryz.prog.godebug = none:=by kernel_rfl
theorem laidOut : laidOutB Tryz.prog = true:=by kernel_rfl
set_option maxRecDepth 100000 in
theorem lifted (os : Os) (started : os.Started) (H : Type) (enc : TypeId × Value → H) :
  ReturnsInHanded {} Tryz.checked os 7 .any (Rows.fnTrueSpec.pre6 enc Tryz.prog Tryz.f7 Rows.fnTrueRow.domain false) (Rows.fnTrueSpec.post enc Tryz.prog Tryz.f7 false true false false):=by
 refine returnsInHanded_of_change_sized (C:=Tryz.checked) own started (by kernel_rfl) Tryz.func7
  (ChangeSpec.witness6 (enc:=enc) (C:=Tryz.checked) false ⟨#[],#[.slice none 0 0, .slice none 0 0], []⟩ 8 (by kernel_rfl) (by kernel_rfl) (by kernel_rfl) (by kernel_rfl)) ?_
 intro W base args ds gs before hval0 hW hcnd hsz0 _
 have hval : ∀ (j : Nat) t v,Tryz.f7.params[j]? = some t → args[j]? = some v → Value.okWide Tryz.prog W .any base t v:=hval0
 have hW':=hW
 obtain ⟨p,q,hA0,hV,rfl,hfz,hnd⟩:=hW
 have hA : DataW.TrodAll enc Tryz.prog W 0 (fun _ => true) true Tryz.f7.params.toList args.toList ds p:=hA0
 rw [Tryz.params7] at hA hval
 obtain ⟨v0,vs0,d0,ds0,p0,q0,hargs,rfl,rfl,h0,r0⟩:=trodAll_cons hA
 obtain ⟨v1,vs1,d1,ds1,p1,q1,rfl,rfl,rfl,h1,r1⟩:=trodAll_cons r0
 obtain ⟨rfl,rfl,rfl⟩:=trodAll_nil r1
 obtain rfl : args = #[v0,v1]:=by cases args;simp_all
 obtain ⟨rfl,rfl⟩:=trodVars_none hV
 have k0:=h0
 have lt0 : ∀ x ∈ p0,x.block < W.heap.size:=by obtain ⟨m,hm⟩:=k0;exact DataW.trod_lt m _ _ _ hm
 obtain ⟨a0,len0,cap0,rfl⟩:=okWide_slice Tryz.underlying22 (hval 0 22 v0 rfl rfl)
 obtain ⟨fuel0,hf0⟩:=h0
 obtain ⟨xs0,A0,c0,he0,hcl0,hr0,hby0⟩:=CP hf0
 obtain ⟨rfl,rfl,rfl⟩ : a0 = A0 ∧ len0 = xs0.length ∧ cap0 = c0:=by simpa [Value.cells] using he0
 have k1:=h1
 have lt1 : ∀ x ∈ p1,x.block < W.heap.size:=by obtain ⟨m,hm⟩:=k1;exact DataW.trod_lt m _ _ _ hm
 obtain ⟨a1,Oe,cap1,rfl⟩:=okWide_slice Tryz.underlying22 (hval 1 22 v1 rfl rfl)
 obtain ⟨fuel1,hf1⟩:=h1
 obtain ⟨xs1,A1,c1,he1,hcl1,hr1,hby1⟩:=CP hf1
 obtain ⟨rfl,rfl,rfl⟩ : a1 = A1 ∧ Oe = xs1.length ∧ cap1 = c1:=by simpa [Value.cells] using he1
 clear hA0 hval0 hsz0 hval hA
 refine (Rj hcl0 hby0 hr0 (Cg hr1).2).mono fun e1 W' ⟨he1,bel⟩ => ?_
 subst he1
 exact ⟨_,rfl,_,_,_, [],_, [],hW',trodAll_mk1 (shut_bool Tryz.underlying4 _),(trodAll_cons_mk (Below.trod laidOut (by kernel_rfl) (of_decide_eq_true (by kernel_rfl)) k0 bel lt0) (trodAll_cons_mk (Below.trod laidOut (by kernel_rfl) (of_decide_eq_true (by kernel_rfl)) k1 bel lt1) trodAll_mk0)),rfl,bel.frame _,fun h => by cases h⟩
theorem k24b : (Rows.fnTrueRow.lifted == Tryz.pinned.checked.prog.liftsFinal) = true:=by
 rw [show Tryz.pinned.checked.prog.liftsFinal = false from Gy]
 rfl
theorem k24c : (Tryz.pinned.checked.prog.make == some Rows.fnTrueRow.make) = true:=by
 rw [show Tryz.pinned.checked.prog.make = some Make.cut from KA]
 rfl
set_option maxRecDepth 100000 in
set_option maxHeartbeats 8000000 in
theorem closed : joinedFacts Tryz.pinned.checked.prog 7 Tryz.f7 Rows.fnTrueSpec Rows.fnTrueRow = true:=by
 simp only [joinedFacts,Bool.and_eq_true]
 exact ⟨⟨⟨⟨⟨⟨⟨⟨⟨⟨⟨⟨⟨⟨⟨⟨⟨⟨⟨⟨⟨⟨⟨⟨⟨⟨⟨⟨⟨⟨⟨(by as_aux_lemma => kernel_rfl),(by as_aux_lemma => kernel_rfl)⟩,(by as_aux_lemma => kernel_rfl)⟩,(by as_aux_lemma => kernel_rfl)⟩,(by as_aux_lemma => kernel_rfl)⟩,(by as_aux_lemma => kernel_rfl)⟩,(by as_aux_lemma => kernel_rfl)⟩,(by as_aux_lemma => kernel_rfl)⟩,(by as_aux_lemma => kernel_rfl)⟩,(by as_aux_lemma => kernel_rfl)⟩,(by as_aux_lemma => kernel_rfl)⟩,(by as_aux_lemma => kernel_rfl)⟩,(by as_aux_lemma => kernel_rfl)⟩,(by as_aux_lemma => kernel_rfl)⟩,(by as_aux_lemma => kernel_rfl)⟩,(by as_aux_lemma => kernel_rfl)⟩,(by as_aux_lemma => kernel_rfl)⟩,(by as_aux_lemma => kernel_rfl)⟩,(by as_aux_lemma => kernel_rfl)⟩,(by as_aux_lemma => kernel_rfl)⟩,(by as_aux_lemma => kernel_rfl)⟩,(by as_aux_lemma => kernel_rfl)⟩,(by as_aux_lemma => kernel_rfl)⟩,(by as_aux_lemma => kernel_rfl)⟩,(by as_aux_lemma => kernel_rfl)⟩,J9⟩,k24b⟩,k24c⟩,(by as_aux_lemma => kernel_rfl)⟩,(by as_aux_lemma => kernel_rfl)⟩,(by as_aux_lemma => kernel_rfl)⟩,(by as_aux_lemma => kernel_rfl)⟩
theorem over : Rows.fnTrueRow.holds Tryz.pinned (OpenSpec.ofChange Rows.fnTrueSpec):=
 OpenClaim.holds_of_wide 7 Tryz.f7 rfl rfl rfl rfl rfl rfl rfl ⟨rfl,rfl,rfl,rfl,rfl⟩ rfl rfl rfl rfl rfl (by kernel_rfl) Tryz.func7 closed
  (of_decide_eq_true (by kernel_rfl)) (by unfold Func.isWrapper;first | (rw [if_pos (by decide +kernel)];kernel_rfl) | (rw [if_neg (by decide +kernel)];exact ⟨rfl,rfl⟩))
  (fun os started H enc _ => lifted os started H enc)
theorem proved : Rows.FnTrueSaid:=over
end Go.Proofs.YtofgeajaajfiaaaGreat.fnTrue
namespace Go.Proofs.YtofgeajaajfiaaaGreat
theorem fnTrue_holds : Rows.FnTrueSaid:=fnTrue.proved
end Go.Proofs.YtofgeajaajfiaaaGreat
