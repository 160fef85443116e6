/- Proved here: for all bytes that are handed in, laws.FnTrueSame returns true (what is true does not hang on what was written: a drawn play without falls tells the same pages without its writes and forces). Conditions: none beyond those that the given statement itself bears. -/
import Derived.Test.YtofgeajaajfiaaaGreatZF1
import Derived.Test.YtofgeajaajfiaaaGreatZA1
import Derived.Test.YtofgeajaajfiaaaGreatZV2
import Derived.WalkKit
import Derived.ProofKit
import Derived.OpenShut
import Derived.ShutString
import Derived.ChangeOld
import Derived.Below
import Derived.SizedLaws
set_option linter.unusedVariables false
set_option linter.unusedSimpArgs false
namespace Go.Proofs.YtofgeajaajfiaaaGreat
open Go.RowKit Go.Proofs.YtofgeajaajfiaaaGreatW.PrintWords Go.Proofs.YtofgeajaajfiaaaGreatW.PrintLast Go.Proofs.YtofgeajaajfiaaaGreatW.PrintMore
theorem filter_take {vs : List Evt} {k : Nat} (f : Evt → Bool) (h : k < vs.length) : (vs.take (k + 1)).filter f = (vs.take k).filter f ++ (if f (ev vs k) = true then [ev vs k] else []):=by
 rw [KZ h,List.filter_append,List.filter_cons,List.filter_nil]
theorem filter_few {vs : List Evt} {k : Nat} (f : Evt → Bool) : ((vs.take k).filter f).length ≤ vs.length:=Nat.le_trans (List.length_filter_le _ _) (by rw [List.length_take];omega)
set_option maxRecDepth 100000 in
set_option maxHeartbeats 16000000 in
theorem FnTrueSame_calls {w : World} {A : Option Addr} {c : Nat} {xs : List Int} (hcap : xs.length ≤ c) (hx : Bytes xs) (hr : Kd.C (Kd.int .u8) w A xs.length xs) : Calls Tryz.prog 11 #[.slice A xs.length c] w (JV w):=by
 have HR:=As hr
 have HCAP:=As hcap
 have HBY:=As hx
 have hmx:=(Cg hr).2
 clear hcap hx hr
 rcases lts 1048576 (xs.length : Int) with ⟨e1,b1,c1⟩ | ⟨e1,b1,c1⟩
 ·go_enter Tryz.func11,Tryz.ntmps11
  go_wp2
  go_ret
  exact ⟨rfl,Below.refl _ _⟩
 go_enter Tryz.func11,Tryz.ntmps11
 go_wp2_with (go_at_call 30;refine (Iu HCAP.out HBY.out (Below.refl w.heap.size w) HR.out).mono ?_;rintro x w1 ⟨V,vs,rfl,hV,hlen,hb1⟩;obtain ⟨V1,v1_,rfl,hcv,hc⟩:=Kd.BI hV;have HVC:=As hc;have HCV:=As hcv;have HLN:=As hlen;have HB1:=As hb1;clear hV hcv hc hlen hb1)
 obtain ⟨ts,hts⟩ : ∃ ts,JR vs = ts:=⟨_,rfl⟩
 have HTS:=As hts
 have K0 : True:=trivial
 by_cases few : vs.length ≤ 40
 rotate_left
 ·have hl : ts.length = 0:=by rw [← hts,OD (by omega)];rfl
  have hz : ((ts.length : Int) == 0) = true:=by rw [hl];rfl
  clear hl hts
  go_wp2_with (first | (clear K0;go_at_call 31;refine (ER (c:=v1_) (Below.refl w1.heap.size w1) HVC.out).mono ?_;rw [HTS.out];rintro x w2 ⟨v,rfl,ho,hb2⟩;obtain ⟨T1,t1_,rfl, -,hc⟩:=Kd.BI ho;have HTC:=As hc;have HB2:=As hb2;clear ho hb2 hc;have K1 : True:=trivial) | (clear K1;go_at_call 32;refine (CF (c:=v1_) HB2.out HVC.out).mono ?_;rw [HTS.out];rintro x w3 ⟨v,rfl,ho,hb3⟩;obtain ⟨S1,s1_,rfl, -,hc⟩:=Kd.BI ho;have HSC:=As hc;have HB3:=As hb3;clear ho hb3 hc;have K2 : True:=trivial) | (clear K2;go_at_call 24;refine (CW (c:=t1_) (d:=s1_) HB3.out HTC.out (Below.refl w3.heap.size w3) HSC.out).mono ?_;rintro x w4 ⟨rfl,hb4⟩;have HB4:=As (bj HB2.out (bj HB3.out hb4));have HT4:=As (bj HB3.out hb4);clear hb4;have K3 : True:=trivial) | (clear K3;go_at_call 32;refine (CF (c:=v1_) HB4.out HVC.out).mono ?_;rw [HTS.out];rintro x w5 ⟨v,rfl,ho,hb3⟩;obtain ⟨S5,s5_,rfl, -,hc⟩:=Kd.BI ho;have HSC5:=As hc;have HB5:=As hb3;clear ho hb3 hc;have K4 : True:=trivial) | (clear K4;go_at_call 24;refine (CW (c:=t1_) (d:=s5_) (bj HT4.out HB5.out) HTC.out (Below.refl w5.heap.size w5) HSC5.out).mono ?_;rintro x w6 ⟨rfl,hb4⟩;have HB6:=As (bj HB4.out (bj HB5.out hb4));clear hb4;have K5 : True:=trivial))
  go_ret
  exact ⟨rfl,bj HB1.out HB6.out⟩
 have HTL:=As (show ts = tL (OE vs) by rw [← hts,Q9 few])
 have hl5 : ts.length = 5:=by rw [HTL.out,OI]
 have hz : ((ts.length : Int) == 0) = false:=by rw [hl5];rfl
 have HL5:=As hl5
 clear hl5 hts
 go_wp2_with (first | (clear K0;go_at_call 31;refine (ER (c:=v1_) (Below.refl w1.heap.size w1) HVC.out).mono ?_;rw [HTS.out];rintro x w2 ⟨v,rfl,ho,hb2⟩;obtain ⟨T1,t1_,rfl, -,hc⟩:=Kd.BI ho;have HTC:=As hc;have HB2:=As hb2;clear ho hb2 hc;have K1 : True:=trivial) | (clear K1;go_at_call 32;refine (CF (c:=v1_) HB2.out HVC.out).mono ?_;rw [HTS.out];rintro x w3 ⟨v,rfl,ho,hb3⟩;obtain ⟨S1,s1_,rfl, -,hc⟩:=Kd.BI ho;have HSC:=As hc;have HB3:=As hb3;clear ho hb3 hc;have K2 : True:=trivial) | (clear K2;go_at_call 24;refine (CW (c:=t1_) (d:=s1_) HB3.out HTC.out (Below.refl w3.heap.size w3) HSC.out).mono ?_;rintro x w4 ⟨rfl,hb4⟩;have HB4:=As (bj HB2.out (bj HB3.out hb4));have HT4:=As (bj HB3.out hb4);clear hb4;have K3 : True:=trivial))
 obtain ⟨w5,hw5⟩ : ∃ w5,w4.alloc (Obj.cells #[] 36) = w5:=⟨_,rfl⟩
 rw [hw5]
 have HL0 : Aa (Less w4 w5 (.slice (some ⟨w4.heap.size,0,none⟩) 0 0) []):=⟨by rw [← hw5];exact Less.nil (Below.refl _ _)⟩
 clear hw5
 go_loopw [5,6] (fun l i wr => ∃ k : Nat,k ≤ vs.length ∧ i = .int .i64 (k : Int) ∧ Aa (Less w4 wr l ((vs.take k).filter (fun v => !quietB v))) ∧ Aa (∀ v ∈ vs.take k,v.kind ≠ 8)) (fun _ i _ => (vs.length - intOf i).toNat)
 case atStart => exact ⟨0,Nat.zero_le _,rfl,HL0,⟨fun v hv => by simp at hv⟩⟩
 case round =>
  obtain ⟨k,hk,rfl,HL,H8⟩:=hrel
  by_cases hlt : k < vs.length
  rotate_left
  ·have hki : ¬ (k : Int) < (vs.length : Int):=by omega
   obtain rfl : k = vs.length:=by omega
   have hus : (vs.take vs.length).filter (fun v => !quietB v) = vs.filter (fun v => !quietB v):=by rw [List.take_length]
   obtain ⟨us,hu⟩ : ∃ us,vs.filter (fun v => !quietB v) = us:=⟨_,rfl⟩
   have HLU:=As (show Less w4 wr _ us by have h:=HL.out;rw [hus,hu] at h;exact h)
   have hu40 : us.length ≤ 40:=by rw [← hu];exact Nat.le_trans (List.length_filter_le _ _) few
   obtain ⟨A5,c5,rfl,hc5,hK⟩:=HLU.out.reads (by omega)
   have HK:=As hK
   have h8 : ∀ v ∈ vs,v.kind ≠ 8:=by have h:=H8.out;rw [List.take_length] at h;exact h
   have HUT:=As (show JR us = tL (OE vs) by rw [Q9 hu40, ← hu,trueC_quiet h8])
   obtain ⟨us',hut⟩ : ∃ us',tL (OE vs) = us':=⟨_,rfl⟩
   have HUC:=As (show N8 us' (OE vs) by rw [← hut];exact UH _)
   have HTA:=As (show N8 ts (OE vs) by rw [HTL.out];exact UH _)
   rw [hut] at HUT
   clear hus hu hK hut
   have L0 : True:=trivial
   go_wp2_with (first | (clear L0;go_at_call 31;refine (ER (c:=c5) (Below.refl _ _) HK.out).mono ?_;rw [HUT.out];rintro x w7 ⟨v,rfl,ho,hb2⟩;obtain ⟨U1,u1_,rfl, -,hc⟩:=Kd.BI ho;have HU1:=As hc;have HT7:=As hb2;clear ho hb2 hc;have L1 : True:=trivial) | (clear L1;go_at_call 33;refine (KD (c:=u1_) (d:=t1_) (HUC.out.same HTA.out) (Below.refl w7.heap.size w7) HU1.out (bj HT4.out (bj HL.out.bel HT7.out)) HTC.out).mono ?_;rintro x w9 ⟨rfl,hb8⟩;have HZ:=As (bj HT7.out hb8);clear hb8;have L2 : True:=trivial))
   go_ret
   exact ⟨rfl,bj HB1.out (bj HB4.out (bj HL.out.bel HZ.out))⟩
  have hki : (k : Int) < (vs.length : Int):=by omega
  obtain ⟨ad,A2,c2,rfl,QV,hl2,hv⟩:=R6 (BA HVC.out HB4.out) k hlt
  obtain ⟨z0,z1,z2,z3,z4,z5⟩:=QV
  have HV:=As (And.intro hl2 hv)
  replace z0:=bc HL.out.bel z0
  replace z1:=bc HL.out.bel z1
  replace z2:=bc HL.out.bel z2
  replace z3:=bc HL.out.bel z3
  replace z4:=bc HL.out.bel z4
  replace z5:=bc HL.out.bel z5
  have HFT:=As (filter_take (fun v => !quietB v) hlt)
  have hfk:=filter_few (vs:=vs) (k:=k) (fun v => !quietB v)
  clear hl2 hv
  rcases BQ (ev vs k).kind 8 with ⟨e8,b8,c8'⟩ | ⟨e8,b8,c8'⟩
  ·go_wp2
   go_ret
   exact ⟨rfl,bj HB1.out (bj HB4.out HL.out.bel)⟩
  have H9:=As (show ∀ v ∈ vs.take (k + 1),v.kind ≠ 8 from fun v hv => by rw [KZ hlt] at hv;rcases List.mem_append.1 hv with h | h;exact H8.out v h;obtain rfl : v = ev vs k:=(by simpa using h);exact e8.out)
  rcases BQ (ev vs k).kind 6 with ⟨e6,b6,c6⟩ | ⟨e6,b6,c6⟩
  ·have hq : quietB (ev vs k) = true:=by rw [quietB,b6,Bool.true_or]
   go_wp2
   go_roundw
   case rel => exact ⟨k + 1,by omega,by go_num,⟨by rw [HFT.out,if_neg (by rw [hq];simp),List.append_nil];exact HL.out⟩,H9⟩
   case measure => simp [intOf];omega
  rcases BQ (ev vs k).kind 7 with ⟨e7,b7,c7⟩ | ⟨e7,b7,c7⟩
  ·have hq : quietB (ev vs k) = true:=by rw [quietB,b7,Bool.or_true]
   go_wp2
   go_roundw
   case rel => exact ⟨k + 1,by omega,by go_num,⟨by rw [HFT.out,if_neg (by rw [hq];simp),List.append_nil];exact HL.out⟩,H9⟩
   case measure => simp [intOf];omega
  have HQF:=As (show (!quietB (ev vs k)) = true by rw [quietB,b6,b7];rfl)
  have L0 : True:=trivial
  go_wp2_with (clear L0;(at_builtin;refine less_append (W:=wr) (ev vs k,(A2,c2)) rfl (.tmp 55) (.tmp 60) rfl rfl rfl HV.out HL.out (by omega) ?_;intro V1 w7 hL7;have HL7:=As hL7;clear hL7 z0 z1 z2 z3 z4 z5;have L1 : True:=trivial))
  go_roundw
  case rel => exact ⟨k + 1,by omega,by go_num,⟨by rw [HFT.out,if_pos HQF.out];exact HL7.out⟩,H9⟩
  case measure => simp [intOf];omega
open Go.RowKit Go.Proofs.YtofgeajaajfiaaaGreatW.PrintWords Go.Proofs.YtofgeajaajfiaaaGreatW.PrintLast Go.Proofs.YtofgeajaajfiaaaGreatW.PrintMore Go.ChangeShapes Go.WideShapes Go.Deep
theorem CP {H : Type} {enc : TypeId × Value → H} {w : World} {held : Bool} {fuel : Nat} {cs : List Value} {y : DataW H × List MemPlace} (h : DataW.trod enc Tryz.prog w 0 (fun _ => true) held fuel 22 cs = some y) : ∃ xs A c,cs = [.slice A (List.length xs) c] ∧ xs.length ≤ c ∧ (Kd.int .u8).C w A xs.length xs ∧ Bytes xs:=by
 obtain ⟨xs,A,c,he,hcl,hr⟩:=Gu (d:=Kd.int .u8) Tryz.underlying22 (by kernel_rfl) (J6 Tryz.underlying5) _ _ _ h
 refine ⟨xs,A,c,he,hcl,hr,fun b hb => ?_⟩
 obtain ⟨i,hi,rfl⟩:=List.getElem_of_mem hb
 obtain ⟨ad,ha,hc⟩:=Oa hr i hi
 rcases open_ints Tryz.underlying22 Tryz.underlying5 (by kernel_rfl) h with ⟨hcs,_⟩ | ⟨x,l,c',zs,hcs,_,hl,hm,hz,_,hcell,hwz⟩
 ·rw [he,ha] at hcs
  simp at hcs
 ·rw [he,ha] at hcs
  simp only [List.cons.injEq,Value.slice.injEq,Option.some.injEq,and_true] at hcs
  obtain ⟨rfl,h2,rfl⟩:=hcs
  rw [if_pos rfl] at hz
  have h3:=hcell i (by omega)
  rw [hc] at h3
  have h4 : iv xs i = zs.getD i 0:=by simpa using h3
  have h5:=range_u8 hwz i
  have e : iv xs i = xs[i]:=by simp [iv,List.getD_eq_getElem?_getD,hi]
  rw [← e,h4,List.getD_eq_getElem?_getD]
  exact h5
end Go.Proofs.YtofgeajaajfiaaaGreat
namespace Go.Proofs.YtofgeajaajfiaaaGreat.fnTrueSame
open Go.ChangeShapes Go.WideShapes Go.ChangeAt Go.RowKit Go.Proofs.YtofgeajaajfiaaaGreat
theorem own : ownKnob Tryz.prog.godebug = none:=by kernel_rfl
theorem laidOut : laidOutB Tryz.prog = true:=by kernel_rfl
set_option maxRecDepth 100000 in
theorem lifted (os : Os) (started : os.Started) (H : Type) (enc : TypeId × Value → H) :
  ReturnsInHanded {} Tryz.checked os 11 .any (Rows.fnTrueSameSpec.pre6 enc Tryz.prog Tryz.f11 Rows.fnTrueSameRow.domain false) (Rows.fnTrueSameSpec.post enc Tryz.prog Tryz.f11 false true false false):=by
 refine returnsInHanded_of_change_sized (C:=Tryz.checked) own started (by kernel_rfl) Tryz.func11
  (ChangeSpec.witness6 (enc:=enc) (C:=Tryz.checked) false ⟨#[],#[.slice none 0 0], []⟩ 8 (by kernel_rfl) (by kernel_rfl) (by kernel_rfl) (by kernel_rfl)) ?_
 intro W base args ds gs before hval0 hW hcnd hsz0 _
 have hval : ∀ (j : Nat) t v,Tryz.f11.params[j]? = some t → args[j]? = some v → Value.okWide Tryz.prog W .any base t v:=hval0
 have hW':=hW
 obtain ⟨p,q,hA0,hV,rfl,hfz,hnd⟩:=hW
 have hA : DataW.TrodAll enc Tryz.prog W 0 (fun _ => true) true Tryz.f11.params.toList args.toList ds p:=hA0
 rw [Tryz.params11] at hA hval
 obtain ⟨v0,vs0,d0,ds0,p0,q0,hargs,rfl,rfl,h0,r0⟩:=trodAll_cons hA
 obtain ⟨rfl,rfl,rfl⟩:=trodAll_nil r0
 obtain rfl : args = #[v0]:=by cases args;simp_all
 obtain ⟨rfl,rfl⟩:=trodVars_none hV
 have k0:=h0
 have lt0 : ∀ x ∈ p0,x.block < W.heap.size:=by obtain ⟨m,hm⟩:=k0;exact DataW.trod_lt m _ _ _ hm
 obtain ⟨a0,len0,cap0,rfl⟩:=okWide_slice Tryz.underlying22 (hval 0 22 v0 rfl rfl)
 obtain ⟨fuel0,hf0⟩:=h0
 obtain ⟨xs0,A0,c0,he0,hcl0,hr0,hby0⟩:=CP hf0
 obtain ⟨rfl,rfl,rfl⟩ : a0 = A0 ∧ len0 = xs0.length ∧ cap0 = c0:=by simpa [Value.cells] using he0
 clear hA0 hval0 hsz0 hval hA
 refine (FnTrueSame_calls hcl0 hby0 hr0).mono fun e1 W' ⟨he1,bel⟩ => ?_
 subst he1
 exact ⟨_,rfl,_,_,_, [],_, [],hW',trodAll_mk1 (shut_bool Tryz.underlying4 _),(trodAll_cons_mk (Below.trod laidOut (by kernel_rfl) (of_decide_eq_true (by kernel_rfl)) k0 bel lt0) trodAll_mk0),rfl,bel.frame _,fun h => by cases h⟩
theorem k24b : (Rows.fnTrueSameRow.lifted == Tryz.pinned.checked.prog.liftsFinal) = true:=by
 rw [show Tryz.pinned.checked.prog.liftsFinal = false from Gy]
 rfl
theorem k24c : (Tryz.pinned.checked.prog.make == some Rows.fnTrueSameRow.make) = true:=by
 rw [show Tryz.pinned.checked.prog.make = some Make.cut from KA]
 rfl
set_option maxRecDepth 100000 in
set_option maxHeartbeats 8000000 in
theorem closed : joinedFacts Tryz.pinned.checked.prog 11 Tryz.f11 Rows.fnTrueSameSpec Rows.fnTrueSameRow = true:=by
 simp only [joinedFacts,Bool.and_eq_true]
 exact ⟨⟨⟨⟨⟨⟨⟨⟨⟨⟨⟨⟨⟨⟨⟨⟨⟨⟨⟨⟨⟨⟨⟨⟨⟨⟨⟨⟨⟨⟨⟨(by as_aux_lemma => kernel_rfl),(by as_aux_lemma => kernel_rfl)⟩,(by as_aux_lemma => kernel_rfl)⟩,(by as_aux_lemma => kernel_rfl)⟩,(by as_aux_lemma => kernel_rfl)⟩,(by as_aux_lemma => kernel_rfl)⟩,(by as_aux_lemma => kernel_rfl)⟩,(by as_aux_lemma => kernel_rfl)⟩,(by as_aux_lemma => kernel_rfl)⟩,(by as_aux_lemma => kernel_rfl)⟩,(by as_aux_lemma => kernel_rfl)⟩,(by as_aux_lemma => kernel_rfl)⟩,(by as_aux_lemma => kernel_rfl)⟩,(by as_aux_lemma => kernel_rfl)⟩,(by as_aux_lemma => kernel_rfl)⟩,(by as_aux_lemma => kernel_rfl)⟩,(by as_aux_lemma => kernel_rfl)⟩,(by as_aux_lemma => kernel_rfl)⟩,(by as_aux_lemma => kernel_rfl)⟩,(by as_aux_lemma => kernel_rfl)⟩,(by as_aux_lemma => kernel_rfl)⟩,(by as_aux_lemma => kernel_rfl)⟩,(by as_aux_lemma => kernel_rfl)⟩,(by as_aux_lemma => kernel_rfl)⟩,(by as_aux_lemma => kernel_rfl)⟩,J9⟩,k24b⟩,k24c⟩,(by as_aux_lemma => kernel_rfl)⟩,(by as_aux_lemma => kernel_rfl)⟩,(by as_aux_lemma => kernel_rfl)⟩,(by as_aux_lemma => kernel_rfl)⟩
theorem over : Rows.fnTrueSameRow.holds Tryz.pinned (OpenSpec.ofChange Rows.fnTrueSameSpec):=
 OpenClaim.holds_of_wide 11 Tryz.f11 rfl rfl rfl rfl rfl rfl rfl ⟨rfl,rfl,rfl,rfl,rfl⟩ rfl rfl rfl rfl rfl (by kernel_rfl) Tryz.func11 closed
  (of_decide_eq_true (by kernel_rfl)) (by unfold Func.isWrapper;first | (rw [if_pos (by decide +kernel)];kernel_rfl) | (rw [if_neg (by decide +kernel)];exact ⟨rfl,rfl⟩))
  (fun os started H enc _ => lifted os started H enc)
theorem proved : Rows.FnTrueSameSaid:=over
end Go.Proofs.YtofgeajaajfiaaaGreat.fnTrueSame
namespace Go.Proofs.YtofgeajaajfiaaaGreat
theorem fnTrueSame_holds : Rows.FnTrueSameSaid:=fnTrueSame.proved
end Go.Proofs.YtofgeajaajfiaaaGreat
