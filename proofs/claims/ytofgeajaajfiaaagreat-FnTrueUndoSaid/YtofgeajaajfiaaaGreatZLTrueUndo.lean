/- Proved here: for all bytes that are handed in, laws.FnTrueUndo returns true (what is undone leaves just what was done: behind a drawn play, all three transactions undone, the pages have what PlayTrue tells, and nobody is open). Conditions: none beyond those that the given statement itself bears. -/
import Derived.Test.YtofgeajaajfiaaaGreatZF1
import Derived.Test.YtofgeajaajfiaaaGreatZA1
import Derived.Test.YtofgeajaajfiaaaGreatZV2
import Derived.WalkKit
import Derived.ProofKit
import Derived.OpenShut
import Derived.ShutString
import Derived.ChangeOld
import Derived.Below
import Derived.SizedLaws
set_option linter.unusedVariables false
set_option linter.unusedSimpArgs false
namespace Go.Proofs.YtofgeajaajfiaaaGreat
open Go.RowKit Go.Proofs.YtofgeajaajfiaaaGreatW.PrintWords Go.Proofs.YtofgeajaajfiaaaGreatW.PrintLast Go.Proofs.YtofgeajaajfiaaaGreatW.PrintMore
set_option maxRecDepth 100000 in
set_option maxHeartbeats 16000000 in
theorem ND {w : World} {A : Option Addr} {c : Nat} {xs : List Int} (hcap : xs.length ≤ c) (hx : Bytes xs) (hr : Kd.C (Kd.int .u8) w A xs.length xs) : Calls Tryz.prog 8 #[.slice A xs.length c] w (JV w):=by
 have HR:=As hr
 have HCAP:=As hcap
 have HBY:=As hx
 have hmx:=(Cg hr).2
 clear hcap hx hr
 rcases lts 1048576 (xs.length : Int) with ⟨e1,b1,c1⟩ | ⟨e1,b1,c1⟩
 ·go_enter Tryz.func8,Tryz.ntmps8
  go_wp2
  go_ret
  exact ⟨rfl,Below.refl _ _⟩
 go_enter Tryz.func8,Tryz.ntmps8
 go_wp2_with (go_at_call 30;refine (Iu HCAP.out HBY.out (Below.refl w.heap.size w) HR.out).mono ?_;rintro x w1 ⟨V,vs,rfl,hV,hlen,hb1⟩;obtain ⟨V1,v1_,rfl,hcv,hc⟩:=Kd.BI hV;have HVC:=As hc;have HCV:=As hcv;have HLN:=As hlen;have HB1:=As hb1;clear hV hcv hc hlen hb1)
 obtain ⟨ts,hts⟩ : ∃ ts,JR vs = ts:=⟨_,rfl⟩
 have HTS:=As hts
 have K0 : True:=trivial
 by_cases few : vs.length ≤ 40
 rotate_left
 ·have hl : ts.length = 0:=by rw [← hts,OD (by omega)];rfl
  have hz : ((ts.length : Int) == 0) = true:=by rw [hl];rfl
  clear hl hts
  go_wp2_with (first | (clear K0;go_at_call 31;refine (ER (c:=v1_) (Below.refl w1.heap.size w1) HVC.out).mono ?_;rw [HTS.out];rintro x w2 ⟨v,rfl,ho,hb2⟩;obtain ⟨T1,t1_,rfl, -,hc⟩:=Kd.BI ho;have HTC:=As hc;have HB2:=As hb2;clear ho hb2 hc;have K1 : True:=trivial) | (clear K1;go_at_call 32;refine (CF (c:=v1_) HB2.out HVC.out).mono ?_;rw [HTS.out];rintro x w3 ⟨v,rfl,ho,hb3⟩;obtain ⟨S1,s1_,rfl, -,hc⟩:=Kd.BI ho;have HSC:=As hc;have HB3:=As hb3;clear ho hb3 hc;have K2 : True:=trivial) | (clear K2;go_at_call 24;refine (CW (c:=t1_) (d:=s1_) HB3.out HTC.out (Below.refl w3.heap.size w3) HSC.out).mono ?_;rintro x w4 ⟨rfl,hb4⟩;have HB4:=As (bj HB2.out (bj HB3.out hb4));have HT4:=As (bj HB3.out hb4);clear hb4;have K3 : True:=trivial) | (clear K3;go_at_call 32;refine (CF (c:=v1_) HB4.out HVC.out).mono ?_;rw [HTS.out];rintro x w5 ⟨v,rfl,ho,hb3⟩;obtain ⟨S5,s5_,rfl, -,hc⟩:=Kd.BI ho;have HSC5:=As hc;have HB5:=As hb3;clear ho hb3 hc;have K4 : True:=trivial) | (clear K4;go_at_call 24;refine (CW (c:=t1_) (d:=s5_) (bj HT4.out HB5.out) HTC.out (Below.refl w5.heap.size w5) HSC5.out).mono ?_;rintro x w6 ⟨rfl,hb4⟩;have HB6:=As (bj HB4.out (bj HB5.out hb4));clear hb4;have K5 : True:=trivial))
  go_ret
  exact ⟨rfl,bj HB1.out HB6.out⟩
 have HTL:=As (show ts = tL (OE vs) by rw [← hts,Q9 few])
 have hl5 : ts.length = 5:=by rw [HTL.out,OI]
 have hz : ((ts.length : Int) == 0) = false:=by rw [hl5];rfl
 have HL5:=As hl5
 clear hl5 hts
 obtain ⟨E,hE⟩ : ∃ E,runE newE vs = E:=⟨_,rfl⟩
 obtain ⟨C,hC⟩ : ∃ C,OE vs = C:=⟨_,rfl⟩
 have hI:=Sr few
 rw [hE,hC] at hI
 rw [hC] at HTL
 have HRR:=As (show Kl vs = (E,true) by rw [Kl,if_neg (by omega),hE])
 have HTA:=As (show N8 ts C by rw [HTL.out];exact UH C)
 clear hE hC
 cases hd : E.down
 rotate_left
 ·have HD:=As hd
  clear hd hI
  go_wp2_with (first | (clear K0;go_at_call 31;refine (ER (c:=v1_) (Below.refl w1.heap.size w1) HVC.out).mono ?_;rw [HTS.out];rintro x w2 ⟨v,rfl,ho,hb2⟩;obtain ⟨T1,t1_,rfl, -,hc⟩:=Kd.BI ho;have HTC:=As hc;have HB2:=As hb2;clear ho hb2 hc;have K1 : True:=trivial) | (clear K1;go_at_call 32;refine (CF (c:=v1_) HB2.out HVC.out).mono ?_;rw [HTS.out];rintro x w3 ⟨v,rfl,ho,hb3⟩;obtain ⟨S1,s1_,rfl, -,hc⟩:=Kd.BI ho;have HSC:=As hc;have HB3:=As hb3;clear ho hb3 hc;have K2 : True:=trivial) | (clear K2;go_at_call 24;refine (CW (c:=t1_) (d:=s1_) HB3.out HTC.out (Below.refl w3.heap.size w3) HSC.out).mono ?_;rintro x w4 ⟨rfl,hb4⟩;have HB4:=As (bj HB2.out (bj HB3.out hb4));have HT4:=As (bj HB3.out hb4);clear hb4;have K3 : True:=trivial) | (clear K3;go_at_call 14;refine (Cy (c:=v1_) HB4.out HVC.out).mono ?_;rw [HRR.out];rintro x w5 ⟨vd,vm,vl,rfl,ho,hb5⟩;obtain ⟨Gd,g1_,Gm,g2_,Gl,g3_,rfl,rfl,rfl, -, -⟩:=ho.reads;have HO5:=As ho;have HB5:=As hb5;clear ho hb5;have K4 : True:=trivial) | (clear K4;refine Ag (vd:=.slice Gd E.disk.length g1_) (vm:=.slice Gm E.mem.length g2_) (vl:=.slice Gl E.log.length g3_) E ?_;intro w6 hb6 hz6 hq6;have HS6:=As hb6;have HEG : Aa (BR w4 w6 w5.heap.size E):=⟨⟨⟨_,_,_,hq6,HO5.out.below hb6⟩,bj HB5.out hb6,HB5.out.size⟩⟩;have g0:=hq6.c0;have g1:=hq6.c1;have g2:=hq6.c2;have g3:=hq6.c3;have g4:=hq6.c4;rw [HD.out] at g4;clear hb6 hz6 hq6;have K5 : True:=trivial))
  go_ret
  exact ⟨rfl,bj HB1.out (bj HB4.out (bj HB5.out HS6.out))⟩
 have HU0:=As (show KM C (3 * 40) 0 E from ⟨hI,hd,fun t h1 h2 => by omega⟩)
 have HD:=As hd
 clear hd hI
 go_wp2_with (first | (clear K0;go_at_call 31;refine (ER (c:=v1_) (Below.refl w1.heap.size w1) HVC.out).mono ?_;rw [HTS.out];rintro x w2 ⟨v,rfl,ho,hb2⟩;obtain ⟨T1,t1_,rfl, -,hc⟩:=Kd.BI ho;have HTC:=As hc;have HB2:=As hb2;clear ho hb2 hc;have K1 : True:=trivial) | (clear K1;go_at_call 32;refine (CF (c:=v1_) HB2.out HVC.out).mono ?_;rw [HTS.out];rintro x w3 ⟨v,rfl,ho,hb3⟩;obtain ⟨S1,s1_,rfl, -,hc⟩:=Kd.BI ho;have HSC:=As hc;have HB3:=As hb3;clear ho hb3 hc;have K2 : True:=trivial) | (clear K2;go_at_call 24;refine (CW (c:=t1_) (d:=s1_) HB3.out HTC.out (Below.refl w3.heap.size w3) HSC.out).mono ?_;rintro x w4 ⟨rfl,hb4⟩;have HB4:=As (bj HB2.out (bj HB3.out hb4));have HT4:=As (bj HB3.out hb4);clear hb4;have K3 : True:=trivial) | (clear K3;go_at_call 14;refine (Cy (c:=v1_) HB4.out HVC.out).mono ?_;rw [HRR.out];rintro x w5 ⟨vd,vm,vl,rfl,ho,hb5⟩;obtain ⟨Gd,g1_,Gm,g2_,Gl,g3_,rfl,rfl,rfl, -, -⟩:=ho.reads;have HO5:=As ho;have HB5:=As hb5;clear ho hb5;have K4 : True:=trivial) | (clear K4;refine Ag (vd:=.slice Gd E.disk.length g1_) (vm:=.slice Gm E.mem.length g2_) (vl:=.slice Gl E.log.length g3_) E ?_;intro w6 hb6 hz6 hq6;have HS6:=As hb6;have HEG : Aa (BR w4 w6 w5.heap.size E):=⟨⟨⟨_,_,_,hq6,HO5.out.below hb6⟩,bj HB5.out hb6,HB5.out.size⟩⟩;have g0:=hq6.c0;have g1:=hq6.c1;have g2:=hq6.c2;have g3:=hq6.c3;have g4:=hq6.c4;rw [HD.out] at g4;clear hb6 hz6 hq6;have K5 : True:=trivial))
 clear g0 g1 g2 g3 g4
 go_loopw [7] (fun i wr => ∃ (k : Nat) (X : Eng),k ≤ 3 ∧ i = .int .i64 ((k : Int) + 1) ∧ Aa (KM C (3 * 40) k X) ∧ Aa (BR w4 wr w5.heap.size X)) (fun i _ => (4 - intOf i).toNat)
 case atStart => exact ⟨0,E,by decide,rfl,HU0,HEG⟩
 case round =>
  obtain ⟨k,X,hk,rfl,HUK,HE⟩:=hrel
  obtain ⟨⟨vd,vm,vl,hq,ho⟩, -, -⟩:=HE.out
  obtain ⟨Ed,m1,Em,m2,El,m3,rfl,rfl,rfl,hcl,hrd⟩:=ho.reads
  have HRD:=As hrd
  have HQ:=As hq
  have HCL:=As hcl
  have x0:=hq.c0
  have x1:=hq.c1
  have x2:=hq.c2
  have x3:=hq.c3
  have x4:=hq.c4
  clear hq ho hrd hcl
  by_cases hlt : k < 3
  ·have hki : (k : Int) + 1 ≤ 3:=by omega
   obtain ⟨X1,hX1⟩ : ∃ X1,Az X ⟨5,(k : Int) + 1,0,0,0, []⟩ = X1:=⟨_,rfl⟩
   have HU1:=As (show KM C (3 * 40) (k + 1) X1 by have h:=HUK.out.step hlt;rw [show ((k + 1 : Nat) : Int) = (k : Int) + 1 by omega,hX1] at h;exact h)
   have HX1:=As hX1
   have L0 : True:=trivial
   clear hX1
   go_wp2_with (first | (clear L0;go_at_call 18;refine (Es (w0:=wr) (cd:=m1) (cm:=m2) (cl:=m3) (c:=0) ⟨5,(k : Int) + 1,0,0,0, []⟩ HUK.out.1 (by omega) HCL.out (Below.refl _ _) HRD.out (RO _)).mono ?_;rw [HX1.out];rintro x w11 ⟨ud,um,ul,rfl,ho,hb5⟩;obtain ⟨Fd,k1,Fm,k2,Fl,k3,rfl,rfl,rfl,hcl,hc⟩:=ho.reads;have HO11:=As (ho.lower (b':=w4.heap.size) HE.out.bel.size);have HQ11:=As (HQ.out.up hb5);have HB11:=As (bj HE.out.bel hb5);clear ho hb5 hcl hc x0 x1 x2 x3 x4;have y0:=HQ11.out.c0;have y1:=HQ11.out.c1;have y2:=HQ11.out.c2;have y3:=HQ11.out.c3;have y4:=HQ11.out.c4;have f0:=HQ11.out.frz 0;have f1:=HQ11.out.frz 1;have f2:=HQ11.out.frz 2;have f3:=HQ11.out.frz 3;have f4:=HQ11.out.frz 4;have L1 : True:=trivial))
   go_roundw
   case rel => exact ⟨k + 1,X1,by omega,by go_num,HU1,⟨⟨_,_,_,HQ11.out.Ao X1 _ _ _,HO11.out.Ao (f:=X1) HQ11.out⟩,Ah HB11.out HE.out.ge X1 _ _ _,HE.out.ge⟩⟩
   case measure => simp [intOf];omega
  ·have hki : ¬ (k : Int) + 1 ≤ 3:=by omega
   obtain rfl : k = 3:=by omega
   have hl:=HUK.out.all
   have HLS:=As hl.1
   have HNO:=As hl.2
   have HLG:=As HUK.out.1.core.log
   have L0 : True:=trivial
   clear hl
   go_wp2_with (first | (clear L0;go_at_call 33;refine (KD (c:=m2) (d:=t1_) (HLS.out.same HTA.out) (Below.refl wr.heap.size wr) HRD.out.m (bj HT4.out HE.out.bel) HTC.out).mono ?_;rintro x w13 ⟨rfl,hb13⟩;have HB13:=As hb13;replace x2:=bc hb13 x2;clear hb13 x0 x1 x3 x4;have L1 : True:=trivial) | (clear L1;go_at_call 17;refine (Fq (c:=m3) HLG.out HB13.out HRD.out.l).mono ?_;rw [HNO.out];rintro x w14 ⟨v,rfl,ho,hb8⟩;obtain ⟨A9,c9,rfl, -, -⟩:=ho.reads;have HB14:=As (bj HB13.out hb8);clear ho hb8;have L2 : True:=trivial))
   go_ret
   exact ⟨rfl,bj HB1.out (bj HB4.out (bj HE.out.bel HB14.out))⟩
open Go.RowKit Go.Proofs.YtofgeajaajfiaaaGreatW.PrintWords Go.Proofs.YtofgeajaajfiaaaGreatW.PrintLast Go.Proofs.YtofgeajaajfiaaaGreatW.PrintMore Go.ChangeShapes Go.WideShapes Go.Deep
theorem CP {H : Type} {enc : TypeId × Value → H} {w : World} {held : Bool} {fuel : Nat} {cs : List Value} {y : DataW H × List MemPlace} (h : DataW.trod enc Tryz.prog w 0 (fun _ => true) held fuel 22 cs = some y) : ∃ xs A c,cs = [.slice A (List.length xs) c] ∧ xs.length ≤ c ∧ (Kd.int .u8).C w A xs.length xs ∧ Bytes xs:=by
 obtain ⟨xs,A,c,he,hcl,hr⟩:=Gu (d:=Kd.int .u8) Tryz.underlying22 (by kernel_rfl) (J6 Tryz.underlying5) _ _ _ h
 refine ⟨xs,A,c,he,hcl,hr,fun b hb => ?_⟩
 obtain ⟨i,hi,rfl⟩:=List.getElem_of_mem hb
 obtain ⟨ad,ha,hc⟩:=Oa hr i hi
 rcases open_ints Tryz.underlying22 Tryz.underlying5 (by kernel_rfl) h with ⟨hcs,_⟩ | ⟨x,l,c',zs,hcs,_,hl,hm,hz,_,hcell,hwz⟩
 ·rw [he,ha] at hcs
  simp at hcs
 ·rw [he,ha] at hcs
  simp only [List.cons.injEq,Value.slice.injEq,Option.some.injEq,and_true] at hcs
  obtain ⟨rfl,h2,rfl⟩:=hcs
  rw [if_pos rfl] at hz
  have h3:=hcell i (by omega)
  rw [hc] at h3
  have h4 : iv xs i = zs.getD i 0:=by simpa using h3
  have h5:=range_u8 hwz i
  have e : iv xs i = xs[i]:=by simp [iv,List.getD_eq_getElem?_getD,hi]
  rw [← e,h4,List.getD_eq_getElem?_getD]
  exact h5
end Go.Proofs.YtofgeajaajfiaaaGreat
namespace Go.Proofs.YtofgeajaajfiaaaGreat.fnTrueUndo
open Go.ChangeShapes Go.WideShapes Go.ChangeAt Go.RowKit Go.Proofs.YtofgeajaajfiaaaGreat
theorem own : ownKnob Tryz.prog.godebug = none:=by kernel_rfl
theorem laidOut : laidOutB Tryz.prog = true:=by kernel_rfl
set_option maxRecDepth 100000 in
theorem lifted (os : Os) (started : os.Started) (H : Type) (enc : TypeId × Value → H) :
  ReturnsInHanded {} Tryz.checked os 8 .any (Rows.fnTrueUndoSpec.pre6 enc Tryz.prog Tryz.f8 Rows.fnTrueUndoRow.domain false) (Rows.fnTrueUndoSpec.post enc Tryz.prog Tryz.f8 false true false false):=by
 refine returnsInHanded_of_change_sized (C:=Tryz.checked) own started (by kernel_rfl) Tryz.func8
  (ChangeSpec.witness6 (enc:=enc) (C:=Tryz.checked) false ⟨#[],#[.slice none 0 0], []⟩ 8 (by kernel_rfl) (by kernel_rfl) (by kernel_rfl) (by kernel_rfl)) ?_
 intro W base args ds gs before hval0 hW hcnd hsz0 _
 have hval : ∀ (j : Nat) t v,Tryz.f8.params[j]? = some t → args[j]? = some v → Value.okWide Tryz.prog W .any base t v:=hval0
 have hW':=hW
 obtain ⟨p,q,hA0,hV,rfl,hfz,hnd⟩:=hW
 have hA : DataW.TrodAll enc Tryz.prog W 0 (fun _ => true) true Tryz.f8.params.toList args.toList ds p:=hA0
 rw [Tryz.params8] at hA hval
 obtain ⟨v0,vs0,d0,ds0,p0,q0,hargs,rfl,rfl,h0,r0⟩:=trodAll_cons hA
 obtain ⟨rfl,rfl,rfl⟩:=trodAll_nil r0
 obtain rfl : args = #[v0]:=by cases args;simp_all
 obtain ⟨rfl,rfl⟩:=trodVars_none hV
 have k0:=h0
 have lt0 : ∀ x ∈ p0,x.block < W.heap.size:=by obtain ⟨m,hm⟩:=k0;exact DataW.trod_lt m _ _ _ hm
 obtain ⟨a0,len0,cap0,rfl⟩:=okWide_slice Tryz.underlying22 (hval 0 22 v0 rfl rfl)
 obtain ⟨fuel0,hf0⟩:=h0
 obtain ⟨xs0,A0,c0,he0,hcl0,hr0,hby0⟩:=CP hf0
 obtain ⟨rfl,rfl,rfl⟩ : a0 = A0 ∧ len0 = xs0.length ∧ cap0 = c0:=by simpa [Value.cells] using he0
 clear hA0 hval0 hsz0 hval hA
 refine (ND hcl0 hby0 hr0).mono fun e1 W' ⟨he1,bel⟩ => ?_
 subst he1
 exact ⟨_,rfl,_,_,_, [],_, [],hW',trodAll_mk1 (shut_bool Tryz.underlying4 _),(trodAll_cons_mk (Below.trod laidOut (by kernel_rfl) (of_decide_eq_true (by kernel_rfl)) k0 bel lt0) trodAll_mk0),rfl,bel.frame _,fun h => by cases h⟩
theorem k24b : (Rows.fnTrueUndoRow.lifted == Tryz.pinned.checked.prog.liftsFinal) = true:=by
 rw [show Tryz.pinned.checked.prog.liftsFinal = false from Gy]
 rfl
theorem k24c : (Tryz.pinned.checked.prog.make == some Rows.fnTrueUndoRow.make) = true:=by
 rw [show Tryz.pinned.checked.prog.make = some Make.cut from KA]
 rfl
set_option maxRecDepth 100000 in
set_option maxHeartbeats 8000000 in
theorem closed : joinedFacts Tryz.pinned.checked.prog 8 Tryz.f8 Rows.fnTrueUndoSpec Rows.fnTrueUndoRow = true:=by
 simp only [joinedFacts,Bool.and_eq_true]
 exact ⟨⟨⟨⟨⟨⟨⟨⟨⟨⟨⟨⟨⟨⟨⟨⟨⟨⟨⟨⟨⟨⟨⟨⟨⟨⟨⟨⟨⟨⟨⟨(by as_aux_lemma => kernel_rfl),(by as_aux_lemma => kernel_rfl)⟩,(by as_aux_lemma => kernel_rfl)⟩,(by as_aux_lemma => kernel_rfl)⟩,(by as_aux_lemma => kernel_rfl)⟩,(by as_aux_lemma => kernel_rfl)⟩,(by as_aux_lemma => kernel_rfl)⟩,(by as_aux_lemma => kernel_rfl)⟩,(by as_aux_lemma => kernel_rfl)⟩,(by as_aux_lemma => kernel_rfl)⟩,(by as_aux_lemma => kernel_rfl)⟩,(by as_aux_lemma => kernel_rfl)⟩,(by as_aux_lemma => kernel_rfl)⟩,(by as_aux_lemma => kernel_rfl)⟩,(by as_aux_lemma => kernel_rfl)⟩,(by as_aux_lemma => kernel_rfl)⟩,(by as_aux_lemma => kernel_rfl)⟩,(by as_aux_lemma => kernel_rfl)⟩,(by as_aux_lemma => kernel_rfl)⟩,(by as_aux_lemma => kernel_rfl)⟩,(by as_aux_lemma => kernel_rfl)⟩,(by as_aux_lemma => kernel_rfl)⟩,(by as_aux_lemma => kernel_rfl)⟩,(by as_aux_lemma => kernel_rfl)⟩,(by as_aux_lemma => kernel_rfl)⟩,J9⟩,k24b⟩,k24c⟩,(by as_aux_lemma => kernel_rfl)⟩,(by as_aux_lemma => kernel_rfl)⟩,(by as_aux_lemma => kernel_rfl)⟩,(by as_aux_lemma => kernel_rfl)⟩
theorem over : Rows.fnTrueUndoRow.holds Tryz.pinned (OpenSpec.ofChange Rows.fnTrueUndoSpec):=
 OpenClaim.holds_of_wide 8 Tryz.f8 rfl rfl rfl rfl rfl rfl rfl ⟨rfl,rfl,rfl,rfl,rfl⟩ rfl rfl rfl rfl rfl (by kernel_rfl) Tryz.func8 closed
  (of_decide_eq_true (by kernel_rfl)) (by unfold Func.isWrapper;first | (rw [if_pos (by decide +kernel)];kernel_rfl) | (rw [if_neg (by decide +kernel)];exact ⟨rfl,rfl⟩))
  (fun os started H enc _ => lifted os started H enc)
theorem proved : Rows.FnTrueUndoSaid:=over
end Go.Proofs.YtofgeajaajfiaaaGreat.fnTrueUndo
namespace Go.Proofs.YtofgeajaajfiaaaGreat
theorem fnTrueUndo_holds : Rows.FnTrueUndoSaid:=fnTrueUndo.proved
end Go.Proofs.YtofgeajaajfiaaaGreat
