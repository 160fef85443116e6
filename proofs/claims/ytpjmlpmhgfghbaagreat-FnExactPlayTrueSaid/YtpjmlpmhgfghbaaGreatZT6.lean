/- A part of the proof: what the last text of the claim says leans on this one. -/
import Derived.Test.YtpjmlpmhgfghbaaGreatZT5
set_option linter.unusedVariables false
set_option linter.unusedSimpArgs false
/- The program's RiseUp. -/
namespace Go.Proofs.YtpjmlpmhgfghbaaGreat
open Go.RowKit Go.Proofs.YtpjmlpmhgfghbaaGreatW.PrintWords Go.Proofs.YtpjmlpmhgfghbaaGreatW.PrintLast Go.Proofs.YtpjmlpmhgfghbaaGreatW.PrintMore
/-- Its pages in memory are others now. -/
theorem IC {w w1 : World} {b : Nat} {vd vm vl v : Value} {e : Eng} {qs : List Page} (h : AU w b vd vm vl e) (hb : Below w.heap.size w w1) (hv : E9 w1 w.heap.size v qs) (hle : b ≤ w.heap.size) : AU w1 b vd v vl { e with mem:=qs }:=by
  obtain ⟨⟨okd,okm, -,h2, -⟩,h4⟩:=h
  exact ⟨⟨fun k => okd k ∧ k < w.heap.size,fun k => w.heap.size ≤ k,fun k h1 h2 => by omega,Kd.DC h2 hb,Kd.EQ (Kd.DN (Kd.Fv hv) (fun k hk => hk.2.1)) hle⟩,Kd.CG h4 hb⟩
theorem AU.reads' {w : World} {b : Nat} {A B C : Option Addr} {n m l a b' c : Nat} {e : Eng} (h : AU w b (.slice A n a) (.slice B m b') (.slice C l c) e) : DY w e A B C:=by
  obtain ⟨A',a',B',b2,C',c',h1,h2,h3, -,hc⟩:=h.reads
  injection h1 with h1
  injection h2 with h2
  injection h3 with h3
  subst h1 h2 h3
  exact hc
theorem Uu {x : Eng} (h : AO x = 0) : Cf x.log 3 = []:=by
  obtain ⟨h1,h2,h3⟩:=MQ h
  rw [Hf,if_pos h1,if_pos h2,if_pos h3]
  rfl
theorem Ut {x : Eng} (h : AO x ≠ 0) : ∃ l,Cf x.log 3 = AO x :: l:=by
  rw [Hf]
  by_cases h1 : lastT x 1 = 0
  · by_cases h2 : lastT x 2 = 0
    · by_cases h3 : lastT x 3 = 0
      · exact absurd (show AO x = 0 by unfold AO;rw [if_neg (by simpa using h1),if_neg (by simpa using h2),if_neg (by simpa using h3)]) h
      · have hf : AO x = 3:=by unfold AO;rw [if_neg (by simpa using h1),if_neg (by simpa using h2),if_pos h3]
        exact ⟨[],by rw [if_pos h1,if_pos h2,if_neg h3,hf];rfl⟩
    · have hf : AO x = 2:=by unfold AO;rw [if_neg (by simpa using h1),if_pos h2]
      exact ⟨_,by rw [if_pos h1,if_neg h2,hf];rfl⟩
  · have hf : AO x = 1:=by unfold AO;rw [if_pos h1]
    exact ⟨_,by rw [if_neg h1,hf];rfl⟩
theorem NC {x : Eng} (h : AO x = 0) : ∀ k,CW k x = x
  | 0 => rfl
  | k + 1 => by rw [CW,if_pos h]
theorem Jp : ∀ (k : Nat) (x : Eng),(CW k x).disk = x.disk ∧ (CW k x).safe = x.safe ∧ (CW k x).down = x.down
  | 0,x => ⟨rfl,rfl,rfl⟩
  | k + 1,x => by
    rw [CW]
    split
    · exact ⟨rfl,rfl,rfl⟩
    · exact Jp k (Bg x (AO x))
def ES (e : Eng) : Eng:={ e with mem:=Ck e.disk e.log e.log.length }
def upE (x : Eng) : Eng:=if AO x = 0 then { x with down:=false } else { x with mem:=x.disk }
def upR (e : Eng) (steps : Int) : Eng × Bool:=if eOk e = true ∧ 0 ≤ steps then (if e.down = true then (upE (CW steps.toNat (ES e)),decide (AO (CW steps.toNat (ES e)) = 0)) else (e,false)) else (zE,false)
theorem Qr (e : Eng) (n : Nat) : Tg e n = upE (CW n (ES e)):=rfl
theorem EY.room' {x : Eng} (h : EY x) : x.log.length + Bp x.log x.log.length ≤ 150:=PY.room h
theorem EY.all : ∀ (k : Nat) (x : Eng),EY x → EY (CW k x)
  | 0,x,h => h
  | k + 1,x,h => by
    rw [CW]
    split
    · exact h
    · rename_i h0
      exact EY.all k _ (h.step h0).2.1
set_option maxRecDepth 100000 in
set_option maxHeartbeats 6000000 in
theorem Q7 {w0 w : World} {e : Eng} {Ad Am Al : Option Addr} {cd cm cl : Nat} (steps : Int) (hcl : e.log.length ≤ cl) (hb : Below w0.heap.size w0 w) (hr : DY w0 e Ad Am Al) : Calls Tryz.prog 15 #[e.val Ad Am Al cd cm cl, .int .i64 steps] w (CZ w (upR e steps).1 (upR e steps).2):=by
  have HR:=As (hr.up hb)
  clear hr hb
  obtain ⟨w1,hw1⟩ : ∃ w1,w.alloc (e.obox (.slice Ad e.disk.length cd) (.slice Am e.mem.length cm) (.slice Al e.log.length cl)) = w1:=⟨_,rfl⟩
  obtain ⟨w2,hw2⟩ : ∃ w2,w1.alloc (zE.obox (.slice none 0 0) (.slice none 0 0) (.slice none 0 0)) = w2:=⟨_,rfl⟩
  have hz1 : w1.heap.size = w.heap.size + 1:=by rw [← hw1];exact BF _ _
  have hz2 : w2.heap.size = w.heap.size + 2:=by rw [← hw2,BF,hz1]
  have hb12 : Below w1.heap.size w1 w2:=by rw [← hw2];exact Ah (Below.refl _ _) _
  have HB2 : Ac (Below w.heap.size w w2):=⟨by rw [← hw2, ← hw1];exact Ah (Ah (Below.refl _ _) _) _⟩
  have HQ2 : Ac (Ai w2 w.heap.size e (.slice Ad e.disk.length cd) (.slice Am e.mem.length cm) (.slice Al e.log.length cl)):=⟨Ai.up (by rw [← hw1];exact Ai.mk1 _ _ _ _ _) hb12⟩
  have HP2 : Ac (Ai w2 (w.heap.size + 1) zE (.slice none 0 0) (.slice none 0 0) (.slice none 0 0)):=⟨by rw [← hw2, ← hz1];exact Ai.mk1 _ _ _ _ _⟩
  have HW2 : Ac ((w.alloc (e.obox (.slice Ad e.disk.length cd) (.slice Am e.mem.length cm) (.slice Al e.log.length cl))).alloc (zE.obox (.slice none 0 0) (.slice none 0 0) (.slice none 0 0)) = w2):=⟨by rw [hw1,hw2]⟩
  have HZ2:=As hz2
  clear hw1 hw2 hz1 hz2 hb12
  have x0:=HQ2.out.c0
  have x1:=HQ2.out.c1
  have x2:=HQ2.out.c2
  have x3:=HQ2.out.c3
  have x4:=HQ2.out.c4
  cases hv : eOk e
  · have HV:=As hv
    have hE : upR e steps = (zE,false):=by rw [upR,if_neg (by rw [hv];simp)]
    rw [hE]
    clear hv hE
    go_enter Tryz.func15,Tryz.ntmps15
    go_wp2_with (go_at_call 36;rw [show (w.alloc (Obj.cells #[Value.slice Ad e.disk.length cd,Value.slice Am e.mem.length cm,Value.slice Al e.log.length cl,Value.int IntKind.i64 e.safe,Value.bool e.down] 28)).alloc (Obj.cells #[Value.slice none 0 0,Value.slice none 0 0,Value.slice none 0 0,Value.int IntKind.i64 0,Value.bool false] 28) = w2 from HW2.out];refine (AJ (cd:=cd) (cm:=cm) HV.out hcl HB2.out HR.out).mono ?_;rintro x w3 ⟨rfl,hb3⟩;have HB3:=As (bj HB2.out hb3);have HP3:=As (HP2.out.up hb3);have y0:=HP3.out.c0;have y1:=HP3.out.c1;have y2:=HP3.out.c2;have y3:=HP3.out.c3;have y4:=HP3.out.c4;have f0:=HP3.out.frz 0;have f1:=HP3.out.frz 1;have f2:=HP3.out.frz 2;have f3:=HP3.out.frz 3;have f4:=HP3.out.frz 4;clear hb3)
    obtain ⟨z0,z1,z2,z3,z4⟩:=HP3.out.empty
    exact bodyPost_ret (v:=.tuple #[zEv, .bool false]) (by simp [results,Tryz.results15,go_sem,z0,z1,z2,z3,z4]) rfl ⟨_,_,_,rfl,Jt _ _,Ao (g:=w.heap.size + 1) HB3.out (by omega) zE _ _ _⟩
  · have HV:=As hv
    have HF:=As (Fe.1 hv)
    clear hv
    rcases lts steps 0 with ⟨e1,b1,c1⟩ | ⟨e1,b1,c1⟩
    · have hE : upR e steps = (zE,false):=by rw [upR,if_neg (by have:=e1.out;omega)]
      rw [hE]
      clear hE
      have hl0:=e1.out
      go_enter Tryz.func15,Tryz.ntmps15
      go_wp2_with (go_at_call 36;rw [show (w.alloc (Obj.cells #[Value.slice Ad e.disk.length cd,Value.slice Am e.mem.length cm,Value.slice Al e.log.length cl,Value.int IntKind.i64 e.safe,Value.bool e.down] 28)).alloc (Obj.cells #[Value.slice none 0 0,Value.slice none 0 0,Value.slice none 0 0,Value.int IntKind.i64 0,Value.bool false] 28) = w2 from HW2.out];refine (AJ (cd:=cd) (cm:=cm) HV.out hcl HB2.out HR.out).mono ?_;rintro x w3 ⟨rfl,hb3⟩;have HB3:=As (bj HB2.out hb3);have HP3:=As (HP2.out.up hb3);have y0:=HP3.out.c0;have y1:=HP3.out.c1;have y2:=HP3.out.c2;have y3:=HP3.out.c3;have y4:=HP3.out.c4;have f0:=HP3.out.frz 0;have f1:=HP3.out.frz 1;have f2:=HP3.out.frz 2;have f3:=HP3.out.frz 3;have f4:=HP3.out.frz 4;clear hb3)
      obtain ⟨z0,z1,z2,z3,z4⟩:=HP3.out.empty
      exact bodyPost_ret (v:=.tuple #[zEv, .bool false]) (by simp [results,Tryz.results15,go_sem,z0,z1,z2,z3,z4]) rfl ⟨_,_,_,rfl,Jt _ _,Ao (g:=w.heap.size + 1) HB3.out (by omega) zE _ _ _⟩
    · obtain ⟨n,hn⟩ : ∃ n : Nat,steps = (n : Int):=⟨steps.toNat,by have:=e1.out;omega⟩
      subst hn
      have HLG:=As (Be HF.out.log)
      have hn0 : (0 : Int) ≤ (n : Int):=by omega
      cases hdn : e.down
      · have hE : upR e (n : Int) = (e,false):=by rw [upR,if_pos ⟨HV.out,e1.out⟩,if_neg (by rw [hdn];simp)]
        rw [hE]
        have HDN:=As hdn
        clear hE hdn
        go_enter Tryz.func15,Tryz.ntmps15
        go_wp2_with (first
          | (go_at_call 36;rw [show (w.alloc (Obj.cells #[Value.slice Ad e.disk.length cd,Value.slice Am e.mem.length cm,Value.slice Al e.log.length cl,Value.int IntKind.i64 e.safe,Value.bool e.down] 28)).alloc (Obj.cells #[Value.slice none 0 0,Value.slice none 0 0,Value.slice none 0 0,Value.int IntKind.i64 0,Value.bool false] 28) = w2 from HW2.out];refine (AJ (cd:=cd) (cm:=cm) HV.out hcl HB2.out HR.out).mono ?_;rintro x w3 ⟨rfl,hb3⟩;have HX3:=As hb3;replace x0:=bc hb3 x0;replace x1:=bc hb3 x1;replace x2:=bc hb3 x2;replace x3:=bc hb3 x3;replace x4:=bc hb3 x4;clear hb3)
          | (go_at_call 38;refine (AQ (cd:=cd) (cm:=cm) (cl:=cl) (Aw HF.out.disk) (Aw HF.out.mem) HLG.out (bj HB2.out HX3.out) HR.out).mono ?_;rintro x w4 ⟨vd,vm,vl,rfl,ho,hb4⟩;obtain ⟨Bd,dd,Bm,dm,Bl,dl,rfl,rfl,rfl, -, -⟩:=ho.reads;have HO4:=As ho;have HX4:=As (bj HX3.out hb4);have HN4:=As (Nat.le_trans HX3.out.size (Nat.le_refl _));clear ho hb4 x0 x1 x2 x3 x4)
          | (refine Ay (vd:=.slice Bd e.disk.length dd) (vm:=.slice Bm e.mem.length dm) (vl:=.slice Bl e.log.length dl) e ?_;intro w5 hb5 _ hq5;have HO5:=As (HO4.out.below hb5);have HX5:=As (bj HX4.out hb5);have x0:=hq5.c0;have x1:=hq5.c1;have x2:=hq5.c2;have x3:=hq5.c3;have x4:=hq5.c4;rw [HDN.out] at x4;have HP5:=As (HP2.out.up HX5.out);have y0:=HP5.out.c0;have y1:=HP5.out.c1;have y2:=HP5.out.c2;have y3:=HP5.out.c3;have y4:=HP5.out.c4;have f0:=HP5.out.frz 0;have f1:=HP5.out.frz 1;have f2:=HP5.out.frz 2;have f3:=HP5.out.frz 3;have f4:=HP5.out.frz 4;clear hb5 hq5))
        have hz:=HZ2.out
        have hn3:=HX3.out.size
        have hy:=HP5.out.Az ⟨e.disk,e.mem,e.log,e.safe,false⟩ (.slice Bd e.disk.length dd) (.slice Bm e.mem.length dm) (.slice Bl e.log.length dl)
        have h1:=HO5.out.Az (f:=⟨e.disk,e.mem,e.log,e.safe,false⟩) (xd:=.slice Bd e.disk.length dd) (xm:=.slice Bm e.mem.length dm) (xl:=.slice Bl e.log.length dl) HP5.out
        have h2:=Ao (g:=w.heap.size + 1) (bj HB2.out HX5.out) (by omega) ⟨e.disk,e.mem,e.log,e.safe,false⟩ (.slice Bd e.disk.length dd) (.slice Bm e.mem.length dm) (.slice Bl e.log.length dl)
        have z0:=hy.c0
        have z1:=hy.c1
        have z2:=hy.c2
        have z3:=hy.c3
        have z4:=hy.c4
        simp only at z0 z1 z2 z3 z4
        exact bodyPost_ret (v:=.tuple #[.agg #[.slice Bd e.disk.length dd, .slice Bm e.mem.length dm, .slice Bl e.log.length dl, .int .i64 e.safe, .bool false], .bool false]) (by simp [results,Tryz.results15,go_sem,z0,z1,z2,z3,z4]) rfl ⟨.slice Bd e.disk.length dd, .slice Bm e.mem.length dm, .slice Bl e.log.length dl,by unfold Eng.ag;rw [HDN.out],h1.lower (by omega),h2⟩
      · obtain ⟨X,hX⟩ : ∃ X,CW n (ES e) = X:=⟨_,rfl⟩
        have hE : upR e (n : Int) = (upE X,decide (AO X = 0)):=by rw [upR,if_pos ⟨HV.out,e1.out⟩,if_pos hdn,Int.toNat_natCast,hX]
        rw [hE]
        obtain ⟨R,hR⟩ : ∃ R,Ck e.disk e.log e.log.length = R:=⟨_,rfl⟩
        have HRR:=As hR
        have hst : ES e = { e with mem:=R }:=by rw [ES,hR]
        have hro : EY { e with mem:=R }:=by rw [← hst];exact HF.out.rise
        have HRO:=As hro
        have HRX:=As (show CW n { e with mem:=R } = X by rw [← hst];exact hX)
        have HDN:=As hdn
        have HGD:=As (Aw HF.out.disk)
        clear hE hdn hX hR hst hro
        go_enter Tryz.func15,Tryz.ntmps15
        go_wp2_with (first
          | (go_at_call 36;rw [show (w.alloc (Obj.cells #[Value.slice Ad e.disk.length cd,Value.slice Am e.mem.length cm,Value.slice Al e.log.length cl,Value.int IntKind.i64 e.safe,Value.bool e.down] 28)).alloc (Obj.cells #[Value.slice none 0 0,Value.slice none 0 0,Value.slice none 0 0,Value.int IntKind.i64 0,Value.bool false] 28) = w2 from HW2.out];refine (AJ (cd:=cd) (cm:=cm) HV.out hcl HB2.out HR.out).mono ?_;rintro x w3 ⟨rfl,hb3⟩;have HX3:=As hb3;replace x0:=bc hb3 x0;replace x1:=bc hb3 x1;replace x2:=bc hb3 x2;replace x3:=bc hb3 x3;replace x4:=bc hb3 x4;clear hb3)
          | (go_at_call 38;refine (AQ (cd:=cd) (cm:=cm) (cl:=cl) (Aw HF.out.disk) (Aw HF.out.mem) HLG.out (bj HB2.out HX3.out) HR.out).mono ?_;rintro x w4 ⟨vd,vm,vl,rfl,ho,hb4⟩;obtain ⟨Bd,dd,Bm,dm,Bl,dl,rfl,rfl,rfl, -,hc⟩:=ho.reads;have HO4:=As ho;have HX4:=As (bj HX3.out hb4);have HN4:=As (Nat.le_trans HX3.out.size (Nat.le_refl _));have HC4:=As hc;have HN34:=As hb4.size;have HX43:=As hb4;clear ho hb4 hc x0 x1 x2 x3 x4)
          | (refine Ay (vd:=.slice Bd e.disk.length dd) (vm:=.slice Bm e.mem.length dm) (vl:=.slice Bl e.log.length dl) e ?_;intro w5 hb5 hz5 hq5;have HO5:=As (HO4.out.below hb5);have HX5:=As (bj HX4.out hb5);have HC5:=As (HC4.out.up hb5);have HQ5:=As hq5;have x0:=hq5.c0;have x1:=hq5.c1;have x2:=hq5.c2;have x3:=hq5.c3;have x4:=hq5.c4;rw [HDN.out] at x4;have HB35:=As (bj HX43.out hb5);clear hb5 hq5)
          | (go_at_call 46;refine (KC (w0:=w5) (c:=dd) (d:=dl) HGD.out (fun k hk => (AA HF.out.log hk).ok) HLG.out (Below.refl _ _) HC5.out.d HC5.out.l).mono ?_;rw [HRR.out];rintro x w6 ⟨v,rfl,ho,hb6⟩;obtain ⟨Bn,dn,rfl, -, -⟩:=Kd.Cn ho;have HO6:=As (IC HO5.out hb6 ho HB35.out.size);have hq6:=HQ5.out.up hb6;have HQ6:=As hq6;have HB36:=As (bj HB35.out hb6);have g1:=hq6.frz 1;have x1':=hq6.c1;have x2':=hq6.c2;clear ho hb6 hq6 x0 x1 x2 x3 x4)
          | (go_at_call 47;obtain ⟨w7,hw7⟩ : ∃ w7,w6.setCell ⟨w4.heap.size,1,none⟩ (.slice Bn R.length dn) = w7:=⟨_,rfl⟩;have hq7 : Ai w7 w4.heap.size { e with mem:=R } (.slice Bd e.disk.length dd) (.slice Bn R.length dn) (.slice Bl e.log.length dl):=(by rw [← hw7];exact HQ6.out.set1 _);have ho7 : AU w7 w3.heap.size (.slice Bd e.disk.length dd) (.slice Bn R.length dn) (.slice Bl e.log.length dl) { e with mem:=R }:=(by rw [← hw7];exact HO6.out.Gc HQ6.out 1 _);have hb7 : Below w3.heap.size w3 w7:=(by rw [← hw7];exact HB36.out.setCell (p:=⟨w4.heap.size,1,none⟩) HN34.out _);have hc7:=ho7.reads';rw [hw7];refine (FN (w0:=w7) (c:=dl) (Below.refl _ _) hc7.l).mono ?_;rintro x w8 ⟨v,rfl,ho,hb8⟩;obtain ⟨Av,cv,rfl, -,hvc⟩:=ho.reads;have HEG0:=As (BZ.up ⟨⟨_,_,_,hq7,ho7⟩,hb7,HN34.out⟩ hb8);have HVC:=As hvc;clear hw7 hq7 ho7 hb7 hc7 ho hb8 hvc x1' x2' g1))
        have HX4G : Ac (w3.heap.size ≤ w4.heap.size):=HN34
        have hroom:=HRO.out.room'
        go_loopw [7,8] (fun l i wr => ∃ (k : Nat) (x : Eng) (A : Option Addr) (c : Nat),k ≤ n ∧ l = .slice A (Cf x.log 3).length c ∧ i = .int .i64 (k : Int) ∧ Ac (Kd.C (Kd.int .i64) wr A (Cf x.log 3).length (Cf x.log 3)) ∧ Ac (BZ w3 wr w4.heap.size x) ∧ Ac (EY x ∧ CW (n - k) x = X) ∧ k + Bp x.log x.log.length ≤ 150) (fun _ i _ => (n - intOf i).toNat)
        case atStart => exact ⟨0,{ e with mem:=R },Av,cv,Nat.zero_le _,rfl,rfl,HVC,HEG0,⟨HRO.out,HRX.out⟩,by show 0 + Bp e.log e.log.length ≤ 150;have : e.log.length + Bp e.log e.log.length ≤ 150:=hroom;omega⟩
        case round =>
          obtain ⟨k,x,A,c,hk,rfl,rfl,HVl,HEG,HRK,hkn⟩:=hrel
          by_cases h0 : AO x = 0
          · have hXx : X = x:=by rw [← HRK.out.2,NC h0]
            have hU1 : upE X = { x with down:=false }:=by rw [hXx,upE,if_pos h0]
            have hU2 : decide (AO X = 0) = true:=by rw [hXx];simp [h0]
            have hol : Cf x.log 3 = []:=Uu h0
            rw [hol]
            have HU:=As (And.intro hU1 hU2)
            clear hXx hol hU1 hU2 h0 hkn hroom
            by_cases hlt : k < n
            all_goals
              have hx2:=bj HX3.out HEG.out.bel
              obtain ⟨vd,vm,vl,hq,ho⟩:=HEG.out.ex
              obtain ⟨Ed,n1,Em,n2,El,n3,rfl,rfl,rfl, -, -⟩:=ho.reads
              have q0:=hq.c0
              have q1:=hq.c1
              have q2:=hq.c2
              have q3:=hq.c3
              have q4:=hq.c4
              have g4:=hq.frz 4
              have hp:=HP2.out.up hx2
              have y0:=hp.c0
              have y1:=hp.c1
              have y2:=hp.c2
              have y3:=hp.c3
              have y4:=hp.c4
              have f0:=hp.frz 0
              have f1:=hp.frz 1
              have f2:=hp.frz 2
              have f3:=hp.frz 3
              have f4:=hp.frz 4
              have HQ:=As hq
              have HO:=As ho
              have HP:=As hp
              have HX:=As hx2
              have HG:=As HEG.out.ge
              clear hq ho hp hx2
              have hne1 : ¬ w4.heap.size = w.heap.size + 1:=by have:=HZ2.out;have:=HX3.out.size;have:=HX4G.out;omega
              have hne2 : ¬ w.heap.size + 1 = w4.heap.size:=fun e => hne1 e.symm
              go_wp2
              have hz:=HZ2.out
              have hn3:=HX3.out.size
              have hge:=HG.out
              have hgl:=HX4G.out
              have r1:=HO.out.Gc HQ.out 4 (.bool false)
              have p1:=HP.out.far (b:=w4.heap.size) (by omega) 4 (.bool false)
              have b1:=(bj HB2.out HX.out).setCell (p:=⟨w4.heap.size,4,none⟩) (by show w.heap.size ≤ w4.heap.size;omega) (.bool false)
              have hy:=p1.Az { x with down:=false } (.slice Ed x.disk.length n1) (.slice Em x.mem.length n2) (.slice El x.log.length n3)
              have h1:=r1.Az (f:={ x with down:=false }) (xd:=.slice Ed x.disk.length n1) (xm:=.slice Em x.mem.length n2) (xl:=.slice El x.log.length n3) p1
              have h2:=Ao (g:=w.heap.size + 1) b1 (by omega) { x with down:=false } (.slice Ed x.disk.length n1) (.slice Em x.mem.length n2) (.slice El x.log.length n3)
              have z0:=hy.c0
              have z1:=hy.c1
              have z2:=hy.c2
              have z3:=hy.c3
              have z4:=hy.c4
              simp only at z0 z1 z2 z3 z4
              have hd1 : AU (Go.Proofs.YtpjmlpmhgfghbaaGreat.Az (wr.setCell ⟨w4.heap.size,4,none⟩ (.bool false)) (w.heap.size + 1) { x with down:=false } (.slice Ed x.disk.length n1) (.slice Em x.mem.length n2) (.slice El x.log.length n3)) w3.heap.size (.slice Ed x.disk.length n1) (.slice Em x.mem.length n2) (.slice El x.log.length n3) { x with down:=false }:=⟨h1.ex,h1.l⟩
              exact bodyPost_ret (v:=.tuple #[.agg #[.slice Ed x.disk.length n1, .slice Em x.mem.length n2, .slice El x.log.length n3, .int .i64 x.safe, .bool false], .bool true]) (by simp [results,Tryz.results15,go_sem,z0,z1,z2,z3,z4]) rfl ⟨.slice Ed x.disk.length n1, .slice Em x.mem.length n2, .slice El x.log.length n3,by rw [HU.out.1,HU.out.2],by rw [HU.out.1];exact hd1.lower (by omega),h2⟩
          · obtain ⟨rest,hopen⟩:=Ut h0
            have hlen : (Cf x.log 3).length = rest.length + 1:=by rw [hopen];rfl
            have hv0 : iv (Cf x.log 3) 0 = AO x:=by rw [hopen];rfl
            have HV0:=As hv0
            have HLN:=As hlen
            by_cases hlt : k < n
            · obtain ⟨hso,hro',hnd⟩:=HRK.out.1.step h0
              have hrk : CW (n - (k + 1)) (Bg x (AO x)) = X:=by
                have h:=HRK.out.2
                rw [show n - k = (n - (k + 1)) + 1 by omega,CW,if_neg h0] at h
                exact h
              obtain ⟨t,ht⟩ : ∃ t,AO x = t:=⟨_,rfl⟩
              rw [ht] at hso hro' hnd hrk hv0
              have HSO:=As hso
              have HNX:=As (And.intro hro' hrk)
              have HND:=As (show k + 1 + Bp (Bg x t).log (Bg x t).log.length ≤ 150 by omega)
              have hk150 : k ≤ 150:=by omega
              obtain ⟨ad,rfl,g0⟩:=Dg HVl.out 0 (by omega)
              rw [hv0] at g0
              have e0 : ad.add 0 = ad:=by simp [Addr.add]
              have g0' : wr.cell? ad = some (.int .i64 t):=by rw [← e0];exact g0
              have hwr : IntKind.i64.wrap ((k : Int) + 1) = (k : Int) + 1:=by simp (disch:=omega) only [IntWalk.i64_in]
              rw [hlen]
              clear hso hro' hnd hrk hv0 hopen h0 hkn hroom ht hlen HV0 HLN e0
              go_wp2_with (first
                | (go_at_call 48;refine (Nu HSO.out HEG.out).mono ?_;rintro x1 w9 ⟨⟨v1,rfl⟩,hg9⟩;have HG9:=As hg9;obtain ⟨ud,um,ul,hq9,ho9⟩:=hg9.ex;obtain ⟨Ud,u1,Um,u2,Ul,u3,rfl,rfl,rfl, -,hc9⟩:=ho9.reads;have x2':=hq9.c2;have HC9:=As hc9;clear hg9 hq9 ho9 hc9 g0 g0')
                | (go_at_call 47;refine (FN (w0:=w9) (c:=u3) (Below.refl _ _) HC9.out.l).mono ?_;rintro x1 w10 ⟨v2,rfl,ho,hb10⟩;obtain ⟨Av2,cv2,rfl, -,hvc⟩:=ho.reads;have HEG2:=As (HG9.out.up hb10);have HVC2:=As hvc;clear ho hb10 hvc x2'))
              go_roundw
              case rel => exact ⟨k + 1,Bg x t,Av2,cv2,by omega,rfl,by go_num,HVC2,HEG2,HNX,HND.out⟩
              case measure => simp [intOf];omega
            · have hkn' : k = n:=by omega
              have hXx : X = x:=by
                have h:=HRK.out.2
                rw [hkn',Nat.sub_self] at h
                exact h.symm
              have HU:=As (show upE X = { x with mem:=x.disk } ∧ decide (AO X = 0) = false from ⟨by rw [hXx,upE,if_neg h0],by rw [hXx];simp [h0]⟩)
              have HGX:=As (show geo x.disk from by
                have h1:=(Jp n { e with mem:=R }).1
                rw [HRX.out,hXx] at h1
                rw [h1]
                exact HGD.out)
              have hx2:=bj HX3.out HEG.out.bel
              obtain ⟨vd,vm,vl,hq,ho⟩:=HEG.out.ex
              obtain ⟨Ed,n1,Em,n2,El,n3,rfl,rfl,rfl, -,hc⟩:=ho.reads
              have q0:=hq.c0
              have HQ:=As hq
              have HO:=As ho
              have HC:=As hc
              have HEB:=As HEG.out.bel
              rw [hlen]
              clear hq ho hc hx2 hXx h0 hkn hroom hopen hv0 hlen HV0 HLN hkn'
              have hne1 : ¬ w4.heap.size = w.heap.size + 1:=by have:=HZ2.out;have:=HX3.out.size;have:=HX4G.out;omega
              have hne2 : ¬ w.heap.size + 1 = w4.heap.size:=fun e => hne1 e.symm
              go_wp2_with (go_at_call 49;refine (Ez (w0:=wr) (c:=n1) (Gr HGX.out) (by have:=HGX.out.1;omega) (Below.refl _ _) HC.out.d).mono ?_;rintro x1 w9 ⟨v1,rfl,ho9,hb9⟩;obtain ⟨Cd,k1,rfl, -, -⟩:=Kd.Cn ho9;have HO9:=As (IC HO.out hb9 ho9 HEB.out.size);have hq9:=HQ.out.up hb9;have HQ9:=As hq9;have HB9:=As (bj HEB.out hb9);have hp9:=HP2.out.up (bj HX3.out HB9.out);have HP9:=As hp9;have g1:=hq9.frz 1;have q0':=hq9.c0;have q1':=hq9.c1;have q2':=hq9.c2;have q3':=hq9.c3;have q4':=hq9.c4;have y0:=hp9.c0;have y1:=hp9.c1;have y2:=hp9.c2;have y3:=hp9.c3;have y4:=hp9.c4;have f0:=hp9.frz 0;have f1:=hp9.frz 1;have f2:=hp9.frz 2;have f3:=hp9.frz 3;have f4:=hp9.frz 4;clear ho9 hb9 hq9 hp9 q0)
              have hz:=HZ2.out
              have hn3:=HX3.out.size
              have hgl:=HX4G.out
              have r1:=HO9.out.Gc HQ9.out 1 (.slice Cd x.disk.length k1)
              have p1:=HP9.out.far (b:=w4.heap.size) (by omega) 1 (.slice Cd x.disk.length k1)
              have b1:=(bj HB2.out (bj HX3.out HB9.out)).setCell (p:=⟨w4.heap.size,1,none⟩) (by show w.heap.size ≤ w4.heap.size;omega) (.slice Cd x.disk.length k1)
              have hy:=p1.Az { x with mem:=x.disk } (.slice Ed x.disk.length n1) (.slice Cd x.disk.length k1) (.slice El x.log.length n3)
              have h1:=r1.Az (f:={ x with mem:=x.disk }) (xd:=.slice Ed x.disk.length n1) (xm:=.slice Cd x.disk.length k1) (xl:=.slice El x.log.length n3) p1
              have h2:=Ao (g:=w.heap.size + 1) b1 (by omega) { x with mem:=x.disk } (.slice Ed x.disk.length n1) (.slice Cd x.disk.length k1) (.slice El x.log.length n3)
              have z0:=hy.c0
              have z1:=hy.c1
              have z2:=hy.c2
              have z3:=hy.c3
              have z4:=hy.c4
              simp only at z0 z1 z2 z3 z4
              exact bodyPost_ret (v:=.tuple #[.agg #[.slice Ed x.disk.length n1, .slice Cd x.disk.length k1, .slice El x.log.length n3, .int .i64 x.safe, .bool x.down], .bool false]) (by simp [results,Tryz.results15,go_sem,z0,z1,z2,z3,z4]) rfl ⟨.slice Ed x.disk.length n1, .slice Cd x.disk.length k1, .slice El x.log.length n3,by rw [HU.out.1,HU.out.2],by rw [HU.out.1];exact h1.lower (by omega),h2⟩
abbrev Evt.val (v : Evt) (A : Option Addr) (c : Nat) : Value:=.agg #[.int .i64 v.kind, .int .i64 v.tx, .int .i64 v.page, .int .i64 v.slot, .int .i64 v.n, .slice A v.vals.length c]
def EvBox (w : World) (g : Nat) (v : Evt) (A : Option Addr) (c : Nat) : Prop:=w.heap[g]? = some (.cells #[.int .i64 v.kind, .int .i64 v.tx, .int .i64 v.page, .int .i64 v.slot, .int .i64 v.n, .slice A v.vals.length c] 35 (0,0))
section
variable {w w1 : World} {g c : Nat} {v : Evt} {A : Option Addr}
theorem EvBox.c0 (h : EvBox w g v A c) : w.cell? ⟨g,0,none⟩ = some (.int .i64 v.kind):=by unfold EvBox at h;simp [World.cell?,h]
theorem EvBox.c1 (h : EvBox w g v A c) : w.cell? ⟨g,1,none⟩ = some (.int .i64 v.tx):=by unfold EvBox at h;simp [World.cell?,h]
theorem EvBox.c2 (h : EvBox w g v A c) : w.cell? ⟨g,2,none⟩ = some (.int .i64 v.page):=by unfold EvBox at h;simp [World.cell?,h]
theorem EvBox.c3 (h : EvBox w g v A c) : w.cell? ⟨g,3,none⟩ = some (.int .i64 v.slot):=by unfold EvBox at h;simp [World.cell?,h]
theorem EvBox.c4 (h : EvBox w g v A c) : w.cell? ⟨g,4,none⟩ = some (.int .i64 v.n):=by unfold EvBox at h;simp [World.cell?,h]
theorem EvBox.c5 (h : EvBox w g v A c) : w.cell? ⟨g,5,none⟩ = some (.slice A v.vals.length c):=by unfold EvBox at h;simp [World.cell?,h]
theorem EvBox.lt (h : EvBox w g v A c) : g < w.heap.size:=(Array.getElem?_eq_some_iff.1 h).1
theorem EvBox.up (h : EvBox w g v A c) (hb : Below w.heap.size w w1) : EvBox w1 g v A c:=(hb.block g h.lt).trans h
end
theorem EvBox.mk1 (w : World) (v : Evt) (A : Option Addr) (c : Nat) : EvBox (w.alloc (.cells #[.int .i64 v.kind, .int .i64 v.tx, .int .i64 v.page, .int .i64 v.slot, .int .i64 v.n, .slice A v.vals.length c] 35)) w.heap.size v A c:=by
  show (w.heap.push _)[w.heap.size]? = _
  simp
theorem FE {P : Program} {ops : Array Oper} {l : List Oper} {Q : Exit → Act → World → Prop} {a : Act} {w : World} (v : Evt) {A : Option Addr} {c : Nat} (h : ∀ w1,Below w.heap.size w w1 → w1.heap.size = w.heap.size + 1 → EvBox w1 w.heap.size v A c → wpList P ops Q l a w1) : wpList P ops Q l a (w.alloc (.cells #[.int .i64 v.kind, .int .i64 v.tx, .int .i64 v.page, .int .i64 v.slot, .int .i64 v.n, .slice A v.vals.length c] 35)):=h _ ((Below.refl _ _).alloc (Nat.le_refl _) _) (BF _ _) (EvBox.mk1 _ _ _ _)
/-- The engine behind an event, and whether it happened. -/
def CY (e : Eng) (v : Evt) : Eng × Bool:=
  if v.kind = 1 then L6 e v.tx v.page v.slot v.n
  else if v.kind = 2 then Le e v.tx v.page v.n
  else if v.kind = 3 then GL e v.tx v.page v.vals
  else if v.kind = 4 then Cz e v.tx (DK e v.tx)
  else if v.kind = 5 then Cz e v.tx (DT e v.tx)
  else if v.kind = 6 then EN e v.page
  else if v.kind = 7 then FW e
  else if v.kind = 8 then GR e v.n
  else if v.kind = 9 then ((upR e v.n).1,(upR e v.n).2 || (e.down && decide (0 ≤ v.n)))
  else (zE,false)
set_option maxRecDepth 100000 in
set_option maxHeartbeats 32000000 in
theorem Rm {w0 w : World} {e : Eng} {C : Nat → Page} {B : Nat} {Ad Am Al A : Option Addr} {cd cm cl c : Nat} (v : Evt) (hi : Inv e C B) (hB : B + 3 ≤ 150) (hcl : e.log.length ≤ cl) (hb : Below w0.heap.size w0 w) (hr : DY w0 e Ad Am Al) (hv : Kd.C (Kd.int .i64) w0 A v.vals.length v.vals) : Calls Tryz.prog 37 #[e.val Ad Am Al cd cm cl,v.val A c] w (CZ w (CY e v).1 (CY e v).2):=by
  rcases BO v.kind 1 with ⟨e1,b1,c1⟩ | ⟨e1,b1,c1⟩
  rw [show CY e v = L6 e v.tx v.page v.slot v.n by rw [CY,if_pos e1.out]]
  obtain ⟨E,bb,hE⟩ : ∃ E bb,L6 e v.tx v.page v.slot v.n = (E,bb):=⟨_,_,rfl⟩
  have HIN : Ac (∀ wx,Below w.heap.size w wx → Calls Tryz.prog 82 #[e.val Ad Am Al cd cm cl, .int .i64 v.tx, .int .i64 v.page, .int .i64 v.slot, .int .i64 v.n] wx (CZ wx E bb)):=⟨fun wx hbx => by
    have h:=Nh (cd:=cd) (cm:=cm) v.tx v.page v.slot v.n hi hB hcl (bj hb hbx) hr
    rw [hE] at h
    exact h⟩
  rw [hE]
  clear hi hb hr hv hE hcl hB
  rotate_left
  rcases BO v.kind 2 with ⟨e2,b2,c2⟩ | ⟨e2,b2,c2⟩
  rw [show CY e v = Le e v.tx v.page v.n by rw [CY,if_neg e1.out,if_pos e2.out]]
  obtain ⟨E,bb,hE⟩ : ∃ E bb,Le e v.tx v.page v.n = (E,bb):=⟨_,_,rfl⟩
  have HIN : Ac (∀ wx,Below w.heap.size w wx → Calls Tryz.prog 83 #[e.val Ad Am Al cd cm cl, .int .i64 v.tx, .int .i64 v.page, .int .i64 v.n] wx (CZ wx E bb)):=⟨fun wx hbx => by
    have h:=Ni (cd:=cd) (cm:=cm) v.tx v.page v.n hi hB hcl (bj hb hbx) hr
    rw [hE] at h
    exact h⟩
  rw [hE]
  clear hi hb hr hv hE hcl hB
  rotate_left
  rcases BO v.kind 3 with ⟨e3,b3,c3⟩ | ⟨e3,b3,c3⟩
  rw [show CY e v = GL e v.tx v.page v.vals by rw [CY,if_neg e1.out,if_neg e2.out,if_pos e3.out]]
  obtain ⟨E,bb,hE⟩ : ∃ E bb,GL e v.tx v.page v.vals = (E,bb):=⟨_,_,rfl⟩
  have HIN : Ac (∀ wx,Below w.heap.size w wx → Calls Tryz.prog 84 #[e.val Ad Am Al cd cm cl, .int .i64 v.tx, .int .i64 v.page, .slice A v.vals.length c] wx (CZ wx E bb)):=⟨fun wx hbx => by
    have h:=Mq (cd:=cd) (cm:=cm) (cvals:=c) v.tx v.page v.vals hi hB hcl (bj hb hbx) hr hv
    rw [hE] at h
    exact h⟩
  rw [hE]
  clear hi hb hr hv hE hcl hB
  rotate_left
  rcases BO v.kind 4 with ⟨e4,b4,c4⟩ | ⟨e4,b4,c4⟩
  rw [show CY e v = Cz e v.tx (DK e v.tx) by rw [CY,if_neg e1.out,if_neg e2.out,if_neg e3.out,if_pos e4.out]]
  obtain ⟨E,bb,hE⟩ : ∃ E bb,Cz e v.tx (DK e v.tx) = (E,bb):=⟨_,_,rfl⟩
  have HIN : Ac (∀ wx,Below w.heap.size w wx → Calls Tryz.prog 85 #[e.val Ad Am Al cd cm cl, .int .i64 v.tx] wx (CZ wx E bb)):=⟨fun wx hbx => by
    have h:=OA (cd:=cd) (cm:=cm) v.tx hi hB hcl (bj hb hbx) hr
    rw [hE] at h
    exact h⟩
  rw [hE]
  clear hi hb hr hv hE hcl hB
  rotate_left
  rcases BO v.kind 5 with ⟨e5,b5,c5⟩ | ⟨e5,b5,c5⟩
  rw [show CY e v = Cz e v.tx (DT e v.tx) by rw [CY,if_neg e1.out,if_neg e2.out,if_neg e3.out,if_neg e4.out,if_pos e5.out]]
  obtain ⟨E,bb,hE⟩ : ∃ E bb,Cz e v.tx (DT e v.tx) = (E,bb):=⟨_,_,rfl⟩
  have HIN : Ac (∀ wx,Below w.heap.size w wx → Calls Tryz.prog 86 #[e.val Ad Am Al cd cm cl, .int .i64 v.tx] wx (CZ wx E bb)):=⟨fun wx hbx => by
    have h:=Oz (cd:=cd) (cm:=cm) v.tx hi hB hcl (bj hb hbx) hr
    rw [hE] at h
    exact h⟩
  rw [hE]
  clear hi hb hr hv hE hcl hB
  rotate_left
  rcases BO v.kind 6 with ⟨e6,b6,c6⟩ | ⟨e6,b6,c6⟩
  rw [show CY e v = EN e v.page by rw [CY,if_neg e1.out,if_neg e2.out,if_neg e3.out,if_neg e4.out,if_neg e5.out,if_pos e6.out]]
  obtain ⟨E,bb,hE⟩ : ∃ E bb,EN e v.page = (E,bb):=⟨_,_,rfl⟩
  have HIN : Ac (∀ wx,Below w.heap.size w wx → Calls Tryz.prog 87 #[e.val Ad Am Al cd cm cl, .int .i64 v.page] wx (CZ wx E bb)):=⟨fun wx hbx => by
    have h:=LK (cd:=cd) (cm:=cm) v.page hi.ok hcl (bj hb hbx) hr
    rw [hE] at h
    exact h⟩
  rw [hE]
  clear hi hb hr hv hE hcl hB
  rotate_left
  rcases BO v.kind 7 with ⟨e7,b7,c7⟩ | ⟨e7,b7,c7⟩
  rw [show CY e v = FW e by rw [CY,if_neg e1.out,if_neg e2.out,if_neg e3.out,if_neg e4.out,if_neg e5.out,if_neg e6.out,if_pos e7.out]]
  obtain ⟨E,bb,hE⟩ : ∃ E bb,FW e = (E,bb):=⟨_,_,rfl⟩
  have HIN : Ac (∀ wx,Below w.heap.size w wx → Calls Tryz.prog 88 #[e.val Ad Am Al cd cm cl] wx (CZ wx E bb)):=⟨fun wx hbx => by
    have h:=LM (cd:=cd) (cm:=cm) hi.ok hcl (bj hb hbx) hr
    rw [hE] at h
    exact h⟩
  rw [hE]
  clear hi hb hr hv hE hcl hB
  rotate_left
  rcases BO v.kind 8 with ⟨e8,b8,c8⟩ | ⟨e8,b8,c8⟩
  rw [show CY e v = GR e v.n by rw [CY,if_neg e1.out,if_neg e2.out,if_neg e3.out,if_neg e4.out,if_neg e5.out,if_neg e6.out,if_neg e7.out,if_pos e8.out]]
  obtain ⟨E,bb,hE⟩ : ∃ E bb,GR e v.n = (E,bb):=⟨_,_,rfl⟩
  have HIN : Ac (∀ wx,Below w.heap.size w wx → Calls Tryz.prog 89 #[e.val Ad Am Al cd cm cl, .int .i64 v.n] wx (CZ wx E bb)):=⟨fun wx hbx => by
    have h:=O5 (cd:=cd) (cm:=cm) v.n hcl (bj hb hbx) hr
    rw [hE] at h
    exact h⟩
  rw [hE]
  clear hi hb hr hv hE hcl hB
  rotate_left
  rcases BO v.kind 9 with ⟨e9,b9,c9⟩ | ⟨e9,b9,c9⟩
  · obtain ⟨E,r,hE⟩ : ∃ E r,upR e v.n = (E,r):=⟨_,_,rfl⟩
    rw [show CY e v = (E,r || (e.down && decide (0 ≤ v.n))) by rw [CY,if_neg e1.out,if_neg e2.out,if_neg e3.out,if_neg e4.out,if_neg e5.out,if_neg e6.out,if_neg e7.out,if_neg e8.out,if_pos e9.out,hE]]
    have HIN : Ac (∀ wx,Below w.heap.size w wx → Calls Tryz.prog 15 #[e.val Ad Am Al cd cm cl, .int .i64 v.n] wx (CZ wx E r)):=⟨fun wx hbx => by
      have h:=Q7 (cd:=cd) (cm:=cm) v.n hcl (bj hb hbx) hr
      rw [hE] at h
      exact h⟩
    clear hi hb hr hv hE hcl hB
    go_enter Tryz.func37,Tryz.ntmps37
    go_wp2_with (first
      | (with_reducible refine Ay (vd:=.slice Ad e.disk.length cd) (vm:=.slice Am e.mem.length cm) (vl:=.slice Al e.log.length cl) e ?_;intro w1 hb1 hz1 hq1;clear hz1;have HB:=As hb1;have HQ:=As hq1;clear hb1 hq1)
      | (with_reducible refine FE (A:=A) (c:=c) v ?_;intro w2 hb1 hz1 hq1;clear hz1;have HN1:=As HB.out.size;replace HB:=As (bj HB.out hb1);replace HQ:=As (HQ.out.up hb1);have HV:=As hq1;have HL1:=As hq1.lt;clear hb1 hq1)
      | (refine Ay (vd:=.slice none 0 0) (vm:=.slice none 0 0) (vl:=.slice none 0 0) zE ?_;intro w3 hb1 hz1 hq1;have HBG:=As HB.out.size;replace HB:=As (bj HB.out hb1);replace HQ:=As (HQ.out.up hb1);replace HV:=As (HV.out.up hb1);have HP:=As hq1;have HZ:=As hz1;have x0:=HQ.out.c0;have x1:=HQ.out.c1;have x2:=HQ.out.c2;have x3:=HQ.out.c3;have x4:=HQ.out.c4;have v0:=HV.out.c0;have v1:=HV.out.c1;have v2:=HV.out.c2;have v3:=HV.out.c3;have v4:=HV.out.c4;have v5:=HV.out.c5;have y0:=HP.out.c0;have y1:=HP.out.c1;have y2:=HP.out.c2;have y3:=HP.out.c3;have y4:=HP.out.c4;have f0:=HP.out.frz 0;have f1:=HP.out.frz 1;have f2:=HP.out.frz 2;have f3:=HP.out.frz 3;have f4:=HP.out.frz 4;clear hb1 hz1 hq1)
      | (go_at_call 15;refine (HIN.out w3 HB.out).mono ?_;rintro x w4 ⟨vd,vm,vl,rfl,ho,hb2⟩;obtain ⟨Ed,n1,Em,n2,El,n3,rfl,rfl,rfl, -, -⟩:=ho.reads;have HO:=As ho;have HX:=As hb2;clear x0 x1 x2 x3 x4 v0 v1 v2 v3 v4 v5 y0 y1 y2 y3 y4 f0 f1 f2 f3 f4;clear hb2 ho))
    obtain ⟨w5,hw5⟩ : ∃ w5,w4.alloc (Obj.cells #[.slice Ed E.disk.length n1, .slice Em E.mem.length n2, .slice El E.log.length n3, .int .i64 E.safe, .bool E.down] 28) = w5:=⟨_,rfl⟩
    rw [hw5]
    have hb5 : Below w4.heap.size w4 w5:=by rw [← hw5];exact Ah (Below.refl _ _) _
    have hq5 : Ai w5 w4.heap.size E (.slice Ed E.disk.length n1) (.slice Em E.mem.length n2) (.slice El E.log.length n3):=by rw [← hw5];exact Ai.mk1 _ _ _ _ _
    have HX5:=As (bj HX.out hb5)
    have HO5:=As (HO.out.below hb5)
    have HNB:=As hq5
    clear hw5 hb5 hq5
    have hs3:=HZ.out
    have hs4:=HX.out.size
    have hs2:=HL1.out
    have hv2:=HBG.out
    have HNE1 : Ac (¬ w4.heap.size = w2.heap.size):=⟨by omega⟩
    have HNE2 : Ac (¬ w1.heap.size = w2.heap.size):=⟨by omega⟩
    have HNE3 : Ac (¬ w.heap.size = w2.heap.size):=⟨by have:=HN1.out;omega⟩
    have hq5:=HQ.out.up HX5.out
    have hv5:=HV.out.up HX5.out
    have x4:=hq5.c4
    have v4:=hv5.c4
    have m0:=HNB.out.c0
    have m1:=HNB.out.c1
    have m2:=HNB.out.c2
    have m3:=HNB.out.c3
    have m4:=HNB.out.c4
    have HP5:=As (HP.out.up HX5.out)
    clear hq5 hv5 hs3 hs4 hs2 hv2
    cases r
    rotate_left
    · skip
      refine AX (fun lx a wx => Kept w5 wx (fun k => k = w2.heap.size) ∧ (Un 11 (fun wx => Below w5.heap.size w5 wx) lx a wx ∧ Ys 11 (fun wx => ∃ wy,Below w5.heap.size w5 wy ∧ wx = Go.Proofs.YtpjmlpmhgfghbaaGreat.Az wy w2.heap.size E (.slice Ed E.disk.length n1) (.slice Em E.mem.length n2) (.slice El E.log.length n3)) lx a wx)) 13 rfl (by kernel_rfl) (⟨Kept.drew (Kept.refl _ _),fun _ => Ak (Below.refl _ _),Gx⟩) (fun HT => ?_)
      refine Ae (i:=0) (v:=?_) HT rfl (by kernel_rfl) rfl (kA Aa (kA (Ag rfl) (Ap rfl))) (by rfl) (fun _ _ _ h => h) (fun lx ax wx hS => ?_) ?_;rotate_left;(have hkx:=hS.1;clear hS;replace x4:=Af x4 hkx HNE3.out;replace v4:=Af v4 hkx HNE2.out;replace m0:=Af m0 hkx HNE1.out;replace m1:=Af m1 hkx HNE1.out;replace m2:=Af m2 hkx HNE1.out;replace m3:=Af m3 hkx HNE1.out;replace m4:=Af m4 hkx HNE1.out;go_simp;with_reducible rfl);rotate_left;simp only [sc0,sc1]
      refine Ae (i:=1) (v:=?_) HT rfl (by kernel_rfl) rfl (kA Aa (kA (Ag rfl) (Ap rfl))) (by rfl) (fun _ _ _ h => h) (fun lx ax wx hS => ?_) ?_;rotate_left;(have hkx:=hS.1;clear hS;replace x4:=Af x4 hkx HNE3.out;replace v4:=Af v4 hkx HNE2.out;replace m0:=Af m0 hkx HNE1.out;replace m1:=Af m1 hkx HNE1.out;replace m2:=Af m2 hkx HNE1.out;replace m3:=Af m3 hkx HNE1.out;replace m4:=Af m4 hkx HNE1.out;go_simp;with_reducible rfl);rotate_left;simp only [sc0,sc1]
      refine Ae (i:=2) (v:=?_) HT rfl (by kernel_rfl) rfl (kA Aa (kA (Ag rfl) (Ap rfl))) (by rfl) (fun _ _ _ h => h) (fun lx ax wx hS => ?_) ?_;rotate_left;(have hkx:=hS.1;clear hS;replace x4:=Af x4 hkx HNE3.out;replace v4:=Af v4 hkx HNE2.out;replace m0:=Af m0 hkx HNE1.out;replace m1:=Af m1 hkx HNE1.out;replace m2:=Af m2 hkx HNE1.out;replace m3:=Af m3 hkx HNE1.out;replace m4:=Af m4 hkx HNE1.out;go_simp;with_reducible rfl);rotate_left;simp only [sc0,sc1]
      refine EI (i:=3) HT rfl (by kernel_rfl) rfl (kA Aa (kA (Ag rfl) (Ap rfl))) (by rfl) (fun _ _ _ h => h) ?_;simp only [sc0,sc1]
      refine EI (i:=4) HT rfl (by kernel_rfl) rfl (kA Aa (kA (Ag rfl) (Ap rfl))) (by rfl) (fun _ _ _ h => h) ?_;simp only [sc0,sc1]
      refine EI (i:=5) HT rfl (by kernel_rfl) rfl (kA Aa (kA (Ag rfl) (Ap rfl))) (by rfl) (fun _ _ _ h => h) ?_;simp only [sc0,sc1]
      refine EI (i:=6) HT rfl (by kernel_rfl) rfl (kA Aa (kA (Ag rfl) (Ap rfl))) (by rfl) (fun _ _ _ h => h) ?_;simp only [sc0,sc1]
      refine EI (i:=7) HT rfl (by kernel_rfl) rfl (kA Aa (kA (Ag rfl) (Ap rfl))) (by rfl) (fun _ _ _ h => h) ?_;simp only [sc0,sc1]
      refine EI (i:=8) HT rfl (by kernel_rfl) rfl (kA Aa (kA (Ag rfl) (Ap rfl))) (by rfl) (fun _ _ _ h => h) ?_;simp only [sc0,sc1]
      refine EI (i:=9) HT rfl (by kernel_rfl) rfl (kA Aa (kA (Ag rfl) (Ap rfl))) (by rfl) (fun _ _ _ h => h) ?_;simp only [sc0,sc1]
      refine Ae (i:=10) (v:=?_) HT rfl (by kernel_rfl) rfl (kA Aa (kA (Ag rfl) (Ap rfl))) (by rfl) (fun _ _ _ h => h) (fun lx ax wx hS => ?_) ?_;rotate_left;(have hkx:=hS.1;clear hS;replace x4:=Af x4 hkx HNE3.out;replace v4:=Af v4 hkx HNE2.out;replace m0:=Af m0 hkx HNE1.out;replace m1:=Af m1 hkx HNE1.out;replace m2:=Af m2 hkx HNE1.out;replace m3:=Af m3 hkx HNE1.out;replace m4:=Af m4 hkx HNE1.out;go_simp;with_reducible rfl);rotate_left;simp only [sc0,sc1]
      refine Ba [11] (by kernel_rfl) (fun i hi wx hS => ?_)
      obtain rfl:=List.mem_singleton.1 hi
      clear hi
      have hbx:=hS.2.1 (by kernel_rfl)
      have hp:=HP5.out.up hbx
      have y0:=hp.c0
      have y1:=hp.c1
      have y2:=hp.c2
      have y3:=hp.c3
      have y4:=hp.c4
      have f0:=hp.frz 0
      have f1:=hp.frz 1
      have f2:=hp.frz 2
      have f3:=hp.frz 3
      have f4:=hp.frz 4
      refine BJ (w1:=Go.Proofs.YtpjmlpmhgfghbaaGreat.Az wx w2.heap.size E (.slice Ed E.disk.length n1) (.slice Em E.mem.length n2) (.slice El E.log.length n3)) rfl (by rfl) (by go_simp) ?_
      refine ⟨⟨((((hS.1.setCell (p:=⟨w2.heap.size,0,none⟩) (.inl rfl) _).setCell (p:=⟨w2.heap.size,1,none⟩) (.inl rfl) _).setCell (p:=⟨w2.heap.size,2,none⟩) (.inl rfl) _).setCell (p:=⟨w2.heap.size,3,none⟩) (.inl rfl) _).setCell (p:=⟨w2.heap.size,4,none⟩) (.inl rfl) _,fun h => (AL (by kernel_rfl) h).elim,fun _ => ⟨wx,hbx,rfl⟩⟩,?_⟩
      clear hS hbx hp y0 y1 y2 y3 y4 f0 f1 f2 f3 f4
      refine Ae (i:=12) (v:=?_) HT rfl (by kernel_rfl) rfl (kA Aa (kA (Ag rfl) (Ap rfl))) (by rfl) (fun _ _ _ h => h) (fun lx ax wx hS => ?_) ?_;rotate_left;(go_simp;with_reducible rfl);rotate_left;simp only [sc0,sc1]
      refine DV (by kernel_rfl) (fun w8 hS => ?_)
      obtain ⟨wy,hby,rfl⟩:=hS.2.2 (by kernel_rfl)
      clear hS
      have HP2:=As (HP5.out.up hby)
      have HO2:=As (HO5.out.below hby)
      have HX2:=As (bj HX5.out hby)
      clear hby x4 v4
      go_wp2
      have hy:=HP2.out.Az E (.slice Ed E.disk.length n1) (.slice Em E.mem.length n2) (.slice El E.log.length n3)
      have h1:=HO2.out.Az (f:=E) (xd:=.slice Ed E.disk.length n1) (xm:=.slice Em E.mem.length n2) (xl:=.slice El E.log.length n3) HP2.out
      have hge:=HBG.out
      have hzz:=HZ.out
      have h2:=Ao (g:=w2.heap.size) (bj HB.out HX2.out) hge E (.slice Ed E.disk.length n1) (.slice Em E.mem.length n2) (.slice El E.log.length n3)
      have z0:=hy.c0
      have z1:=hy.c1
      have z2:=hy.c2
      have z3:=hy.c3
      have z4:=hy.c4
      exact bodyPost_ret (v:=.tuple #[E.ag (.slice Ed E.disk.length n1) (.slice Em E.mem.length n2) (.slice El E.log.length n3), .bool _]) (by simp [results,Tryz.results37,go_sem,z0,z1,z2,z3,z4];rfl) rfl ⟨_,_,_,by simp,h1.lower (by omega),h2⟩
    cases hdn : e.down
    all_goals rw [hdn] at x4
    · skip
      refine AX (fun lx a wx => Kept w5 wx (fun k => k = w2.heap.size) ∧ (Un 11 (fun wx => Below w5.heap.size w5 wx) lx a wx ∧ Ys 11 (fun wx => ∃ wy,Below w5.heap.size w5 wy ∧ wx = Go.Proofs.YtpjmlpmhgfghbaaGreat.Az wy w2.heap.size E (.slice Ed E.disk.length n1) (.slice Em E.mem.length n2) (.slice El E.log.length n3)) lx a wx)) 13 rfl (by kernel_rfl) (⟨Kept.drew (Kept.refl _ _),fun _ => Ak (Below.refl _ _),Gx⟩) (fun HT => ?_)
      refine Ae (i:=0) (v:=?_) HT rfl (by kernel_rfl) rfl (kA Aa (kA (Ag rfl) (Ap rfl))) (by rfl) (fun _ _ _ h => h) (fun lx ax wx hS => ?_) ?_;rotate_left;(have hkx:=hS.1;clear hS;replace x4:=Af x4 hkx HNE3.out;replace v4:=Af v4 hkx HNE2.out;replace m0:=Af m0 hkx HNE1.out;replace m1:=Af m1 hkx HNE1.out;replace m2:=Af m2 hkx HNE1.out;replace m3:=Af m3 hkx HNE1.out;replace m4:=Af m4 hkx HNE1.out;go_simp;with_reducible rfl);rotate_left;simp only [sc0,sc1]
      refine Ae (i:=1) (v:=?_) HT rfl (by kernel_rfl) rfl (kA Aa (kA (Ag rfl) (Ap rfl))) (by rfl) (fun _ _ _ h => h) (fun lx ax wx hS => ?_) ?_;rotate_left;(have hkx:=hS.1;clear hS;replace x4:=Af x4 hkx HNE3.out;replace v4:=Af v4 hkx HNE2.out;replace m0:=Af m0 hkx HNE1.out;replace m1:=Af m1 hkx HNE1.out;replace m2:=Af m2 hkx HNE1.out;replace m3:=Af m3 hkx HNE1.out;replace m4:=Af m4 hkx HNE1.out;go_simp;with_reducible rfl);rotate_left;simp only [sc0,sc1]
      refine Ae (i:=2) (v:=?_) HT rfl (by kernel_rfl) rfl (kA Aa (kA (Ag rfl) (Ap rfl))) (by rfl) (fun _ _ _ h => h) (fun lx ax wx hS => ?_) ?_;rotate_left;(have hkx:=hS.1;clear hS;replace x4:=Af x4 hkx HNE3.out;replace v4:=Af v4 hkx HNE2.out;replace m0:=Af m0 hkx HNE1.out;replace m1:=Af m1 hkx HNE1.out;replace m2:=Af m2 hkx HNE1.out;replace m3:=Af m3 hkx HNE1.out;replace m4:=Af m4 hkx HNE1.out;go_simp;with_reducible rfl);rotate_left;simp only [sc0,sc1]
      refine Ae (i:=3) (v:=?_) HT rfl (by kernel_rfl) rfl (kA Aa (kA (Ag rfl) (Ap rfl))) (by rfl) (fun _ _ _ h => h) (fun lx ax wx hS => ?_) ?_;rotate_left;(have hkx:=hS.1;clear hS;replace x4:=Af x4 hkx HNE3.out;replace v4:=Af v4 hkx HNE2.out;replace m0:=Af m0 hkx HNE1.out;replace m1:=Af m1 hkx HNE1.out;replace m2:=Af m2 hkx HNE1.out;replace m3:=Af m3 hkx HNE1.out;replace m4:=Af m4 hkx HNE1.out;go_simp;with_reducible rfl);rotate_left;simp only [sc0,sc1]
      refine Ae (i:=4) (v:=?_) HT rfl (by kernel_rfl) rfl (kA Aa (kA (Ag rfl) (Ap rfl))) (by rfl) (fun _ _ _ h => h) (fun lx ax wx hS => ?_) ?_;rotate_left;(have hkx:=hS.1;clear hS;replace x4:=Af x4 hkx HNE3.out;replace v4:=Af v4 hkx HNE2.out;replace m0:=Af m0 hkx HNE1.out;replace m1:=Af m1 hkx HNE1.out;replace m2:=Af m2 hkx HNE1.out;replace m3:=Af m3 hkx HNE1.out;replace m4:=Af m4 hkx HNE1.out;go_simp;with_reducible rfl);rotate_left;simp only [sc0,sc1]
      refine Ae (i:=5) (v:=?_) HT rfl (by kernel_rfl) rfl (kA Aa (kA (Ag rfl) (Ap rfl))) (by rfl) (fun _ _ _ h => h) (fun lx ax wx hS => ?_) ?_;rotate_left;(have hkx:=hS.1;clear hS;replace x4:=Af x4 hkx HNE3.out;replace v4:=Af v4 hkx HNE2.out;replace m0:=Af m0 hkx HNE1.out;replace m1:=Af m1 hkx HNE1.out;replace m2:=Af m2 hkx HNE1.out;replace m3:=Af m3 hkx HNE1.out;replace m4:=Af m4 hkx HNE1.out;go_simp;with_reducible rfl);rotate_left;simp only [sc0,sc1]
      refine EI (i:=6) HT rfl (by kernel_rfl) rfl (kA Aa (kA (Ag rfl) (Ap rfl))) (by rfl) (fun _ _ _ h => h) ?_;simp only [sc0,sc1]
      refine EI (i:=7) HT rfl (by kernel_rfl) rfl (kA Aa (kA (Ag rfl) (Ap rfl))) (by rfl) (fun _ _ _ h => h) ?_;simp only [sc0,sc1]
      refine EI (i:=8) HT rfl (by kernel_rfl) rfl (kA Aa (kA (Ag rfl) (Ap rfl))) (by rfl) (fun _ _ _ h => h) ?_;simp only [sc0,sc1]
      refine Ae (i:=9) (v:=?_) HT rfl (by kernel_rfl) rfl (kA Aa (kA (Ag rfl) (Ap rfl))) (by rfl) (fun _ _ _ h => h) (fun lx ax wx hS => ?_) ?_;rotate_left;(have hkx:=hS.1;clear hS;replace x4:=Af x4 hkx HNE3.out;replace v4:=Af v4 hkx HNE2.out;replace m0:=Af m0 hkx HNE1.out;replace m1:=Af m1 hkx HNE1.out;replace m2:=Af m2 hkx HNE1.out;replace m3:=Af m3 hkx HNE1.out;replace m4:=Af m4 hkx HNE1.out;go_simp;with_reducible rfl);rotate_left;simp only [sc0,sc1]
      refine Ae (i:=10) (v:=?_) HT rfl (by kernel_rfl) rfl (kA Aa (kA (Ag rfl) (Ap rfl))) (by rfl) (fun _ _ _ h => h) (fun lx ax wx hS => ?_) ?_;rotate_left;(have hkx:=hS.1;clear hS;replace x4:=Af x4 hkx HNE3.out;replace v4:=Af v4 hkx HNE2.out;replace m0:=Af m0 hkx HNE1.out;replace m1:=Af m1 hkx HNE1.out;replace m2:=Af m2 hkx HNE1.out;replace m3:=Af m3 hkx HNE1.out;replace m4:=Af m4 hkx HNE1.out;go_simp;with_reducible rfl);rotate_left;simp only [sc0,sc1]
      refine Ba [11] (by kernel_rfl) (fun i hi wx hS => ?_)
      obtain rfl:=List.mem_singleton.1 hi
      clear hi
      have hbx:=hS.2.1 (by kernel_rfl)
      have hp:=HP5.out.up hbx
      have y0:=hp.c0
      have y1:=hp.c1
      have y2:=hp.c2
      have y3:=hp.c3
      have y4:=hp.c4
      have f0:=hp.frz 0
      have f1:=hp.frz 1
      have f2:=hp.frz 2
      have f3:=hp.frz 3
      have f4:=hp.frz 4
      refine BJ (w1:=Go.Proofs.YtpjmlpmhgfghbaaGreat.Az wx w2.heap.size E (.slice Ed E.disk.length n1) (.slice Em E.mem.length n2) (.slice El E.log.length n3)) rfl (by rfl) (by go_simp) ?_
      refine ⟨⟨((((hS.1.setCell (p:=⟨w2.heap.size,0,none⟩) (.inl rfl) _).setCell (p:=⟨w2.heap.size,1,none⟩) (.inl rfl) _).setCell (p:=⟨w2.heap.size,2,none⟩) (.inl rfl) _).setCell (p:=⟨w2.heap.size,3,none⟩) (.inl rfl) _).setCell (p:=⟨w2.heap.size,4,none⟩) (.inl rfl) _,fun h => (AL (by kernel_rfl) h).elim,fun _ => ⟨wx,hbx,rfl⟩⟩,?_⟩
      clear hS hbx hp y0 y1 y2 y3 y4 f0 f1 f2 f3 f4
      refine Ae (i:=12) (v:=?_) HT rfl (by kernel_rfl) rfl (kA Aa (kA (Ag rfl) (Ap rfl))) (by rfl) (fun _ _ _ h => h) (fun lx ax wx hS => ?_) ?_;rotate_left;(go_simp;with_reducible rfl);rotate_left;simp only [sc0,sc1]
      refine DV (by kernel_rfl) (fun w8 hS => ?_)
      obtain ⟨wy,hby,rfl⟩:=hS.2.2 (by kernel_rfl)
      clear hS
      have HP2:=As (HP5.out.up hby)
      have HO2:=As (HO5.out.below hby)
      have HX2:=As (bj HX5.out hby)
      clear hby x4 v4
      go_wp2
      have hy:=HP2.out.Az E (.slice Ed E.disk.length n1) (.slice Em E.mem.length n2) (.slice El E.log.length n3)
      have h1:=HO2.out.Az (f:=E) (xd:=.slice Ed E.disk.length n1) (xm:=.slice Em E.mem.length n2) (xl:=.slice El E.log.length n3) HP2.out
      have hge:=HBG.out
      have hzz:=HZ.out
      have h2:=Ao (g:=w2.heap.size) (bj HB.out HX2.out) hge E (.slice Ed E.disk.length n1) (.slice Em E.mem.length n2) (.slice El E.log.length n3)
      have z0:=hy.c0
      have z1:=hy.c1
      have z2:=hy.c2
      have z3:=hy.c3
      have z4:=hy.c4
      exact bodyPost_ret (v:=.tuple #[E.ag (.slice Ed E.disk.length n1) (.slice Em E.mem.length n2) (.slice El E.log.length n3), .bool _]) (by simp [results,Tryz.results37,go_sem,z0,z1,z2,z3,z4];rfl) rfl ⟨_,_,_,by simp [hdn],h1.lower (by omega),h2⟩
    · skip
      refine AX (fun lx a wx => Kept w5 wx (fun k => k = w2.heap.size) ∧ (Un 11 (fun wx => Below w5.heap.size w5 wx) lx a wx ∧ Ys 11 (fun wx => ∃ wy,Below w5.heap.size w5 wy ∧ wx = Go.Proofs.YtpjmlpmhgfghbaaGreat.Az wy w2.heap.size E (.slice Ed E.disk.length n1) (.slice Em E.mem.length n2) (.slice El E.log.length n3)) lx a wx)) 13 rfl (by kernel_rfl) (⟨Kept.drew (Kept.refl _ _),fun _ => Ak (Below.refl _ _),Gx⟩) (fun HT => ?_)
      refine Ae (i:=0) (v:=?_) HT rfl (by kernel_rfl) rfl (kA Aa (kA (Ag rfl) (Ap rfl))) (by rfl) (fun _ _ _ h => h) (fun lx ax wx hS => ?_) ?_;rotate_left;(have hkx:=hS.1;clear hS;replace x4:=Af x4 hkx HNE3.out;replace v4:=Af v4 hkx HNE2.out;replace m0:=Af m0 hkx HNE1.out;replace m1:=Af m1 hkx HNE1.out;replace m2:=Af m2 hkx HNE1.out;replace m3:=Af m3 hkx HNE1.out;replace m4:=Af m4 hkx HNE1.out;go_simp;with_reducible rfl);rotate_left;simp only [sc0,sc1]
      refine Ae (i:=1) (v:=?_) HT rfl (by kernel_rfl) rfl (kA Aa (kA (Ag rfl) (Ap rfl))) (by rfl) (fun _ _ _ h => h) (fun lx ax wx hS => ?_) ?_;rotate_left;(have hkx:=hS.1;clear hS;replace x4:=Af x4 hkx HNE3.out;replace v4:=Af v4 hkx HNE2.out;replace m0:=Af m0 hkx HNE1.out;replace m1:=Af m1 hkx HNE1.out;replace m2:=Af m2 hkx HNE1.out;replace m3:=Af m3 hkx HNE1.out;replace m4:=Af m4 hkx HNE1.out;go_simp;with_reducible rfl);rotate_left;simp only [sc0,sc1]
      refine Ae (i:=2) (v:=?_) HT rfl (by kernel_rfl) rfl (kA Aa (kA (Ag rfl) (Ap rfl))) (by rfl) (fun _ _ _ h => h) (fun lx ax wx hS => ?_) ?_;rotate_left;(have hkx:=hS.1;clear hS;replace x4:=Af x4 hkx HNE3.out;replace v4:=Af v4 hkx HNE2.out;replace m0:=Af m0 hkx HNE1.out;replace m1:=Af m1 hkx HNE1.out;replace m2:=Af m2 hkx HNE1.out;replace m3:=Af m3 hkx HNE1.out;replace m4:=Af m4 hkx HNE1.out;go_simp;with_reducible rfl);rotate_left;simp only [sc0,sc1]
      refine Ae (i:=3) (v:=?_) HT rfl (by kernel_rfl) rfl (kA Aa (kA (Ag rfl) (Ap rfl))) (by rfl) (fun _ _ _ h => h) (fun lx ax wx hS => ?_) ?_;rotate_left;(have hkx:=hS.1;clear hS;replace x4:=Af x4 hkx HNE3.out;replace v4:=Af v4 hkx HNE2.out;replace m0:=Af m0 hkx HNE1.out;replace m1:=Af m1 hkx HNE1.out;replace m2:=Af m2 hkx HNE1.out;replace m3:=Af m3 hkx HNE1.out;replace m4:=Af m4 hkx HNE1.out;go_simp;with_reducible rfl);rotate_left;simp only [sc0,sc1]
      refine Ae (i:=4) (v:=?_) HT rfl (by kernel_rfl) rfl (kA Aa (kA (Ag rfl) (Ap rfl))) (by rfl) (fun _ _ _ h => h) (fun lx ax wx hS => ?_) ?_;rotate_left;(have hkx:=hS.1;clear hS;replace x4:=Af x4 hkx HNE3.out;replace v4:=Af v4 hkx HNE2.out;replace m0:=Af m0 hkx HNE1.out;replace m1:=Af m1 hkx HNE1.out;replace m2:=Af m2 hkx HNE1.out;replace m3:=Af m3 hkx HNE1.out;replace m4:=Af m4 hkx HNE1.out;go_simp;with_reducible rfl);rotate_left;simp only [sc0,sc1]
      refine Ae (i:=5) (v:=?_) HT rfl (by kernel_rfl) rfl (kA Aa (kA (Ag rfl) (Ap rfl))) (by rfl) (fun _ _ _ h => h) (fun lx ax wx hS => ?_) ?_;rotate_left;(have hkx:=hS.1;clear hS;replace x4:=Af x4 hkx HNE3.out;replace v4:=Af v4 hkx HNE2.out;replace m0:=Af m0 hkx HNE1.out;replace m1:=Af m1 hkx HNE1.out;replace m2:=Af m2 hkx HNE1.out;replace m3:=Af m3 hkx HNE1.out;replace m4:=Af m4 hkx HNE1.out;go_simp;with_reducible rfl);rotate_left;simp only [sc0,sc1]
      refine Ae (i:=6) (v:=?_) HT rfl (by kernel_rfl) rfl (kA Aa (kA (Ag rfl) (Ap rfl))) (by rfl) (fun _ _ _ h => h) (fun lx ax wx hS => ?_) ?_;rotate_left;(have hkx:=hS.1;clear hS;replace x4:=Af x4 hkx HNE3.out;replace v4:=Af v4 hkx HNE2.out;replace m0:=Af m0 hkx HNE1.out;replace m1:=Af m1 hkx HNE1.out;replace m2:=Af m2 hkx HNE1.out;replace m3:=Af m3 hkx HNE1.out;replace m4:=Af m4 hkx HNE1.out;go_simp;with_reducible rfl);rotate_left;simp only [sc0,sc1]
      refine Ae (i:=7) (v:=?_) HT rfl (by kernel_rfl) rfl (kA Aa (kA (Ag rfl) (Ap rfl))) (by rfl) (fun _ _ _ h => h) (fun lx ax wx hS => ?_) ?_;rotate_left;(have hkx:=hS.1;clear hS;replace x4:=Af x4 hkx HNE3.out;replace v4:=Af v4 hkx HNE2.out;replace m0:=Af m0 hkx HNE1.out;replace m1:=Af m1 hkx HNE1.out;replace m2:=Af m2 hkx HNE1.out;replace m3:=Af m3 hkx HNE1.out;replace m4:=Af m4 hkx HNE1.out;go_simp;with_reducible rfl);rotate_left;simp only [sc0,sc1]
      refine Ae (i:=8) (v:=?_) HT rfl (by kernel_rfl) rfl (kA Aa (kA (Ag rfl) (Ap rfl))) (by rfl) (fun _ _ _ h => h) (fun lx ax wx hS => ?_) ?_;rotate_left;(have hkx:=hS.1;clear hS;replace x4:=Af x4 hkx HNE3.out;replace v4:=Af v4 hkx HNE2.out;replace m0:=Af m0 hkx HNE1.out;replace m1:=Af m1 hkx HNE1.out;replace m2:=Af m2 hkx HNE1.out;replace m3:=Af m3 hkx HNE1.out;replace m4:=Af m4 hkx HNE1.out;go_simp;with_reducible rfl);rotate_left;simp only [sc0,sc1]
      refine Ae (i:=9) (v:=?_) HT rfl (by kernel_rfl) rfl (kA Aa (kA (Ag rfl) (Ap rfl))) (by rfl) (fun _ _ _ h => h) (fun lx ax wx hS => ?_) ?_;rotate_left;(have hkx:=hS.1;clear hS;replace x4:=Af x4 hkx HNE3.out;replace v4:=Af v4 hkx HNE2.out;replace m0:=Af m0 hkx HNE1.out;replace m1:=Af m1 hkx HNE1.out;replace m2:=Af m2 hkx HNE1.out;replace m3:=Af m3 hkx HNE1.out;replace m4:=Af m4 hkx HNE1.out;go_simp;with_reducible rfl);rotate_left;simp only [sc0,sc1]
      refine Ae (i:=10) (v:=?_) HT rfl (by kernel_rfl) rfl (kA Aa (kA (Ag rfl) (Ap rfl))) (by rfl) (fun _ _ _ h => h) (fun lx ax wx hS => ?_) ?_;rotate_left;(have hkx:=hS.1;clear hS;replace x4:=Af x4 hkx HNE3.out;replace v4:=Af v4 hkx HNE2.out;replace m0:=Af m0 hkx HNE1.out;replace m1:=Af m1 hkx HNE1.out;replace m2:=Af m2 hkx HNE1.out;replace m3:=Af m3 hkx HNE1.out;replace m4:=Af m4 hkx HNE1.out;go_simp;with_reducible rfl);rotate_left;simp only [sc0,sc1]
      refine Ba [11] (by kernel_rfl) (fun i hi wx hS => ?_)
      obtain rfl:=List.mem_singleton.1 hi
      clear hi
      have hbx:=hS.2.1 (by kernel_rfl)
      have hp:=HP5.out.up hbx
      have y0:=hp.c0
      have y1:=hp.c1
      have y2:=hp.c2
      have y3:=hp.c3
      have y4:=hp.c4
      have f0:=hp.frz 0
      have f1:=hp.frz 1
      have f2:=hp.frz 2
      have f3:=hp.frz 3
      have f4:=hp.frz 4
      refine BJ (w1:=Go.Proofs.YtpjmlpmhgfghbaaGreat.Az wx w2.heap.size E (.slice Ed E.disk.length n1) (.slice Em E.mem.length n2) (.slice El E.log.length n3)) rfl (by rfl) (by go_simp) ?_
      refine ⟨⟨((((hS.1.setCell (p:=⟨w2.heap.size,0,none⟩) (.inl rfl) _).setCell (p:=⟨w2.heap.size,1,none⟩) (.inl rfl) _).setCell (p:=⟨w2.heap.size,2,none⟩) (.inl rfl) _).setCell (p:=⟨w2.heap.size,3,none⟩) (.inl rfl) _).setCell (p:=⟨w2.heap.size,4,none⟩) (.inl rfl) _,fun h => (AL (by kernel_rfl) h).elim,fun _ => ⟨wx,hbx,rfl⟩⟩,?_⟩
      clear hS hbx hp y0 y1 y2 y3 y4 f0 f1 f2 f3 f4
      refine Ae (i:=12) (v:=?_) HT rfl (by kernel_rfl) rfl (kA Aa (kA (Ag rfl) (Ap rfl))) (by rfl) (fun _ _ _ h => h) (fun lx ax wx hS => ?_) ?_;rotate_left;(go_simp;with_reducible rfl);rotate_left;simp only [sc0,sc1]
      refine DV (by kernel_rfl) (fun w8 hS => ?_)
      obtain ⟨wy,hby,rfl⟩:=hS.2.2 (by kernel_rfl)
      clear hS
      have HP2:=As (HP5.out.up hby)
      have HO2:=As (HO5.out.below hby)
      have HX2:=As (bj HX5.out hby)
      clear hby x4 v4
      go_wp2
      have hy:=HP2.out.Az E (.slice Ed E.disk.length n1) (.slice Em E.mem.length n2) (.slice El E.log.length n3)
      have h1:=HO2.out.Az (f:=E) (xd:=.slice Ed E.disk.length n1) (xm:=.slice Em E.mem.length n2) (xl:=.slice El E.log.length n3) HP2.out
      have hge:=HBG.out
      have hzz:=HZ.out
      have h2:=Ao (g:=w2.heap.size) (bj HB.out HX2.out) hge E (.slice Ed E.disk.length n1) (.slice Em E.mem.length n2) (.slice El E.log.length n3)
      have z0:=hy.c0
      have z1:=hy.c1
      have z2:=hy.c2
      have z3:=hy.c3
      have z4:=hy.c4
      exact bodyPost_ret (v:=.tuple #[E.ag (.slice Ed E.disk.length n1) (.slice Em E.mem.length n2) (.slice El E.log.length n3), .bool _]) (by simp [results,Tryz.results37,go_sem,z0,z1,z2,z3,z4];rfl) rfl ⟨_,_,_,by simp [hdn],h1.lower (by omega),h2⟩
  · rw [show CY e v = (zE,false) by rw [CY,if_neg e1.out,if_neg e2.out,if_neg e3.out,if_neg e4.out,if_neg e5.out,if_neg e6.out,if_neg e7.out,if_neg e8.out,if_neg e9.out]]
    clear hi hb hr hv hcl hB
    go_enter Tryz.func37,Tryz.ntmps37
    go_wp2_with (first
      | (with_reducible refine Ay (vd:=.slice Ad e.disk.length cd) (vm:=.slice Am e.mem.length cm) (vl:=.slice Al e.log.length cl) e ?_;intro w1 hb1 hz1 hq1;clear hz1;have HB:=As hb1;have HQ:=As hq1;clear hb1 hq1)
      | (with_reducible refine FE (A:=A) (c:=c) v ?_;intro w2 hb1 hz1 hq1;clear hz1;have HN1:=As HB.out.size;replace HB:=As (bj HB.out hb1);replace HQ:=As (HQ.out.up hb1);have HV:=As hq1;have HL1:=As hq1.lt;clear hb1 hq1)
      | (refine Ay (vd:=.slice none 0 0) (vm:=.slice none 0 0) (vl:=.slice none 0 0) zE ?_;intro w3 hb1 hz1 hq1;have HBG:=As HB.out.size;replace HB:=As (bj HB.out hb1);replace HQ:=As (HQ.out.up hb1);replace HV:=As (HV.out.up hb1);have HP:=As hq1;have HZ:=As hz1;have x0:=HQ.out.c0;have x1:=HQ.out.c1;have x2:=HQ.out.c2;have x3:=HQ.out.c3;have x4:=HQ.out.c4;have v0:=HV.out.c0;have v1:=HV.out.c1;have v2:=HV.out.c2;have v3:=HV.out.c3;have v4:=HV.out.c4;have v5:=HV.out.c5;have y0:=HP.out.c0;have y1:=HP.out.c1;have y2:=HP.out.c2;have y3:=HP.out.c3;have y4:=HP.out.c4;have f0:=HP.out.frz 0;have f1:=HP.out.frz 1;have f2:=HP.out.frz 2;have f3:=HP.out.frz 3;have f4:=HP.out.frz 4;clear hb1 hz1 hq1))
    obtain ⟨z0,z1,z2,z3,z4⟩:=HP.out.empty
    have hge:=HBG.out
    exact bodyPost_ret (v:=.tuple #[zEv, .bool false]) (by simp [results,Tryz.results37,go_sem,z0,z1,z2,z3,z4]) rfl ⟨_,_,_,rfl,Jt _ _,Ao (g:=w2.heap.size) HB.out hge zE _ _ _⟩
  all_goals
    go_enter Tryz.func37,Tryz.ntmps37
    go_wp2_with (first
      | (with_reducible refine Ay (vd:=.slice Ad e.disk.length cd) (vm:=.slice Am e.mem.length cm) (vl:=.slice Al e.log.length cl) e ?_;intro w1 hb1 hz1 hq1;clear hz1;have HB:=As hb1;have HQ:=As hq1;clear hb1 hq1)
      | (with_reducible refine FE (A:=A) (c:=c) v ?_;intro w2 hb1 hz1 hq1;clear hz1;have HN1:=As HB.out.size;replace HB:=As (bj HB.out hb1);replace HQ:=As (HQ.out.up hb1);have HV:=As hq1;have HL1:=As hq1.lt;clear hb1 hq1)
      | (refine Ay (vd:=.slice none 0 0) (vm:=.slice none 0 0) (vl:=.slice none 0 0) zE ?_;intro w3 hb1 hz1 hq1;have HBG:=As HB.out.size;replace HB:=As (bj HB.out hb1);replace HQ:=As (HQ.out.up hb1);replace HV:=As (HV.out.up hb1);have HP:=As hq1;have HZ:=As hz1;have x0:=HQ.out.c0;have x1:=HQ.out.c1;have x2:=HQ.out.c2;have x3:=HQ.out.c3;have x4:=HQ.out.c4;have v0:=HV.out.c0;have v1:=HV.out.c1;have v2:=HV.out.c2;have v3:=HV.out.c3;have v4:=HV.out.c4;have v5:=HV.out.c5;have y0:=HP.out.c0;have y1:=HP.out.c1;have y2:=HP.out.c2;have y3:=HP.out.c3;have y4:=HP.out.c4;have f0:=HP.out.frz 0;have f1:=HP.out.frz 1;have f2:=HP.out.frz 2;have f3:=HP.out.frz 3;have f4:=HP.out.frz 4;clear hb1 hz1 hq1)
      | ((first | go_at_call 82 | go_at_call 83 | go_at_call 84 | go_at_call 85 | go_at_call 86 | go_at_call 87 | go_at_call 88 | go_at_call 89);refine (HIN.out w3 HB.out).mono ?_;rintro x w4 ⟨vd,vm,vl,rfl,ho,hb2⟩;obtain ⟨Ed,n1,Em,n2,El,n3,rfl,rfl,rfl, -, -⟩:=ho.reads;have HO:=As ho;have HX:=As hb2;clear x0 x1 x2 x3 x4 v0 v1 v2 v3 v4 v5 y0 y1 y2 y3 y4 f0 f1 f2 f3 f4;have hp:=HP.out.up hb2;have HP2:=As hp;have y0:=hp.c0;have y1:=hp.c1;have y2:=hp.c2;have y3:=hp.c3;have y4:=hp.c4;have f0:=hp.frz 0;have f1:=hp.frz 1;have f2:=hp.frz 2;have f3:=hp.frz 3;have f4:=hp.frz 4;clear hp hb2 ho))
    have hy:=HP2.out.Az E (.slice Ed E.disk.length n1) (.slice Em E.mem.length n2) (.slice El E.log.length n3)
    have h1:=HO.out.Az (f:=E) (xd:=.slice Ed E.disk.length n1) (xm:=.slice Em E.mem.length n2) (xl:=.slice El E.log.length n3) HP2.out
    have hge:=HBG.out
    have hzz:=HZ.out
    have h2:=Ao (g:=w2.heap.size) (bj HB.out HX.out) hge E (.slice Ed E.disk.length n1) (.slice Em E.mem.length n2) (.slice El E.log.length n3)
    have z0:=hy.c0
    have z1:=hy.c1
    have z2:=hy.c2
    have z3:=hy.c3
    have z4:=hy.c4
    exact bodyPost_ret (v:=.tuple #[E.ag (.slice Ed E.disk.length n1) (.slice Em E.mem.length n2) (.slice El E.log.length n3), .bool bb]) (by simp [results,Tryz.results37,go_sem,z0,z1,z2,z3,z4]) rfl ⟨_,_,_,rfl,h1.lower (by omega),h2⟩
end Go.Proofs.YtpjmlpmhgfghbaaGreat
/- The program's PlayDo. -/
namespace Go.Proofs.YtpjmlpmhgfghbaaGreat
open Go.RowKit Go.Proofs.YtpjmlpmhgfghbaaGreatW.PrintWords Go.Proofs.YtpjmlpmhgfghbaaGreatW.PrintLast Go.Proofs.YtpjmlpmhgfghbaaGreatW.PrintMore
theorem IU (e : Eng) (ok : Bool) (x : Eng) : (Bh e ok x).1 = if (Bh e ok x).2 = true then (Bh e ok x).1 else e:=by
  unfold Bh
  split <;> simp
/-- What is played is what comes behind the event, if it happened. -/
theorem Sz {e : Eng} {C : Nat → Page} {B : Nat} (hi : Inv e C B) (v : Evt) : BM e v = if (CY e v).2 = true then (CY e v).1 else e:=by
  unfold BM CY
  by_cases k1 : v.kind = 1
  · rw [if_pos k1,if_pos k1];exact IU _ _ _
  rw [if_neg k1,if_neg k1]
  by_cases k2 : v.kind = 2
  · rw [if_pos k2,if_pos k2];exact IU _ _ _
  rw [if_neg k2,if_neg k2]
  by_cases k3 : v.kind = 3
  · rw [if_pos k3,if_pos k3];exact IU _ _ _
  rw [if_neg k3,if_neg k3]
  have hop : ∀ tx,Ju e tx = true ↔ e.down = false ∧ Aj e.log tx e.log.length ≠ 0:=fun tx => by
    rw [F5]
    exact ⟨fun h => ⟨h.1,h.2.2⟩,fun h => ⟨h.1,F6 hi.core.log h.2,h.2⟩⟩
  have hend : ∀ tx X,(if Ju e tx = true then X else e) = if (Cz e tx X).2 = true then (Cz e tx X).1 else e:=fun tx X => by
    unfold Cz
    by_cases h : e.down = false ∧ Aj e.log tx e.log.length ≠ 0
    · rw [if_pos ((hop tx).2 h),if_pos h,if_pos rfl]
    · rw [if_neg (fun h2 => h ((hop tx).1 h2)),if_neg h,if_neg (by simp)]
  by_cases k4 : v.kind = 4
  · rw [if_pos k4,if_pos k4];exact hend _ _
  rw [if_neg k4,if_neg k4]
  by_cases k5 : v.kind = 5
  · rw [if_pos k5,if_pos k5];exact hend _ _
  rw [if_neg k5,if_neg k5]
  by_cases k6 : v.kind = 6
  · rw [if_pos k6,if_pos k6,EN]
    split <;> simp
  rw [if_neg k6,if_neg k6]
  by_cases k7 : v.kind = 7
  · rw [if_pos k7,if_pos k7,FW]
    split <;> simp
  rw [if_neg k7,if_neg k7]
  by_cases k8 : v.kind = 8
  · rw [if_pos k8,if_pos k8]
    by_cases h : 0 ≤ v.n
    · rw [if_pos h,show GR e v.n = (JF e v.n,true) by rw [GR,if_pos ⟨hi.ok,h⟩],if_pos rfl]
    · rw [if_neg h,show GR e v.n = (zE,false) by rw [GR,if_neg (fun h2 => h h2.2)],if_neg (by simp)]
  rw [if_neg k8,if_neg k8]
  by_cases k9 : v.kind = 9
  · rw [if_pos k9,if_pos k9]
    by_cases h : 0 ≤ v.n
    · cases hd : e.down
      · rw [if_neg (by simp),show upR e v.n = (e,false) by rw [upR,if_pos ⟨hi.ok,h⟩,if_neg (by rw [hd];simp)]]
        simp
      · rw [if_pos ⟨rfl,h⟩,show upR e v.n = (upE (CW v.n.toNat (ES e)),decide (AO (CW v.n.toNat (ES e)) = 0)) by rw [upR,if_pos ⟨hi.ok,h⟩,if_pos hd],if_pos (by simp [h]),Qr]
    · rw [if_neg (fun h2 => h h2.2),show upR e v.n = (zE,false) by rw [upR,if_neg (fun h2 => h h2.2)],if_neg (by simp [h])]
  rw [if_neg k9,if_neg k9]
  simp
set_option maxRecDepth 100000 in
set_option maxHeartbeats 16000000 in
theorem Qd {w0 w : World} {e : Eng} {C : Nat → Page} {B : Nat} {Ad Am Al A : Option Addr} {cd cm cl c : Nat} (v : Evt) (hi : Inv e C B) (hB : B + 3 ≤ 150) (hcl : e.log.length ≤ cl) (hb : Below w0.heap.size w0 w) (hr : DY w0 e Ad Am Al) (hv : Kd.C (Kd.int .i64) w0 A v.vals.length v.vals) : Calls Tryz.prog 11 #[e.val Ad Am Al cd cm cl,v.val A c] w (VW w (BM e v)):=by
  rw [Sz hi]
  obtain ⟨E,r,hE⟩ : ∃ E r,CY e v = (E,r):=⟨_,_,rfl⟩
  rw [hE]
  have HIN : Ac (∀ wx,Below w.heap.size w wx → Calls Tryz.prog 37 #[e.val Ad Am Al cd cm cl,v.val A c] wx (CZ wx E r)):=⟨fun wx hbx => by
    have h:=Rm (cd:=cd) (cm:=cm) (c:=c) v hi hB hcl (bj hb hbx) hr hv
    rw [hE] at h
    exact h⟩
  have HOK:=As hi.ok
  have HF:=As (Fe.1 hi.ok)
  have HLG:=As (Be HF.out.log)
  have HR:=As (hr.up hb)
  clear hi hb hr hv hE hB
  cases r
  · rw [if_neg (by simp)]
    go_enter Tryz.func11,Tryz.ntmps11
    go_wp2_with (first
      | (with_reducible refine Ay (vd:=.slice Ad e.disk.length cd) (vm:=.slice Am e.mem.length cm) (vl:=.slice Al e.log.length cl) e ?_;intro w1 hb1 hz1 hq1;clear hz1;have HB:=As hb1;have HQ:=As hq1;clear hb1 hq1)
      | (with_reducible refine FE (A:=A) (c:=c) v ?_;intro w2 hb1 hz1 hq1;clear hz1;have HN1:=As HB.out.size;replace HB:=As (bj HB.out hb1);replace HQ:=As (HQ.out.up hb1);have HV:=As hq1;have HL1:=As hq1.lt;clear hb1 hq1)
      | (refine Ay (vd:=.slice none 0 0) (vm:=.slice none 0 0) (vl:=.slice none 0 0) zE ?_;intro w3 hb1 hz1 hq1;have HBG:=As HB.out.size;replace HB:=As (bj HB.out hb1);replace HQ:=As (HQ.out.up hb1);replace HV:=As (HV.out.up hb1);have HP:=As hq1;have HZ:=As hz1;have x0:=HQ.out.c0;have x1:=HQ.out.c1;have x2:=HQ.out.c2;have x3:=HQ.out.c3;have x4:=HQ.out.c4;have v0:=HV.out.c0;have v1:=HV.out.c1;have v2:=HV.out.c2;have v3:=HV.out.c3;have v4:=HV.out.c4;have v5:=HV.out.c5;have y0:=HP.out.c0;have y1:=HP.out.c1;have y2:=HP.out.c2;have y3:=HP.out.c3;have y4:=HP.out.c4;have f0:=HP.out.frz 0;have f1:=HP.out.frz 1;have f2:=HP.out.frz 2;have f3:=HP.out.frz 3;have f4:=HP.out.frz 4;clear hb1 hz1 hq1)
      | (go_at_call 36;refine (AJ (cd:=cd) (cm:=cm) HOK.out hcl HB.out HR.out).mono ?_;rintro x w4 ⟨rfl,hb2⟩;have HX4:=As hb2;replace x0:=bc hb2 x0;replace x1:=bc hb2 x1;replace x2:=bc hb2 x2;replace x3:=bc hb2 x3;replace x4:=bc hb2 x4;replace v0:=bc hb2 v0;replace v1:=bc hb2 v1;replace v2:=bc hb2 v2;replace v3:=bc hb2 v3;replace v4:=bc hb2 v4;replace v5:=bc hb2 v5;have HB3:=HB;replace HB:=As (bj HB.out hb2);clear hb2)
      | (go_at_call 37;refine (HIN.out w4 HB.out).mono ?_;rintro x w5 ⟨vd,vm,vl,rfl,ho,hb2⟩;obtain ⟨Ed,n1,Em,n2,El,n3,rfl,rfl,rfl, -, -⟩:=ho.reads;have HO:=As ho;have HX:=As hb2;clear v0 v1 v2 v3 v4 v5 y0 y1 y2 y3 y4 f0 f1 f2 f3 f4;clear hb2 ho)
      | (refine Ay (vd:=.slice Ed E.disk.length n1) (vm:=.slice Em E.mem.length n2) (vl:=.slice El E.log.length n3) E ?_;intro w6 hb5 hz5 hq5;clear hz5;have HX5:=As (bj HX.out hb5);have HX35:=As (bj HX4.out HX5.out);replace x0:=bc HX5.out x0;replace x1:=bc HX5.out x1;replace x2:=bc HX5.out x2;replace x3:=bc HX5.out x3;replace x4:=bc HX5.out x4;clear hb5 hq5)
      | (go_at_call 38;refine (AQ (cd:=cd) (cm:=cm) (cl:=cl) (Aw HF.out.disk) (Aw HF.out.mem) HLG.out (bj HB.out HX5.out) HR.out).mono ?_;rintro x w7 ⟨vd,vm,vl,rfl,ho,hb2⟩;obtain ⟨Bd,k1,Bm,k2,Bl,k3,rfl,rfl,rfl, -, -⟩:=ho.reads;have HO7:=As ho;have HX7:=As (bj HX35.out hb2);have HS7:=As HX35.out.size;have hp:=HP.out.up HX7.out;have HP2:=As hp;clear x0 x1 x2 x3 x4;have y0:=hp.c0;have y1:=hp.c1;have y2:=hp.c2;have y3:=hp.c3;have y4:=hp.c4;have f0:=hp.frz 0;have f1:=hp.frz 1;have f2:=hp.frz 2;have f3:=hp.frz 3;have f4:=hp.frz 4;clear hp hb2 ho))
    have hs7:=HS7.out
    have hy:=HP2.out.Az e (.slice Bd e.disk.length k1) (.slice Bm e.mem.length k2) (.slice Bl e.log.length k3)
    have h1:=HO7.out.Az (f:=e) (xd:=.slice Bd e.disk.length k1) (xm:=.slice Bm e.mem.length k2) (xl:=.slice Bl e.log.length k3) HP2.out
    have hge:=HBG.out
    have hzz:=HZ.out
    have hx4:=HX4.out.size
    have h2:=Ao (g:=w2.heap.size) (bj HB3.out HX7.out) hge e (.slice Bd e.disk.length k1) (.slice Bm e.mem.length k2) (.slice Bl e.log.length k3)
    have z0:=hy.c0
    have z1:=hy.c1
    have z2:=hy.c2
    have z3:=hy.c3
    have z4:=hy.c4
    exact bodyPost_ret (v:=e.ag (.slice Bd e.disk.length k1) (.slice Bm e.mem.length k2) (.slice Bl e.log.length k3)) (by simp [results,Tryz.results11,go_sem,z0,z1,z2,z3,z4]) rfl ⟨_,_,_,rfl,h1.lower (by omega),h2⟩
  · rw [if_pos rfl]
    go_enter Tryz.func11,Tryz.ntmps11
    go_wp2_with (first
      | (with_reducible refine Ay (vd:=.slice Ad e.disk.length cd) (vm:=.slice Am e.mem.length cm) (vl:=.slice Al e.log.length cl) e ?_;intro w1 hb1 hz1 hq1;clear hz1;have HB:=As hb1;have HQ:=As hq1;clear hb1 hq1)
      | (with_reducible refine FE (A:=A) (c:=c) v ?_;intro w2 hb1 hz1 hq1;clear hz1;have HN1:=As HB.out.size;replace HB:=As (bj HB.out hb1);replace HQ:=As (HQ.out.up hb1);have HV:=As hq1;have HL1:=As hq1.lt;clear hb1 hq1)
      | (refine Ay (vd:=.slice none 0 0) (vm:=.slice none 0 0) (vl:=.slice none 0 0) zE ?_;intro w3 hb1 hz1 hq1;have HBG:=As HB.out.size;replace HB:=As (bj HB.out hb1);replace HQ:=As (HQ.out.up hb1);replace HV:=As (HV.out.up hb1);have HP:=As hq1;have HZ:=As hz1;have x0:=HQ.out.c0;have x1:=HQ.out.c1;have x2:=HQ.out.c2;have x3:=HQ.out.c3;have x4:=HQ.out.c4;have v0:=HV.out.c0;have v1:=HV.out.c1;have v2:=HV.out.c2;have v3:=HV.out.c3;have v4:=HV.out.c4;have v5:=HV.out.c5;have y0:=HP.out.c0;have y1:=HP.out.c1;have y2:=HP.out.c2;have y3:=HP.out.c3;have y4:=HP.out.c4;have f0:=HP.out.frz 0;have f1:=HP.out.frz 1;have f2:=HP.out.frz 2;have f3:=HP.out.frz 3;have f4:=HP.out.frz 4;clear hb1 hz1 hq1)
      | (go_at_call 36;refine (AJ (cd:=cd) (cm:=cm) HOK.out hcl HB.out HR.out).mono ?_;rintro x w4 ⟨rfl,hb2⟩;have HX4:=As hb2;replace x0:=bc hb2 x0;replace x1:=bc hb2 x1;replace x2:=bc hb2 x2;replace x3:=bc hb2 x3;replace x4:=bc hb2 x4;replace v0:=bc hb2 v0;replace v1:=bc hb2 v1;replace v2:=bc hb2 v2;replace v3:=bc hb2 v3;replace v4:=bc hb2 v4;replace v5:=bc hb2 v5;have HB3:=HB;replace HB:=As (bj HB.out hb2);clear hb2)
      | (go_at_call 37;refine (HIN.out w4 HB.out).mono ?_;rintro x w5 ⟨vd,vm,vl,rfl,ho,hb2⟩;obtain ⟨Ed,n1,Em,n2,El,n3,rfl,rfl,rfl, -, -⟩:=ho.reads;have HO:=As ho;have HX:=As hb2;clear v0 v1 v2 v3 v4 v5 y0 y1 y2 y3 y4 f0 f1 f2 f3 f4;clear hb2 ho)
      | (refine Ay (vd:=.slice Ed E.disk.length n1) (vm:=.slice Em E.mem.length n2) (vl:=.slice El E.log.length n3) E ?_;intro w6 hb5 hz5 hq5;clear hz5;have HX5:=As (bj HX.out hb5);have HX35:=As (bj HX4.out HX5.out);have HO5:=As (HO.out.below hb5);have m0:=hq5.c0;have m1:=hq5.c1;have m2:=hq5.c2;have m3:=hq5.c3;have m4:=hq5.c4;have hp:=HP.out.up HX35.out;have HP2:=As hp;clear x0 x1 x2 x3 x4;have y0:=hp.c0;have y1:=hp.c1;have y2:=hp.c2;have y3:=hp.c3;have y4:=hp.c4;have f0:=hp.frz 0;have f1:=hp.frz 1;have f2:=hp.frz 2;have f3:=hp.frz 3;have f4:=hp.frz 4;clear hp hb5 hq5))
    have hy:=HP2.out.Az E (.slice Ed E.disk.length n1) (.slice Em E.mem.length n2) (.slice El E.log.length n3)
    have h1:=HO5.out.Az (f:=E) (xd:=.slice Ed E.disk.length n1) (xm:=.slice Em E.mem.length n2) (xl:=.slice El E.log.length n3) HP2.out
    have hge:=HBG.out
    have hzz:=HZ.out
    have hx4:=HX4.out.size
    have h2:=Ao (g:=w2.heap.size) (bj HB3.out HX35.out) hge E (.slice Ed E.disk.length n1) (.slice Em E.mem.length n2) (.slice El E.log.length n3)
    have z0:=hy.c0
    have z1:=hy.c1
    have z2:=hy.c2
    have z3:=hy.c3
    have z4:=hy.c4
    exact bodyPost_ret (v:=E.ag (.slice Ed E.disk.length n1) (.slice Em E.mem.length n2) (.slice El E.log.length n3)) (by simp [results,Tryz.results11,go_sem,z0,z1,z2,z3,z4]) rfl ⟨_,_,_,rfl,h1.lower (by omega),h2⟩
set_option maxRecDepth 100000 in
set_option maxHeartbeats 8000000 in
theorem Lr (w : World) : Calls Tryz.prog 117 #[] w (Ox w newP):=by
  have hmk:=Ty
  go_enter Tryz.func117,Tryz.ntmps117
  go_wp2
  obtain ⟨w1,hw1⟩ : ∃ w1,w.alloc (Obj.cells #[.int .i64 0, .int .i64 0, .slice (some ⟨w.heap.size + 1,0,none⟩) 3 3] 81) = w1:=⟨_,rfl⟩
  have hz1 : w1.heap.size = w.heap.size + 1:=by rw [← hw1,BF]
  obtain ⟨w2,hw2⟩ : ∃ w2,w1.alloc (.cells (madeCells #[.int .i64 0] 3) 3) = w2:=⟨_,rfl⟩
  have ho : AV w2 w1.heap.size (.slice (some ⟨w1.heap.size,0,none⟩) 3 3) [0,0,0]:=by rw [← hw2];exact JO w1 w1.heap.size 3 .i64 3 (Nat.le_refl _) (by decide)
  have hq : AR w2 w.heap.size newP (.slice (some ⟨w.heap.size + 1,0,none⟩) 3 3):=by rw [← hw2, ← hw1];exact (AR.mk1 w newP _).up (Ah (Below.refl _ _) _)
  have hb : Below w.heap.size w w2:=by rw [← hw2, ← hw1];exact Ah (Ah (Below.refl _ _) _) _
  rw [hw1,hw2]
  rw [hz1] at ho
  have z0:=hq.c0
  have z1:=hq.c1
  have z2:=hq.c2
  exact bodyPost_ret (v:=newP.own (.slice (some ⟨w.heap.size + 1,0,none⟩) 3 3)) (by simp [results,Tryz.results117,go_sem,z0,z1,z2]) rfl ⟨_,rfl,ho.lower (by omega),hb⟩
theorem Pk {k : Nat} (h : k < 5) : (List.replicate 5 newP).take (k + 1) = (List.replicate 5 newP).take k ++ [newP]:=by
  match k,h with
  | 0,_ => rfl
  | 1,_ => rfl
  | 2,_ => rfl
  | 3,_ => rfl
  | 4,_ => rfl
set_option maxRecDepth 100000 in
set_option maxHeartbeats 8000000 in
theorem G7 (w : World) : Calls Tryz.prog 59 #[] w (O6 w (List.replicate 5 newP)):=by
  go_enter Tryz.func59,Tryz.ntmps59
  go_wp2
  go_loopw [1,2] (fun v i wr => ∃ k : Nat,k ≤ 5 ∧ i = .int .i64 (k : Int) ∧ Ac (E9 wr w.heap.size v ((List.replicate 5 newP).take k)) ∧ Ac (Below w.heap.size w wr)) (fun _ i _ => (5 - intOf i).toNat)
  case atStart => exact ⟨0,Nat.zero_le _,rfl,⟨Kd.Rq _ _ _ _ _⟩,⟨Below.refl _ _⟩⟩
  case round =>
    obtain ⟨k,hk,rfl,HO,HW⟩:=hrel
    by_cases hlt : k < 5
    · have HT:=As (Pk hlt)
      have HLN : Ac (((List.replicate 5 newP).take k).length = k):=⟨by simp;omega⟩
      have hki : (k : Int) < 5:=by omega
      go_wp2_with (first | (go_at_call 117;refine (Lr _).mono ?_;rintro e w2 ⟨v,rfl,ho,hb2⟩;have HOv:=As ho;have HW2:=As hb2;have HO2:=As (Kd.DC HO.out HW2.out);clear ho hb2) | (at_builtin;refine Gj (p:=newP) rfl (.tmp 4) (.tmp 6) rfl rfl rfl HOv.out HO2.out (bj HW.out HW2.out) (by have:=HLN.out;omega) HW.out.size ?_;intro v1 w3 hR hb3;have HR3:=As hR;have HW3:=As hb3;clear hR hb3))
      go_roundw
      case rel => exact ⟨k + 1,by omega,by go_num,⟨by rw [HT.out];exact HR3.out⟩,HW3⟩
      case measure => simp [intOf];omega
    · have hke : k = 5:=by omega
      subst hke
      go_wp2
      go_ret
      exact ⟨_,rfl,HO.out,HW.out⟩
set_option maxRecDepth 100000 in
set_option maxHeartbeats 8000000 in
theorem Ng (w : World) : Calls Tryz.prog 31 #[] w (VW w Da):=by
  go_enter Tryz.func31,Tryz.ntmps31
  go_wp2_with (first
    | (refine Ay (vd:=.slice none 0 0) (vm:=.slice none 0 0) (vl:=.slice none 0 0) zE ?_;intro w1 hb1 hz1 hq1;clear hz1;have HB:=As hb1;have HP:=As hq1;clear hb1 hq1)
    | (go_at_call 59;refine (G7 w1).mono ?_;rintro x w2 ⟨vd,rfl,ho,hb2⟩;obtain ⟨Dd,kd,rfl, -, -⟩:=Kd.Cn ho;have HD : Ac (E9 w2 w1.heap.size (.slice Dd 5 kd) (List.replicate 5 newP)):=⟨ho⟩;have HB2:=As hb2;clear ho hb2)
    | (go_at_call 59;refine (G7 w2).mono ?_;rintro x w3 ⟨vm,rfl,ho,hb2⟩;obtain ⟨Dm,km,rfl, -, -⟩:=Kd.Cn ho;have HM : Ac (E9 w3 w2.heap.size (.slice Dm 5 km) (List.replicate 5 newP)):=⟨ho⟩;have HB3:=As hb2;have hp:=(HP.out.up HB2.out).up hb2;have HP3:=As hp;have y0:=hp.c0;have y1:=hp.c1;have y2:=hp.c2;have y3:=hp.c3;have y4:=hp.c4;have f0:=hp.frz 0;have f1:=hp.frz 1;have f2:=hp.frz 2;have f3:=hp.frz 3;have f4:=hp.frz 4;clear hp ho hb2))
  have hO : AU w3 w1.heap.size (.slice Dd 5 kd) (.slice Dm 5 km) (.slice none 0 0) Da:=AU.mk2 (w0:=w2) HD.out HM.out HB3.out HB2.out.size (Te _ _)
  have hy:=HP3.out.Az ⟨[], [], [],0,false⟩ (.slice Dd 5 kd) (.slice Dm 5 km) (.slice none 0 0)
  have h1:=hO.Az (f:=⟨[], [], [],0,false⟩) (xd:=.slice Dd 5 kd) (xm:=.slice Dm 5 km) (xl:=.slice none 0 0) HP3.out
  have h2:=Ao (g:=w.heap.size) (bj HB.out (bj HB2.out HB3.out)) (Nat.le_refl _) ⟨[], [], [],0,false⟩ (.slice Dd 5 kd) (.slice Dm 5 km) (.slice none 0 0)
  have hs:=HB.out.size
  have z0:=hy.c0
  have z1:=hy.c1
  have z2:=hy.c2
  have z3:=hy.c3
  have z4:=hy.c4
  simp only at z3 z4
  exact bodyPost_ret (v:=.agg #[.slice Dd 5 kd, .slice Dm 5 km, .slice none 0 0, .int .i64 0, .bool false]) (by simp [results,Tryz.results31,go_sem,z0,z1,z2,z3,z4]) rfl ⟨.slice Dd 5 kd, .slice Dm 5 km, .slice none 0 0,rfl,h1.lower hs,h2⟩
structure U4 (w : World) (a : Addr) (v : Evt) (A : Option Addr) (c : Nat) : Prop where
  c0 : w.cell? a = some (.int .i64 v.kind)
  c1 : w.cell? ⟨a.block,a.off + 1,none⟩ = some (.int .i64 v.tx)
  c2 : w.cell? ⟨a.block,a.off + 2,none⟩ = some (.int .i64 v.page)
  c3 : w.cell? ⟨a.block,a.off + 3,none⟩ = some (.int .i64 v.slot)
  c4 : w.cell? ⟨a.block,a.off + 4,none⟩ = some (.int .i64 v.n)
  c5 : w.cell? ⟨a.block,a.off + 5,none⟩ = some (.slice A v.vals.length c)
theorem Mj {w : World} {A : Option Addr} {n : Nat} {xs : List Evt} (h : Kd.C Ik w A n xs) (i : Nat) (h1 : i < n) : ∃ ad A2 c2,A = some ad ∧ U4 w (ad.add (i * 6)) (ev xs i) A2 c2 ∧ (ev xs i).vals.length ≤ c2 ∧ (Kd.int .i64).C w A2 (ev xs i).vals.length (ev xs i).vals:=by
  obtain ⟨ad,c,e,_,hK,hc0⟩:=Kd.U6 h v0 (i : Int) (by omega) (by omega)
  have hc : ∀ j u,c[j]? = some u → w.cell? (ad.add (i * 6 + j)) = some u:=hc0
  obtain ⟨A2,c2,rfl,l2,g2⟩:=Uz hK
  exact ⟨ad,A2,c2,e,⟨hc 0 _ rfl,by rw [← D8 _ _ 1 (by omega)];exact hc 1 _ rfl,by rw [← D8 _ _ 2 (by omega)];exact hc 2 _ rfl,by rw [← D8 _ _ 3 (by omega)];exact hc 3 _ rfl,by rw [← D8 _ _ 4 (by omega)];exact hc 4 _ rfl,by rw [← D8 _ _ 5 (by omega)];exact hc 5 _ rfl⟩,l2,g2⟩
theorem M4 : ∀ (vs : List Evt) (e : Eng) (v : Evt),K6 e (vs ++ [v]) = BM (K6 e vs) v
  | [],_,_ => rfl
  | u :: vs,e,v => M4 vs (BM e u) v
theorem Lx {vs : List Evt} {k : Nat} (h : k < vs.length) : vs.take (k + 1) = vs.take k ++ [ev vs k]:=by
  rw [List.take_succ_eq_append_getElem h,ev,List.getD_eq_getElem?_getD,List.getElem?_eq_getElem h]
  rfl
theorem Sd (vs : List Evt) (k : Nat) (hk : k ≤ 40) : ∃ C,Inv (K6 Da (vs.take k)) C (3 * 40):=by
  have h1 : (vs.take k).length ≤ k:=by rw [List.length_take];omega
  exact ⟨_,(Inv.run WG (vs:=vs.take k) (by omega)).mono (by omega) (by omega)⟩
/-- An event's values, as a page's slots: what is said of pages' sizes holds of events'. -/
def evP (v : Evt) : Page:=⟨0,0,v.vals⟩
def szV (vs : List Evt) (left : Int) : Int:=szP (vs.map evP) left
theorem UY {xs : List Evt} {k : Nat} (hk : k < xs.length) (x : Int) : N8 ((xs.map evP).drop k) x = if szI (ev xs k).vals.length x < 0 then -1 else N8 ((xs.map evP).drop (k + 1)) (szI (ev xs k).vals.length x):=by
  rw [Ue (by rw [List.length_map];exact hk),show pg (xs.map evP) k = evP (ev xs k) by simp [pg,ev,List.getD_eq_getElem?_getD,hk]]
  rfl
/-- A row of events that is not too great. -/
def WL (vs : List Evt) : Prop:=vs.length ≤ 1048576 ∧ ∀ v ∈ vs,v.vals.length ≤ 1048576
theorem WK {vs : List Evt} (h : 0 ≤ szV vs 1048576) : WL vs:=by
  have h1:=Wq _ _ h
  rw [List.length_map] at h1
  exact ⟨by omega,fun v hv => by have:=h1.2 (evP v) (List.mem_map_of_mem hv);simp only [evP] at this;omega⟩
theorem Ka (A : Option Addr) (c : Nat) (p : Evt) (left : Int) (w : World) (h0 : 0 ≤ left) (h1 : left ≤ 1048576) (hn : p.vals.length ≤ 9223372036854775807) : Calls Tryz.prog 53 #[p.val A c, .int .i64 left] w fun e w' => e = .returned (.int .i64 (szI p.vals.length left)) ∧ Below w.heap.size w w':=by
  obtain ⟨v,hv⟩ : ∃ v,szI p.vals.length left = v:=⟨_,rfl⟩
  have hu:=UZ (n:=p.vals.length) h0
  rw [hv] at hu ⊢
  have HV:=As hv
  have HN:=As hn
  have H0:=As h0
  have H1:=As h1
  clear hv hn h0 h1
  rcases lts v 0 with ⟨e1,b1,c1⟩ | ⟨e1,b1,c1⟩
  · have hz:=As (show v = -1 by have:=e1.out;omega)
    clear hu
    go_enter Tryz.func53,Tryz.ntmps53
    go_wp2_with (go_at_call 113;refine (KW _ _ _ _ _ H0.out H1.out HN.out).mono ?_;rw [HV.out];rintro x w1 ⟨rfl,rfl⟩)
    go_ret
    exact ⟨Cs hz.out.symm,Ah (Below.refl _ _) _⟩
  · clear hu
    go_enter Tryz.func53,Tryz.ntmps53
    go_wp2_with (go_at_call 113;refine (KW _ _ _ _ _ H0.out H1.out HN.out).mono ?_;rw [HV.out];rintro x w1 ⟨rfl,rfl⟩)
    go_ret
    exact ⟨rfl,Ah (Below.refl _ _) _⟩
set_option maxHeartbeats 4000000 in
theorem Jo {w0 w : World} {A : Option Addr} {c : Nat} {l : List Evt} (left : Int) (h0 : 0 ≤ left) (h1 : left ≤ 1048576) (hb : Below w0.heap.size w0 w) (hr : Kd.C Ik w0 A l.length l) : Calls Tryz.prog 19 #[.slice A l.length c, .int .i64 left] w fun e w' => e = .returned (.int .i64 (szV l left)) ∧ Below w.heap.size w w':=by
  have HR:=As (Bu hr hb)
  have hm:=(CJ hr).2
  clear hr hb
  have hwr : IntKind.i64.wrap (left - (l.length : Int)) = left - (l.length : Int):=by simp (disch:=omega) only [IntWalk.i64_in]
  rcases lts (left - (l.length : Int)) 0 with ⟨e1,b1,c1⟩ | ⟨e1,b1,c1⟩
  · have hz:=As (show szV l left = -1 by have:=e1.out;rw [szV,szP,List.length_map,szI,if_pos (by omega)])
    go_enter Tryz.func19,Tryz.ntmps19
    go_wp2
    go_ret
    exact ⟨Cs hz.out.symm,Below.refl _ _⟩
  · obtain ⟨v,hv⟩ : ∃ v,szV l left = v:=⟨_,rfl⟩
    rw [hv]
    have HV:=As (show N8 (l.map evP) (left - l.length) = v by have:=e1.out;rw [← hv,szV,szP,List.length_map,szI,if_neg (by omega),if_neg (by omega)])
    have HL:=As (show 0 ≤ left - (l.length : Int) ∧ left - (l.length : Int) ≤ 1048576 by have:=e1.out;omega)
    clear hv
    go_enter Tryz.func19,Tryz.ntmps19
    go_wp2
    go_loopw [1,5] (fun x i wr => ∃ (k : Nat) (y : Int),k ≤ l.length ∧ x = .int .i64 y ∧ i = .int .i64 (k : Int) ∧ Ac (0 ≤ y ∧ y ≤ 1048576) ∧ Ac (N8 ((l.map evP).drop k) y = v) ∧ Ac (Below w.heap.size w wr)) (fun _ i _ => (l.length - intOf i).toNat)
    case atStart => exact ⟨0,_,Nat.zero_le _,rfl,rfl,HL,HV,⟨Below.refl _ _⟩⟩
    case round =>
      obtain ⟨k,y,hk,rfl,rfl,HY,HK,HW⟩:=hrel
      by_cases hlt : k < l.length
      · obtain ⟨ad,A2,c2,rfl,QP, -,g2⟩:=Mj (Bu HR.out HW.out) k hlt
        obtain ⟨x0,x1,x2,x3,x4,x5⟩:=QP
        have HG:=As (CJ g2).2
        clear g2
        have HS:=As (UY hlt y)
        obtain ⟨z,hz⟩ : ∃ z,szI (ev l k).vals.length y = z:=⟨_,rfl⟩
        have hu:=UZ (n:=(ev l k).vals.length) HY.out.1
        rw [hz] at hu
        have HU:=As hu
        have HZ:=As hz
        clear hu hz
        rcases lts z 0 with ⟨e2,b2,c2'⟩ | ⟨e2,b2,c2'⟩
        · have HE:=As (show v = -1 by rw [← HK.out,HS.out,HZ.out,if_pos e2.out])
          go_wp2_with (go_at_call 53;refine (Ka A2 c2 (ev l k) y wr HY.out.1 HY.out.2 HG.out).mono ?_;rw [HZ.out];rintro x w1 ⟨rfl,hb1⟩;have HX:=As (bj HW.out hb1);clear hb1)
          go_ret
          exact ⟨Cs HE.out.symm,HX.out⟩
        · have HE:=As (show N8 ((l.map evP).drop (k + 1)) z = v by rw [← HK.out,HS.out,HZ.out,if_neg (by have:=e2.out;omega)])
          go_wp2_with (go_at_call 53;refine (Ka A2 c2 (ev l k) y wr HY.out.1 HY.out.2 HG.out).mono ?_;rw [HZ.out];rintro x w1 ⟨rfl,hb1⟩;have HX:=As (bj HW.out hb1);clear hb1)
          go_roundw
          case rel => exact ⟨k + 1,z,by omega,rfl,by go_num,⟨by have:=e2.out;have:=HU.out;have:=HY.out;omega⟩,HE,HX⟩
          case measure => simp [intOf];omega
      · have hke:=As (show y = v by rw [← HK.out,show k = (l.map evP).length by rw [List.length_map];omega,List.drop_length];rfl)
        go_wp2
        go_ret
        exact ⟨Cs hke.out,HW.out⟩
abbrev Evt.own (v : Evt) (u : Value) : Value:=.agg #[.int .i64 v.kind, .int .i64 v.tx, .int .i64 v.page, .int .i64 v.slot, .int .i64 v.n,u]
def EvB (w : World) (g : Nat) (v : Evt) (u : Value) : Prop:=w.heap[g]? = some (.cells #[.int .i64 v.kind, .int .i64 v.tx, .int .i64 v.page, .int .i64 v.slot, .int .i64 v.n,u] 35 (0,0))
section
variable {w w1 : World} {g : Nat} {v : Evt} {u : Value}
theorem EvB.c0 (h : EvB w g v u) : w.cell? ⟨g,0,none⟩ = some (.int .i64 v.kind):=by unfold EvB at h;simp [World.cell?,h]
theorem EvB.c1 (h : EvB w g v u) : w.cell? ⟨g,1,none⟩ = some (.int .i64 v.tx):=by unfold EvB at h;simp [World.cell?,h]
theorem EvB.c2 (h : EvB w g v u) : w.cell? ⟨g,2,none⟩ = some (.int .i64 v.page):=by unfold EvB at h;simp [World.cell?,h]
theorem EvB.c3 (h : EvB w g v u) : w.cell? ⟨g,3,none⟩ = some (.int .i64 v.slot):=by unfold EvB at h;simp [World.cell?,h]
theorem EvB.c4 (h : EvB w g v u) : w.cell? ⟨g,4,none⟩ = some (.int .i64 v.n):=by unfold EvB at h;simp [World.cell?,h]
theorem EvB.c5 (h : EvB w g v u) : w.cell? ⟨g,5,none⟩ = some u:=by unfold EvB at h;simp [World.cell?,h]
theorem EvB.frz (h : EvB w g v u) (k : Nat) : w.frozen? ⟨g,k,none⟩ = false:=by unfold EvB at h;simp [World.frozen?,h]
theorem EvB.lt (h : EvB w g v u) : g < w.heap.size:=(Array.getElem?_eq_some_iff.1 h).1
theorem EvB.up (h : EvB w g v u) (hb : Below w.heap.size w w1) : EvB w1 g v u:=(hb.block g h.lt).trans h
theorem EvB.far {b : Nat} (h : EvB w g v u) (hne : b ≠ g) (j : Nat) (x : Value) : EvB (w.setCell ⟨b,j,none⟩ x) g v u:=(Below.heap_setCell w ⟨b,j,none⟩ x g (Ne.symm hne)).trans h
theorem EvB.set0 (h : EvB w g v u) (x : Int) : EvB (w.setCell ⟨g,0,none⟩ (.int .i64 x)) g ⟨x,v.tx,v.page,v.slot,v.n,v.vals⟩ u:=heap_setCell_same h _
theorem EvB.set1 (h : EvB w g v u) (x : Int) : EvB (w.setCell ⟨g,1,none⟩ (.int .i64 x)) g ⟨v.kind,x,v.page,v.slot,v.n,v.vals⟩ u:=heap_setCell_same h _
theorem EvB.set2 (h : EvB w g v u) (x : Int) : EvB (w.setCell ⟨g,2,none⟩ (.int .i64 x)) g ⟨v.kind,v.tx,x,v.slot,v.n,v.vals⟩ u:=heap_setCell_same h _
theorem EvB.Cu (h : EvB w g v u) (x : Int) : EvB (w.setCell ⟨g,3,none⟩ (.int .i64 x)) g ⟨v.kind,v.tx,v.page,x,v.n,v.vals⟩ u:=heap_setCell_same h _
theorem EvB.Xf (h : EvB w g v u) (x : Int) : EvB (w.setCell ⟨g,4,none⟩ (.int .i64 x)) g ⟨v.kind,v.tx,v.page,v.slot,x,v.vals⟩ u:=heap_setCell_same h _
theorem EvB.Y8 (h : EvB w g v u) (x : Value) : EvB (w.setCell ⟨g,5,none⟩ x) g v x:=heap_setCell_same h _
end
theorem EvB.mk1 (w : World) (v : Evt) (u : Value) : EvB (w.alloc (.cells #[.int .i64 v.kind, .int .i64 v.tx, .int .i64 v.page, .int .i64 v.slot, .int .i64 v.n,u] 35)) w.heap.size v u:=by
  show (w.heap.push _)[w.heap.size]? = _
  simp
abbrev Ob (w : World) (g : Nat) (p : Evt) (u : Value) : World:=(((((w.setCell ⟨g,0,none⟩ (.int .i64 p.kind)).setCell ⟨g,1,none⟩ (.int .i64 p.tx)).setCell ⟨g,2,none⟩ (.int .i64 p.page)).setCell ⟨g,3,none⟩ (.int .i64 p.slot)).setCell ⟨g,4,none⟩ (.int .i64 p.n)).setCell ⟨g,5,none⟩ u
theorem EvB.Ob {w : World} {g : Nat} {q : Evt} {u : Value} (h : EvB w g q u) (p : Evt) (v : Value) : EvB (Ob w g p v) g p v:=(((((h.set0 p.kind).set1 p.tx).set2 p.page).Cu p.slot).Xf p.n).Y8 v
theorem AV.Ob {w : World} {b g : Nat} {v : Value} {xs : List Int} (h : AV w b v xs) (hg : g < b) (p : Evt) (u : Value) : AV (Go.Proofs.YtpjmlpmhgfghbaaGreat.Ob w g p u) b v xs:=(((((h.set hg _ _).set hg _ _).set hg _ _).set hg _ _).set hg _ _).set hg _ _
theorem VN {w0 w : World} {g : Nat} (h : Below w0.heap.size w0 w) (hg : w0.heap.size ≤ g) (p : Evt) (u : Value) : Below w0.heap.size w0 (Ob w g p u):=(((((h.setCell (p:=⟨g,0,none⟩) hg _).setCell (p:=⟨g,1,none⟩) hg _).setCell (p:=⟨g,2,none⟩) hg _).setCell (p:=⟨g,3,none⟩) hg _).setCell (p:=⟨g,4,none⟩) hg _).setCell (p:=⟨g,5,none⟩) hg _
def Yc (w : World) (p : Evt) (e : Ending) (w' : World) : Prop := ∃ u,e = .returned (p.own u) ∧ AV w' w.heap.size u p.vals ∧ Below w.heap.size w w'
set_option maxRecDepth 100000 in
set_option maxHeartbeats 4000000 in
theorem O9 {w0 w : World} {A : Option Addr} {c : Nat} {p : Evt} (hl : p.vals.length ≤ 1048576) (hb : Below w0.heap.size w0 w) (hr : Kd.C (Kd.int .i64) w0 A p.vals.length p.vals) : Calls Tryz.prog 58 #[p.val A c] w (Yc w p):=by
  have HR:=As (Bu hr hb)
  have HL:=As hl
  clear hr hb hl
  obtain ⟨W1,hW1⟩ : ∃ W1,w.alloc (.cells #[.int .i64 p.kind, .int .i64 p.tx, .int .i64 p.page, .int .i64 p.slot, .int .i64 p.n, .slice A p.vals.length c] 76) = W1:=⟨_,rfl⟩
  obtain ⟨W2,hW2⟩ : ∃ W2,W1.alloc (.cells #[.int .i64 0, .int .i64 0, .int .i64 0, .int .i64 0, .int .i64 0, .slice none 0 0] 35) = W2:=⟨_,rfl⟩
  obtain ⟨W3,hW3⟩ : ∃ W3,W2.alloc (.cells #[.int .i64 p.kind, .int .i64 p.tx, .int .i64 p.page, .int .i64 p.slot, .int .i64 p.n, .slice none 0 0] 35) = W3:=⟨_,rfl⟩
  have Z1 : W1.heap.size = w.heap.size + 1:=by rw [← hW1,BF]
  have Z2 : W2.heap.size = w.heap.size + 1 + 1:=by rw [← hW2,BF,Z1]
  have Z3 : W3.heap.size = w.heap.size + 3:=by rw [← hW3,BF,Z2]
  have hP3 : EvB W3 (w.heap.size + 1) v0 (.slice none 0 0):=by
    have:=EvB.mk1 W1 v0 (.slice none 0 0)
    rw [Z1] at this
    have h2 : EvB W2 (w.heap.size + 1) v0 (.slice none 0 0):=by rw [← hW2];exact this
    rw [← hW3]
    exact h2.up (Ah (Below.refl _ _) _)
  have hO3 : EvB W3 (w.heap.size + 1 + 1) p (.slice none 0 0):=by
    have:=EvB.mk1 W2 p (.slice none 0 0)
    rw [Z2] at this
    rw [← hW3]
    exact this
  have hB3 : Below w.heap.size w W3:=by
    rw [← hW3, ← hW2, ← hW1]
    exact Ah (Ah (Ah (Below.refl _ _) _) _) _
  have HW3 : Ac (((w.alloc (.cells #[.int .i64 p.kind, .int .i64 p.tx, .int .i64 p.page, .int .i64 p.slot, .int .i64 p.n, .slice A p.vals.length c] 76)).alloc (.cells #[.int .i64 0, .int .i64 0, .int .i64 0, .int .i64 0, .int .i64 0, .slice none 0 0] 35)).alloc (.cells #[.int .i64 p.kind, .int .i64 p.tx, .int .i64 p.page, .int .i64 p.slot, .int .i64 p.n, .slice none 0 0] 35) = W3):=⟨by rw [hW1,hW2,hW3]⟩
  have HP3:=As hP3
  have HO3:=As hO3
  have HB3:=As hB3
  have HZ3:=As Z3
  clear hW1 hW2 hW3 Z1 Z2 Z3 hP3 hO3 hB3
  go_enter Tryz.func58,Tryz.ntmps58
  go_wp2_with (go_at_call 116;rw [HW3.out];refine (Ph HL.out HB3.out HR.out).mono ?_;rintro e w4 ⟨v,rfl,ho,hb4⟩;obtain ⟨A1,c1,rfl, -, -⟩:=ho.reads;have HO:=As ho;have HP4:=As (HP3.out.up hb4);have HO4:=As (HO3.out.up hb4);have HB4:=As (bj HB3.out hb4);have y0:=HP4.out.c0;have y1:=HP4.out.c1;have y2:=HP4.out.c2;have y3:=HP4.out.c3;have y4:=HP4.out.c4;have y5:=HP4.out.c5;have f0:=HP4.out.frz 0;have f1:=HP4.out.frz 1;have f2:=HP4.out.frz 2;have f3:=HP4.out.frz 3;have f4:=HP4.out.frz 4;have f5:=HP4.out.frz 5;have q0:=HO4.out.c0;have q1:=HO4.out.c1;have q2:=HO4.out.c2;have q3:=HO4.out.c3;have q4:=HO4.out.c4;have q5:=HO4.out.c5;have g5:=HO4.out.frz 5;clear ho hb4)
  have h1:=(HO.out.set (g:=w.heap.size + 1 + 1) (by have:=HZ3.out;omega) (.slice A1 p.vals.length c1) 5).Ob (g:=w.heap.size + 1) (by have:=HZ3.out;omega) p (.slice A1 p.vals.length c1)
  have h2:=VN (g:=w.heap.size + 1) (HB4.out.setCell (p:=⟨w.heap.size + 1 + 1,5,none⟩) (by simp;omega) (.slice A1 p.vals.length c1)) (by omega) p (.slice A1 p.vals.length c1)
  have hy:=(HP4.out.far (b:=w.heap.size + 1 + 1) (by omega) 5 (.slice A1 p.vals.length c1)).Ob p (.slice A1 p.vals.length c1)
  have z0:=hy.c0
  have z1:=hy.c1
  have z2:=hy.c2
  have z3:=hy.c3
  have z4:=hy.c4
  have z5:=hy.c5
  exact bodyPost_ret (v:=p.own (.slice A1 p.vals.length c1)) (by simp [results,Tryz.results58,go_sem,z0,z1,z2,z3,z4,z5]) rfl ⟨_,rfl,h1.lower (by have:=HZ3.out;omega),h2⟩
theorem Sc {w : World} {base : Nat} {ok : Nat → Prop} {x : Evt} {cs : List Value} (h : Ik.M w base ok x cs) : ∃ v,cs = [.int .i64 x.kind, .int .i64 x.tx, .int .i64 x.page, .int .i64 x.slot, .int .i64 x.n,v] ∧ (Kd.int .i64).R 3 w base ok v x.vals:=by
  obtain ⟨_,_,rfl,rfl,⟨_,_,rfl,rfl,⟨_,_,rfl,rfl,⟨_,_,rfl,rfl,⟨_,_,rfl,rfl,⟨v2,rfl,g2⟩⟩⟩⟩⟩⟩:=h
  exact ⟨v2,rfl,g2⟩
theorem Lm (w : World) (base : Nat) (ok : Nat → Prop) (x : Evt) {v : Value} (g2 : (Kd.int .i64).R 3 w base ok v x.vals) : Ik.M w base ok x [.int .i64 x.kind, .int .i64 x.tx, .int .i64 x.page, .int .i64 x.slot, .int .i64 x.n,v]:=⟨[.int .i64 x.kind], [.int .i64 x.tx, .int .i64 x.page, .int .i64 x.slot, .int .i64 x.n,v],rfl,rfl,⟨[.int .i64 x.tx], [.int .i64 x.page, .int .i64 x.slot, .int .i64 x.n,v],rfl,rfl,⟨[.int .i64 x.page], [.int .i64 x.slot, .int .i64 x.n,v],rfl,rfl,⟨[.int .i64 x.slot], [.int .i64 x.n,v],rfl,rfl,⟨[.int .i64 x.n], [v],rfl,rfl,⟨v,rfl,g2⟩⟩⟩⟩⟩⟩
/-- A row of events of the call's own, no two of which share their values; their blocks are ok. -/
abbrev Ja (w : World) (base : Nat) (ok : Nat → Prop) (v : Value) (vs : List Evt) : Prop:=Kd.S Ik 35 w base ok v vs
abbrev Rt (w : World) (base : Nat) (v : Value) (vs : List Evt) : Prop:=Ja w base (fun _ => True) v vs
def XZ (w : World) (vs : List Evt) (e : Ending) (w' : World) : Prop := ∃ v,e = .returned v ∧ Rt w' w.heap.size v vs ∧ Below w.heap.size w w'
theorem Vy : (Tryz.prog.info? 35).map (fun i => (i.zero,i.size,i.bytes)) = some (some (.agg #[.int .i64 0, .int .i64 0, .int .i64 0, .int .i64 0, .int .i64 0, .slice none 0 0]),6,64):=by kernel_rfl
theorem Rz : Tryz.prog.underlying 23 = some (.slice 35):=Tryz.underlying23
theorem Sn {l : List Evt} {k : Nat} (h : k < l.length) : l[k]? = some (ev l k):=by
  simp [ev,List.getD_eq_getElem?_getD,h]
theorem WU {w : World} {base : Nat} {ok : Nat → Prop} {v : Value} {ps : List Evt} (h : Ja w base ok v ps) : ∀ k,v.ownBlock = some k → ok k:=by
  obtain ⟨f,h0,_⟩:=h
  exact h0
theorem Qi {w : World} {b : Nat} {ok : Nat → Prop} {v : Value} {ps : List Evt} (h : Ja w b ok v ps) (hn : 0 < ps.length) : ∃ g cap,v = .slice (some ⟨g,0,none⟩) ps.length cap ∧ b ≤ g ∧ g < w.heap.size:=by
  obtain ⟨g,cap,h1,h2,h3, -⟩:=Kd.VQ h hn
  exact ⟨g,cap,h1,h2,h3⟩
section
variable {ops : Array Oper} {rest : List Oper} {o : Oper} {a : Act} {Q : Exit → Act → World → Prop}
/-- out[i] = v, v an event of the call's own whose values are from N on, the row's blocks elder. -/
theorem Sm {w0 W : World} {g n cap N : Nat} {ps : List Evt} {q : Evt} {v : Value} {ok : Nat → Prop} (i : Nat) (hn : ps.length = n) (hN : o.dst = none) (hgd : o.guard = none) (s x : Operand) (ho : o.op = .store 35 s x)
    (haddr : a.eval s = .pointer (some ⟨g,i * 6,none⟩)) (hx : a.eval x = q.own v) (hp : AV W N v q.vals) (hN0 : w0.heap.size ≤ N) (HO : Ja W w0.heap.size (fun k => ok k ∧ k < N) (.slice (some ⟨g,0,none⟩) n cap) ps) (hi : i < n) (HB : Below w0.heap.size w0 W)
    (h : ∀ w1,Ja w1 w0.heap.size (fun k => ok k ∨ some k = v.ownBlock) (.slice (some ⟨g,0,none⟩) n cap) (ps.set i q) → Below w0.heap.size w0 w1 → W.grownBy w1 (some g) → wpList Tryz.prog ops Q rest a w1) : wpList Tryz.prog ops Q (o :: rest) a W:=by
  subst hn
  have hgN:=WU HO g rfl
  obtain ⟨f,hf,hR⟩:=Kd.TW HO i (fun k => some k = v.ownBlock) (fun k hk h2 => by have:=Cq hp k hk.symm;omega)
  have hR2:=Kd.Eh (ok':=fun k => ok k ∨ some k = v.ownBlock) hR (fun k hk => .inl hk.1)
  obtain ⟨c,hl,hM,hc,hfz⟩:=Kd.Ml hR2 (v0,0) (i : Int) (by omega) (by omega)
  obtain ⟨A1,c1,rfl,_,_⟩:=AV.reads hp
  refine Kd.Q9 (Kd.tag f Ik) w0.heap.size hN hgd 35 s x ho _ (i : Int) 0 ps.zipIdx (q,i) _ [.int .i64 q.kind, .int .i64 q.tx, .int .i64 q.page, .int .i64 q.slot, .int .i64 q.n, .slice A1 q.vals.length c1] c (fun k => ok k ∨ some k = (Value.slice A1 q.vals.length c1).ownBlock) (fun k => some k = (Value.slice A1 q.vals.length c1).ownBlock) haddr (by rw [Nat.add_zero];rfl) hx rfl (by kernel_rfl) (by simp [Value.oneCell']) hR2 (by omega) (by omega) hl hc (Nat.le_refl 6) ?_ (fun k hk => ⟨.inr hk,fun e => ?_⟩) HB (fun w1 h1 h2 h3 => ?_)
  · have hl3 : c.length = 6:=hl
    rw [List.take_zero,List.nil_append,List.drop_of_length_le (by simp [hl3]),List.append_nil]
    exact Lm W _ _ q (Kd.G5 (En hp hN0) (fun k hk => ⟨hk.symm,hf k hk.symm⟩))
  · have h1:=Cq hp k hk.symm
    omega
  · refine h w1 ⟨f,?_⟩ h2 h3
    rw [P9]
    exact h1
end
set_option maxRecDepth 100000 in
set_option maxHeartbeats 4000000 in
theorem F9 {w0 w : World} {A : Option Addr} {c : Nat} {xs : List Evt} (hl : WL xs) (hb : Below w0.heap.size w0 w) (hr : Kd.C Ik w0 A xs.length xs) : Calls Tryz.prog 21 #[.slice A xs.length c] w (XZ w xs):=by
  have HR:=As (Bu hr hb)
  have HL:=As hl
  have hm:=(CJ hr).2
  clear hr hb hl
  go_enter Tryz.func21,Tryz.ntmps21
  go_wp2_with (at_make;refine Kd.Xw Ik w.heap.size 35 rfl (N:=7) rfl 23 (.tmp 6) (.tmp 6) rfl (xs.length : Int) rfl rfl Rz (.agg #[.int .i64 0, .int .i64 0, .int .i64 0, .int .i64 0, .int .i64 0, .slice none 0 0]) 64 Vy rfl (by decide) (by decide) v0 (ok:=fun _ => True) (okp:=fun _ => False) ?hz (fun _ _ => trivial) trivial (by omega) (by have:=HL.out.1;simp;omega) (Below.refl _ _) (Nat.le_refl _) ?hn;exact Lm _ _ _ v0 (Kd.U3 _ _ _ _ _);intro v w1 hv hb1 _ _;have HO:=As hv;have HB:=As hb1;clear hv hb1)
  go_loopw [4] (fun i wr => ∃ (k : Nat) (ys : List Evt),k ≤ xs.length ∧ i = .int .i64 (k : Int) ∧ Ac (Rt wr w.heap.size v ys) ∧ Ac (ys.length = xs.length ∧ ys.take k = xs.take k) ∧ Ac (Below w.heap.size w wr)) (fun i _ => (xs.length - intOf i).toNat)
  case atStart => exact ⟨0,_,Nat.zero_le _,rfl,HO,⟨by simp,by simp⟩,HB⟩
  case round =>
    obtain ⟨k,ys,hk,rfl,HO2,HY,HW⟩:=hrel
    by_cases hlt : k < xs.length
    · obtain ⟨ad,A2,c2,rfl,QP, -,g2⟩:=Mj (Bu HR.out HW.out) k hlt
      obtain ⟨x0,x1,x2,x3,x4,x5⟩:=QP
      have HG:=As g2
      have HF:=As (HL.out.2 _ (List.mem_of_getElem? (Sn hlt)))
      clear g2
      have ho:=HO2.out
      obtain ⟨g,cap,hv,hgb,hgl⟩:=Qi ho (by rw [HY.out.1];omega)
      rw [HY.out.1] at hv
      subst hv
      have HT:=As (take_set HY.out.2 HY.out.1 (Sn hlt))
      have HYL:=As HY.out.1
      clear hgb hgl ho HY
      go_wp2_with (first | (go_at_call 58;refine (O9 HF.out (Below.refl _ wr) HG.out).mono ?_;rintro e w4 ⟨u,rfl,hu,hb4⟩;have HU:=As hu;have HW4:=As hb4;clear hu hb4) | (with_reducible refine MP (.store 35 (.tmp 21) (.tmp 20)) rfl ?_;refine Sm (ok:=fun _ => True) (w0:=w) (N:=wr.heap.size) (q:=ev xs k) k HYL.out rfl rfl (.tmp 21) (.tmp 20) rfl rfl rfl HU.out HW.out.size (Kd.DC HO2.out HW4.out) hlt (bj HW.out HW4.out) ?_;intro w9 hO9 hB9 hg9;have HO9:=As (Kd.DN (ok':=fun _ => True) hO9 (fun _ _ => trivial));have HB9:=As hB9;clear hO9 hB9 hg9))
      go_roundw
      case rel => exact ⟨k + 1,_,by omega,by go_num,HO9,⟨by rw [List.length_set,HYL.out],HT.out⟩,HB9⟩
      case measure => simp [intOf];omega
    · have HE:=As (show k = xs.length by omega)
      go_wp2
      go_ret
      have hy:=HY.out
      rw [HE.out,List.take_length,List.take_of_length_le (by omega)] at hy
      exact ⟨_,rfl,by rw [← hy.2];exact HO2.out,HW.out⟩
end Go.Proofs.YtpjmlpmhgfghbaaGreat
/- The statements' comparisons of events: eqEvent, eqEventS. -/
namespace Go.Proofs.YtpjmlpmhgfghbaaGreat
open Go.RowKit Go.Proofs.YtpjmlpmhgfghbaaGreatW.PrintWords Go.Proofs.YtpjmlpmhgfghbaaGreatW.PrintLast Go.Proofs.YtpjmlpmhgfghbaaGreatW.PrintMore
theorem U4.up {w w1 : World} {a : Addr} {v : Evt} {A : Option Addr} {c : Nat} (h : U4 w a v A c) (hb : Below w.heap.size w w1) : U4 w1 a v A c:=⟨bc hb h.c0,bc hb h.c1,bc hb h.c2,bc hb h.c3,bc hb h.c4,bc hb h.c5⟩
set_option maxRecDepth 100000 in
set_option maxHeartbeats 4000000 in
theorem Oo {w0 w1 w : World} {A B : Option Addr} {c d : Nat} {p : Evt} (hb : Below w0.heap.size w0 w) (hr : Kd.C (Kd.int .i64) w0 A p.vals.length p.vals) (hb1 : Below w1.heap.size w1 w) (hr2 : Kd.C (Kd.int .i64) w1 B p.vals.length p.vals) : Calls Tryz.prog 63 #[p.val A c,p.val B d] w (Mk w):=by
  have HR:=As (Bu hr hb)
  have HR2:=As (Bu hr2 hb1)
  have HW:=As (show Below w.heap.size w ((w.alloc (.cells #[.int .i64 p.kind, .int .i64 p.tx, .int .i64 p.page, .int .i64 p.slot, .int .i64 p.n, .slice A p.vals.length c] 35)).alloc (.cells #[.int .i64 p.kind, .int .i64 p.tx, .int .i64 p.page, .int .i64 p.slot, .int .i64 p.n, .slice B p.vals.length d] 35)) from Ah (Ah (Below.refl _ _) _) _)
  have h1:=Ff p.kind
  have h2:=Ff p.tx
  have h3:=Ff p.page
  have h4:=Ff p.slot
  have h5:=Ff p.n
  clear hr hb hr2 hb1
  go_enter Tryz.func63,Tryz.ntmps63
  go_wp2_with (first | (go_at_call 122;refine (LA HW.out HR.out HW.out HR2.out).mono ?_;rintro x w9 ⟨rfl,hb9⟩;have HX:=As (bj HW.out hb9);clear hb9))
  go_ret
  exact ⟨rfl,HX.out⟩
set_option maxRecDepth 100000 in
set_option maxHeartbeats 4000000 in
theorem NY {w0 w1 w : World} {A B : Option Addr} {c d : Nat} {xs : List Evt} (hb : Below w0.heap.size w0 w) (hr : Kd.C Ik w0 A xs.length xs) (hb1 : Below w1.heap.size w1 w) (hr2 : Kd.C Ik w1 B xs.length xs) : Calls Tryz.prog 24 #[.slice A xs.length c, .slice B xs.length d] w (Mk w):=by
  have HR:=As (Bu hr hb)
  have HR2:=As (Bu hr2 hb1)
  have hm:=(CJ hr).2
  have hne:=Ff xs.length
  clear hr hb hr2 hb1
  go_enter Tryz.func24,Tryz.ntmps24
  go_wp2
  go_loopw [5] (fun i wr => ∃ k : Nat,k ≤ xs.length ∧ i = .int .i64 (k : Int) ∧ Ac (Below w.heap.size w wr)) (fun i _ => (xs.length - intOf i).toNat)
  case atStart => exact ⟨0,Nat.zero_le _,rfl,⟨Below.refl _ _⟩⟩
  case round =>
    obtain ⟨k,hk,rfl,HW⟩:=hrel
    by_cases hlt : k < xs.length
    · obtain ⟨ad,A2,c2,rfl,QP, -,g2⟩:=Mj (Bu HR.out HW.out) k hlt
      obtain ⟨bd,B2,d2,rfl,QP2, -,h2⟩:=Mj (Bu HR2.out HW.out) k hlt
      have G2:=As g2
      have H2:=As h2
      have HQ:=As QP
      have HQ2:=As QP2
      clear g2 h2 QP QP2
      go_wp2
      refine Bo (fun w' => Below wr.heap.size wr w') rfl rfl (by kernel_rfl) (Ak (Below.refl _ _)) (fun HT => ?_)
      repeat (first
        | (refine BU (fun wx hS => ?_))
        | ((with_reducible refine Bw (f:=63) rfl ?_);refine Bz (v:=.bool true) (args:=#[(ev xs k).val A2 c2,(ev xs k).val B2 d2]) HT rfl Tryz.func63 (by kernel_rfl) rfl rfl (by rfl) (fun _ _ _ h => h) (by simp only [List.map_toArray,List.map_cons,List.map_nil];rfl) (fun wx hS => (Oo hS G2.out hS H2.out).mono fun _ _ h => ⟨h.1,bj hS h.2⟩) ?_;simp only [sc0,sc1])
        | (refine BK HT rfl (by rfl) (fun _ _ _ h => h) ?_;simp only [sc0,sc1])
        | (refine BS (v:=?_) HT rfl (by rfl) (fun _ _ _ h => h) (fun wx hS => ?_) ?_;rotate_left;(obtain ⟨x0,x1,x2,x3,x4,x5⟩:=HQ.out.up hS;obtain ⟨y0,y1,y2,y3,y4,y5⟩:=HQ2.out.up hS;go_simp;with_reducible rfl);rotate_left;simp only [sc0,sc1]))
      have HX:=As (bj HW.out hS)
      clear hS
      go_wp2
      go_roundw
      case rel => exact ⟨k + 1,by omega,by go_num,HX⟩
      case measure => simp [intOf];omega
    · have HE:=As (show k = xs.length by omega)
      go_wp2
      go_ret
      exact ⟨rfl,HW.out⟩
theorem Gy {P : Program} {ops : Array Oper} {l : List Oper} {Q : Exit → Act → World → Prop} {a : Act} (W : World) (h : ∀ w1,W = w1 → wpList P ops Q l a w1) : wpList P ops Q l a W:=h W rfl
theorem VG {ps : List Evt} {i j : Nat} {q : Evt} (h : i < ps.length) : ev (ps.set i q) j = if i = j then q else ev ps j:=by
  simp only [ev,List.getD_eq_getElem?_getD,List.getElem?_set]
  split
  · rename_i e;subst e;simp [h]
  · rfl
section
variable {w w1 : World} {b g n cap : Nat} {ok : Nat → Prop} {vs : List Evt}
/-- An event of a row of one's own: its cells; what it is when its fields, or its values, were written. -/
theorem WV (h : Ja w b ok (.slice (some ⟨g,0,none⟩) n cap) vs) {i : Nat} (hi : i < n) :
    ∃ (oki : Nat → Prop) (v : Value),(∀ k,oki k → ok k ∧ k ≠ g) ∧ ok g ∧ RI w b oki v (ev vs i).vals ∧ w.cell? ⟨g,i * 6 + 5,none⟩ = some v ∧ (∀ m,m < 5 → ∃ u,w.cell? ⟨g,i * 6 + m,none⟩ = some u) ∧ (∀ j,w.frozen? ⟨g,i * 6 + j,none⟩ = false) ∧
      Kd.H Ik 35 w b ok (.slice (some ⟨g,0,none⟩) n cap) vs (i : Int) oki [.int .i64 (ev vs i).kind, .int .i64 (ev vs i).tx, .int .i64 (ev vs i).page, .int .i64 (ev vs i).slot, .int .i64 (ev vs i).n,v]:=by
  obtain ⟨oki,c,hcl,hM,hcc,hfr,hok,hH⟩:=Kd.VR h v0 (i : Int) (by omega) (by omega)
  rw [Int.toNat_natCast] at hM hcc hfr
  obtain ⟨v,rfl,hv⟩:=Sc hM
  exact ⟨oki,v,hok,WU h g rfl,hv,hcc 5 _ rfl,fun m hm => ⟨_,hcc m _ (List.getElem?_eq_getElem (show m < 6 by omega))⟩,fun j => hfr j,hH⟩
/-- Its five numbers are written. -/
theorem Wm {oki : Nat → Prop} {v : Value} {i : Nat} (hi : i < n) (x0 x1 x2 x3 x4 : Int) (hv : RI w b oki v (ev vs i).vals) (hH : Kd.H Ik 35 w b ok (.slice (some ⟨g,0,none⟩) n cap) vs (i : Int) oki [.int .i64 (ev vs i).kind, .int .i64 (ev vs i).tx, .int .i64 (ev vs i).page, .int .i64 (ev vs i).slot, .int .i64 (ev vs i).n,v]) :
    Ja (((((w.setCell ⟨g,i * 6,none⟩ (.int .i64 x0)).setCell ⟨g,i * 6 + 1,none⟩ (.int .i64 x1)).setCell ⟨g,i * 6 + 2,none⟩ (.int .i64 x2)).setCell ⟨g,i * 6 + 3,none⟩ (.int .i64 x3)).setCell ⟨g,i * 6 + 4,none⟩ (.int .i64 x4)) b ok (.slice (some ⟨g,0,none⟩) n cap) (vs.set i ⟨x0,x1,x2,x3,x4,(ev vs i).vals⟩):=by
  have:=(Kd.SE (seg := [.int .i64 x0, .int .i64 x1, .int .i64 x2, .int .i64 x3, .int .i64 x4]) (j:=0) (x':=⟨x0,x1,x2,x3,x4,(ev vs i).vals⟩) (okp:=oki) hH (by omega) (by omega) (by show 0 + 5 ≤ 6;decide) (Lm w b oki ⟨x0,x1,x2,x3,x4,(ev vs i).vals⟩ hv) (fun _ hk => hk)).1
  rw [Int.toNat_natCast] at this
  exact this
/-- Its values are. -/
theorem Wl {oki : Nat → Prop} {v : Value} {i : Nat} {xs : List Int} (hH : Kd.H Ik 35 w b ok (.slice (some ⟨g,0,none⟩) n cap) vs (i : Int) oki [.int .i64 (ev vs i).kind, .int .i64 (ev vs i).tx, .int .i64 (ev vs i).page, .int .i64 (ev vs i).slot, .int .i64 (ev vs i).n,v]) (hv : RI w1 b oki v xs) (hk : Kept w w1 (fun m => some m = v.ownBlock)) : Ja w1 b ok (.slice (some ⟨g,0,none⟩) n cap) (vs.set i { ev vs i with vals:=xs }):=by
  have h1:=Kd.Wi hH hk (fun k _ hn e => hn (hv.1 k e.symm))
  have:=Kd.SI h1 (Lm w1 b oki { ev vs i with vals:=xs } hv) (fun _ hk => hk)
  rw [Int.toNat_natCast] at this
  exact this
end
/-- How many numbers the first j events hold. -/
def Mc (vs : List Evt) : Nat → Nat
  | 0 => 0
  | j + 1 => Mc vs j + (5 + (ev vs j).vals.length)
theorem Tt {vs : List Evt} {N : Nat} (h : ∀ v ∈ vs,v.vals.length ≤ N) : ∀ j,j ≤ vs.length → Mc vs j ≤ j * (5 + N)
  | 0,_ => by simp [Mc]
  | j + 1,hj => by
    have h1:=Tt h j (by omega)
    have h2:=h (ev vs j) (by simp [ev,List.getD_eq_getElem?_getD,show j < vs.length by omega])
    rw [Mc,Nat.succ_mul];omega
theorem Vl {vs : List Evt} (h : WL vs) {j : Nat} (hj : j ≤ vs.length) : Mc vs j ≤ 2000000000000:=by
  have h1:=Tt h.2 j hj
  have h2 : j * (5 + 1048576) ≤ 1048576 * (5 + 1048576):=Nat.mul_le_mul_right _ (Nat.le_trans hj h.1)
  omega
def XB (w : World) (ok : Nat → Prop) (vs : List Evt) (k : Int) (x : Ending) (w' : World) : Prop:=x = .returned (.int .i64 (k + (Mc vs vs.length : Int))) ∧ Wrote w w' ok
set_option maxRecDepth 100000 in
set_option maxHeartbeats 8000000 in
theorem Md {w : World} {b : Nat} {ok : Nat → Prop} {v : Value} {vs : List Evt} (k : Int) (hk0 : 0 ≤ k) (hk1 : k ≤ 1000000) (hf : WL vs) (h : Ja w b ok v vs) : Calls Tryz.prog 25 #[v, .int .i64 k] w (XB w ok vs k):=by
  obtain ⟨A,c,hv, -,hC⟩:=Kd.Cn h
  have hm:=(CJ hC).2
  have HR:=As h
  have HF:=As hf
  subst hv
  clear h hC hf
  go_enter Tryz.func25,Tryz.ntmps25
  go_wp2
  go_loopw [1,5] (fun x i wr => ∃ (j : Nat) (ys : List Evt),j ≤ vs.length ∧ x = .int .i64 (k + Mc vs j) ∧ i = .int .i64 (j : Int) ∧ Ac (Ja wr b ok (.slice A vs.length c) ys) ∧ Ac (ys.length = vs.length ∧ ∀ m,m < vs.length → (ev ys m).vals.length = (ev vs m).vals.length) ∧ Ac (Wrote w wr ok)) (fun _ i _ => (vs.length - intOf i).toNat)
  case atStart => exact ⟨0,vs,Nat.zero_le _,by simp [Mc],rfl,HR,⟨rfl,fun m hm => rfl⟩,⟨Wrote.refl _ _⟩⟩
  case round =>
    obtain ⟨j,ys,hj,rfl,rfl,HY,HL,HG⟩:=hrel
    by_cases hlt : j < vs.length
    · have hy:=HY.out
      obtain ⟨g,cap,hv, -, -⟩:=Qi hy (by rw [HL.out.1];omega)
      rw [HL.out.1] at hv
      injection hv with h1 h2 h3
      subst h1 h3
      have hst:=Vl HF.out (Nat.le_of_lt hlt)
      have hof : (Mc vs (j + 1) : Int) = Mc vs j + (5 + (ev vs j).vals.length : Nat):=by rw [Mc];omega
      obtain ⟨oki,v,hok,hg,hv,a5,hcl,hfr,hH⟩:=WV hy hlt
      obtain ⟨z,hz⟩ : ∃ z,k + (Mc vs j : Int) = z:=⟨_,rfl⟩
      have f0:=hfr 0
      obtain ⟨u0,d0⟩:=hcl 0 (by decide)
      simp only [Nat.add_zero] at f0 d0
      have HC:=As (fun m (_ : 0 ≤ m) (h : m < 5) => hcl m h)
      obtain ⟨zs,hzs⟩ : ∃ zs,ys.set j ⟨z,z + 1,z + 1 + 1,z + 1 + 1 + 1,z + 1 + 1 + 1 + 1,(ev ys j).vals⟩ = zs:=⟨_,rfl⟩
      have s5:=Wm hlt z (z + 1) (z + 1 + 1) (z + 1 + 1 + 1) (z + 1 + 1 + 1 + 1) hv hH
      rw [hzs] at s5
      have key : ∀ W5,(((((wr.setCell ⟨g,j * 6,none⟩ (.int .i64 z)).setCell ⟨g,j * 6 + 1,none⟩ (.int .i64 (z + 1))).setCell ⟨g,j * 6 + 2,none⟩ (.int .i64 (z + 1 + 1))).setCell ⟨g,j * 6 + 3,none⟩ (.int .i64 (z + 1 + 1 + 1))).setCell ⟨g,j * 6 + 4,none⟩ (.int .i64 (z + 1 + 1 + 1 + 1))) = W5 → Ja W5 b ok (.slice (some ⟨g,0,none⟩) vs.length c) zs ∧ Wrote w W5 ok ∧ W5.cell? ⟨g,j * 6 + 5,none⟩ = some v:=fun W5 e => by
        subst e
        refine ⟨s5,(((((HG.out.setCell (p:=⟨g,j * 6,none⟩) (.inl hg) (.int .i64 (z))).setCell (p:=⟨g,j * 6 + 1,none⟩) (.inl hg) (.int .i64 (z + 1))).setCell (p:=⟨g,j * 6 + 2,none⟩) (.inl hg) (.int .i64 (z + 1 + 1))).setCell (p:=⟨g,j * 6 + 3,none⟩) (.inl hg) (.int .i64 (z + 1 + 1 + 1))).setCell (p:=⟨g,j * 6 + 4,none⟩) (.inl hg) (.int .i64 (z + 1 + 1 + 1 + 1))),?_⟩
        rw [World.cell?_setCell_other (h:=show (⟨g,j * 6 + 4,none⟩ : Addr) ≠ ⟨g,j * 6 + 5,none⟩ from fun e => by injection e;omega),World.cell?_setCell_other (h:=show (⟨g,j * 6 + 3,none⟩ : Addr) ≠ ⟨g,j * 6 + 5,none⟩ from fun e => by injection e;omega),World.cell?_setCell_other (h:=show (⟨g,j * 6 + 2,none⟩ : Addr) ≠ ⟨g,j * 6 + 5,none⟩ from fun e => by injection e;omega),World.cell?_setCell_other (h:=show (⟨g,j * 6 + 1,none⟩ : Addr) ≠ ⟨g,j * 6 + 5,none⟩ from fun e => by injection e;omega),World.cell?_setCell_other (h:=show (⟨g,j * 6,none⟩ : Addr) ≠ ⟨g,j * 6 + 5,none⟩ from fun e => by injection e;omega),a5]
      have hzl : zs.length = vs.length:=by rw [← hzs,List.length_set];exact HL.out.1
      have hzm : ∀ m,m < vs.length → (ev zs m).vals.length = (ev vs m).vals.length:=fun m hm => by
        rw [← hzs,VG (by rw [HL.out.1];exact hlt)]
        split
        · rename_i e;subst e;exact HL.out.2 j hm
        · exact HL.out.2 m hm
      have hvl:=hzm j hlt
      obtain ⟨xs,hxs⟩ : ∃ xs,(ev zs j).vals = xs:=⟨_,rfl⟩
      rw [hxs] at hvl
      have HXS:=As hxs
      have HKEY:=As key
      have HFR:=As hfr
      have HOF:=As hof
      have HZ:=As hz
      have HZL:=As (And.intro hzl (And.intro hzm hvl))
      have hb0 : 0 ≤ z:=by omega
      have hb1 : z ≤ 3000000000000:=by omega
      have w1 : IntKind.i64.wrap (z + 1) = z + 1:=by simp (disch:=omega) only [IntWalk.i64_in]
      have w2 : IntKind.i64.wrap (z + 1 + 1) = z + 1 + 1:=by simp (disch:=omega) only [IntWalk.i64_in]
      have w3 : IntKind.i64.wrap (z + 1 + 1 + 1) = z + 1 + 1 + 1:=by simp (disch:=omega) only [IntWalk.i64_in]
      have w4 : IntKind.i64.wrap (z + 1 + 1 + 1 + 1) = z + 1 + 1 + 1 + 1:=by simp (disch:=omega) only [IntWalk.i64_in]
      have w5 : IntKind.i64.wrap (z + 1 + 1 + 1 + 1 + 1) = z + 1 + 1 + 1 + 1 + 1:=by simp (disch:=omega) only [IntWalk.i64_in]
      have HN:=As (show 0 ≤ z + 1 + 1 + 1 + 1 + 1 ∧ z + 1 + 1 + 1 + 1 + 1 + xs.length ≤ 9000000000000000000 by have:=HF.out.2 (ev vs j) (List.mem_of_getElem? (Sn hlt));omega)
      rw [hz]
      clear hy hv hok hfr hcl hH hg h2 s5 hzs hzl hzm hvl hxs hof hst hz key a5 hb0 hb1
      go_wp2_with (first
        | (with_reducible refine Gy (wr.setCell ⟨g,j * 6,none⟩ (.int .i64 (z))) ?_;intro W1 hW1;have HW1:=As hW1;have HFR1 : Ac (∀ m,W1.frozen? ⟨g,j * 6 + m,none⟩ = false):=⟨fun m => by rw [← hW1];exact (World.frozen?_setCell _ _ _ _).trans (HFR.out m)⟩;have HC1 : Ac (∀ m,1 ≤ m → m < 5 → ∃ u,W1.cell? ⟨g,j * 6 + m,none⟩ = some u):=⟨fun m h1 h2 => (by obtain ⟨u,hu⟩:=HC.out m (by omega) h2;exact ⟨u,(by rw [← hW1,World.cell?_setCell_other (h:=show (⟨g,j * 6,none⟩ : Addr) ≠ ⟨g,j * 6 + m,none⟩ from fun e => by injection e;omega)];exact hu)⟩)⟩;clear hW1 f0 d0;have f1:=HFR1.out 1;obtain ⟨u1,d1⟩:=HC1.out 1 (by decide) (by decide))
        | (with_reducible refine Gy (W1.setCell ⟨g,j * 6 + 1,none⟩ (.int .i64 (z + 1))) ?_;intro W2 hW2;have HW2:=As hW2;have HFR2 : Ac (∀ m,W2.frozen? ⟨g,j * 6 + m,none⟩ = false):=⟨fun m => by rw [← hW2];exact (World.frozen?_setCell _ _ _ _).trans (HFR1.out m)⟩;have HC2 : Ac (∀ m,2 ≤ m → m < 5 → ∃ u,W2.cell? ⟨g,j * 6 + m,none⟩ = some u):=⟨fun m h1 h2 => (by obtain ⟨u,hu⟩:=HC1.out m (by omega) h2;exact ⟨u,(by rw [← hW2,World.cell?_setCell_other (h:=show (⟨g,j * 6 + 1,none⟩ : Addr) ≠ ⟨g,j * 6 + m,none⟩ from fun e => by injection e;omega)];exact hu)⟩)⟩;clear hW2 f1 d1;have f2:=HFR2.out 2;obtain ⟨u2,d2⟩:=HC2.out 2 (by decide) (by decide))
        | (with_reducible refine Gy (W2.setCell ⟨g,j * 6 + 2,none⟩ (.int .i64 (z + 1 + 1))) ?_;intro W3 hW3;have HW3:=As hW3;have HFR3 : Ac (∀ m,W3.frozen? ⟨g,j * 6 + m,none⟩ = false):=⟨fun m => by rw [← hW3];exact (World.frozen?_setCell _ _ _ _).trans (HFR2.out m)⟩;have HC3 : Ac (∀ m,3 ≤ m → m < 5 → ∃ u,W3.cell? ⟨g,j * 6 + m,none⟩ = some u):=⟨fun m h1 h2 => (by obtain ⟨u,hu⟩:=HC2.out m (by omega) h2;exact ⟨u,(by rw [← hW3,World.cell?_setCell_other (h:=show (⟨g,j * 6 + 2,none⟩ : Addr) ≠ ⟨g,j * 6 + m,none⟩ from fun e => by injection e;omega)];exact hu)⟩)⟩;clear hW3 f2 d2;have f3:=HFR3.out 3;obtain ⟨u3,d3⟩:=HC3.out 3 (by decide) (by decide))
        | (with_reducible refine Gy (W3.setCell ⟨g,j * 6 + 3,none⟩ (.int .i64 (z + 1 + 1 + 1))) ?_;intro W4 hW4;have HW4:=As hW4;have HFR4 : Ac (∀ m,W4.frozen? ⟨g,j * 6 + m,none⟩ = false):=⟨fun m => by rw [← hW4];exact (World.frozen?_setCell _ _ _ _).trans (HFR3.out m)⟩;have HC4 : Ac (∀ m,4 ≤ m → m < 5 → ∃ u,W4.cell? ⟨g,j * 6 + m,none⟩ = some u):=⟨fun m h1 h2 => (by obtain ⟨u,hu⟩:=HC3.out m (by omega) h2;exact ⟨u,(by rw [← hW4,World.cell?_setCell_other (h:=show (⟨g,j * 6 + 3,none⟩ : Addr) ≠ ⟨g,j * 6 + m,none⟩ from fun e => by injection e;omega)];exact hu)⟩)⟩;clear hW4 f3 d3;have f4:=HFR4.out 4;obtain ⟨u4,d4⟩:=HC4.out 4 (by decide) (by decide))
        | (with_reducible refine Gy (W4.setCell ⟨g,j * 6 + 4,none⟩ (.int .i64 (z + 1 + 1 + 1 + 1))) ?_;intro W5 hW5;rw [← HW4.out, ← HW3.out, ← HW2.out, ← HW1.out] at hW5;obtain ⟨s5,k5,e5⟩:=HKEY.out W5 hW5;obtain ⟨oki2,v2,hok2, -,hv2,c5, -, -,hH2⟩:=WV s5 hlt;have hvv:=e5.symm.trans c5;injection hvv with hvv;subst hvv;rw [HXS.out] at hv2;have HH:=As hH2;have HV2:=As (show RI W5 b oki2 v xs from hv2);have HK5:=As k5;have HOK2:=As (fun m hm => (hok2 m hm).1);clear s5 k5 hok2 hv2 c5 hH2 hW5 f4 d4)
        | (go_at_call 64;refine (JA (z + 1 + 1 + 1 + 1 + 1) HN.out.1 HN.out.2 HV2.out).mono ?_;rintro x w9 ⟨rfl,hv9,hk9⟩;have HS9:=As (Wl HH.out hv9 hk9.kept);have HK9:=As (HK5.out.D6 hk9 (fun m hm => .inl (HOK2.out m (hv9.1 m hm.symm))));clear hv9 hk9))
      go_roundw
      case rel =>
        refine ⟨j + 1,_,by omega,congrArg (Value.int .i64) (by have:=HOF.out;have:=HZ.out;have:=HZL.out.2.2;omega),by go_num,HS9,⟨by rw [List.length_set];exact HZL.out.1,fun m hm => ?_⟩,HK9⟩
        rw [VG (by rw [HZL.out.1];exact hlt)]
        split
        · rename_i e
          subst e
          show (mkI _ _).length = _
          rw [Ps]
          exact HZL.out.2.2
        · exact HZL.out.2.1 m hm
      case measure => simp [intOf];omega
    · have HE:=As (show j = vs.length by omega)
      go_wp2
      go_ret
      exact ⟨Cs (by rw [HE.out]),HG.out⟩
end Go.Proofs.YtpjmlpmhgfghbaaGreat
/- The reference's l1Empty, l11Lock. -/
namespace Go.Proofs.YtpjmlpmhgfghbaaGreat
open Go.RowKit Go.Proofs.YtpjmlpmhgfghbaaGreatW.PrintWords Go.Proofs.YtpjmlpmhgfghbaaGreatW.PrintLast Go.Proofs.YtpjmlpmhgfghbaaGreatW.PrintMore
set_option maxRecDepth 100000 in
set_option maxHeartbeats 4000000 in
theorem EK {w0 w : World} {A : Option Addr} {c : Nat} {p : Page} {b : Bool} (hv : EG p.vals = b) (hb : Below w0.heap.size w0 w) (hr : Kd.C (Kd.int .i64) w0 A p.vals.length p.vals) : Calls Tryz.prog 126 #[p.val A c] w fun x w' => x = .returned (.bool b) ∧ Below w.heap.size w w':=by
  have HR:=As (Bu hr hb)
  have HV:=As hv
  have hmx:=(CJ hr).2
  clear hr hb hv
  obtain ⟨w1,hw1⟩ : ∃ w1,w.alloc (Obj.cells #[Value.int IntKind.i64 p.lsn,Value.int IntKind.i64 p.owner,Value.slice A p.vals.length c] 81) = w1:=⟨_,rfl⟩
  have HB : Ac (Below w.heap.size w w1):=⟨by rw [← hw1];exact Ah (Below.refl _ _) _⟩
  have hq1 : AR w1 w.heap.size p (.slice A p.vals.length c):=by rw [← hw1];exact AR.mk1 _ _ _
  have x2:=hq1.c2
  have HW1:=As hw1
  clear hw1 hq1
  go_enter Tryz.func126,Tryz.ntmps126
  go_wp2
  rw [HW1.out]
  go_loop [3] (fun i => ∃ k : Nat,k ≤ p.vals.length ∧ i = .int .i64 (k : Int) ∧ Ac (∀ j,j < k → iv p.vals j = 0)) (fun i => (p.vals.length - intOf i).toNat)
  case atStart => exact ⟨0,Nat.zero_le _,rfl,⟨fun j hj => by omega⟩⟩
  case round =>
    obtain ⟨k,hk,rfl,HK⟩:=hrel
    by_cases hlt : k < p.vals.length
    · obtain ⟨ad,rfl,g0⟩:=Dg HR.out k hlt
      replace g0:=bc HB.out g0
      rcases BO (iv p.vals k) 0 with ⟨e1,b1,c1⟩ | ⟨e1,b1,c1⟩
      · go_wp2
        go_round
        case rel => exact ⟨k + 1,by omega,by go_num,⟨fun j hj => by
          rcases Nat.lt_succ_iff_lt_or_eq.1 hj with h | h
          · exact HK.out j h
          · rw [h];exact e1.out⟩⟩
        case measure => simp [intOf];omega
      · go_wp2
        go_ret
        exact ⟨AB (by
          rw [← HV.out]
          cases hz : EG p.vals
          · rfl
          · exact absurd (JJ.1 hz _ (by rw [iv,List.getD_eq_getElem?_getD,List.getElem?_eq_getElem hlt];exact List.getElem_mem hlt)) e1.out),HB.out⟩
    · have hke : k = p.vals.length:=by omega
      go_wp2
      go_ret
      exact ⟨AB (by
        rw [← HV.out]
        refine (JJ.2 (fun x hx => ?_)).symm
        obtain ⟨j,hj,rfl⟩:=List.getElem_of_mem hx
        have:=HK.out j (by omega)
        rwa [iv,List.getD_eq_getElem?_getD,List.getElem?_eq_getElem hj] at this),HB.out⟩
/-- The first one that holds a page. -/
def J7 (l : List Rec) (p : Int) : Int:=if has l 1 l.length p = true then 1 else if has l 2 l.length p = true then 2 else if has l 3 l.length p = true then 3 else 0
theorem QO {l : List Rec} {p : Int} {j : Nat} (h1 : 1 ≤ j) (h3 : j ≤ 3) (hp : ∀ t : Nat,1 ≤ t → t < j → has l (t : Int) l.length p = false) (hj : has l (j : Int) l.length p = true) : J7 l p = j:=by
  have h : j = 1 ∨ j = 2 ∨ j = 3:=by omega
  rcases h with rfl | rfl | rfl
  · rw [J7,if_pos (by exact hj)];rfl
  · rw [J7,if_neg (by rw [show has l 1 l.length p = false from hp 1 (by omega) (by omega)];simp),if_pos (by exact hj)];rfl
  · rw [J7,if_neg (by rw [show has l 1 l.length p = false from hp 1 (by omega) (by omega)];simp),if_neg (by rw [show has l 2 l.length p = false from hp 2 (by omega) (by omega)];simp),if_pos (by exact hj)];rfl
theorem QN {l : List Rec} {p : Int} (hp : ∀ t : Nat,1 ≤ t → t < 4 → has l (t : Int) l.length p = false) : J7 l p = 0:=by
  rw [J7,if_neg (by rw [show has l 1 l.length p = false from hp 1 (by omega) (by omega)];simp),if_neg (by rw [show has l 2 l.length p = false from hp 2 (by omega) (by omega)];simp),if_neg (by rw [show has l 3 l.length p = false from hp 3 (by omega) (by omega)];simp)]
theorem Core.J7 {e : Eng} {C : Nat → Page} {B : Nat} (h : Core e C B) (p : Int) : Go.Proofs.YtpjmlpmhgfghbaaGreat.J7 e.log p = lk e.log p:=by
  have hone:=h.Ia p
  obtain ⟨-,hl | hl⟩:=Px hone
  · rw [hl.1]
    exact QN (fun t h1 h4 => hl.2 t (by omega))
  · obtain ⟨j,hj⟩ : ∃ j : Nat,lk e.log p = (j : Int):=⟨(lk e.log p).toNat,by omega⟩
    rw [hj] at hl ⊢
    exact QO (by omega) (by omega) (fun t h1 h2 => hone (j : Int) (t : Int) (by omega) hl.2) hl.2
set_option maxRecDepth 100000 in
set_option maxHeartbeats 4000000 in
theorem Om {w0 w : World} {e : Eng} {Ad Am Al : Option Addr} {cd cm cl : Nat} (page : Int) (hlog : AP e.log = true) (hb : Below w0.heap.size w0 w) (hr : DY w0 e Ad Am Al) : Calls Tryz.prog 123 #[e.val Ad Am Al cd cm cl, .int .i64 page] w fun x w' => x = .returned (.int .i64 (J7 e.log page)) ∧ Below w.heap.size w w':=by
  have HR:=As (hr.up hb)
  have HL:=As hlog
  clear hr hb hlog
  obtain ⟨w1,hw1⟩ : ∃ w1,w.alloc (Obj.cells #[Value.slice Ad e.disk.length cd,Value.slice Am e.mem.length cm,Value.slice Al e.log.length cl,Value.int IntKind.i64 e.safe,Value.bool e.down] 28) = w1:=⟨_,rfl⟩
  have HB : Ac (Below w.heap.size w w1):=⟨by rw [← hw1];exact Ah (Below.refl _ _) _⟩
  have hq1 : Ai w1 w.heap.size e (.slice Ad e.disk.length cd) (.slice Am e.mem.length cm) (.slice Al e.log.length cl):=by rw [← hw1];exact Ai.mk1 _ _ _ _ _
  have x2:=hq1.c2
  have HW1:=As hw1
  clear hw1 hq1
  go_enter Tryz.func123,Tryz.ntmps123
  go_wp2
  rw [HW1.out]
  go_loop [5] (fun i => ∃ j : Nat,1 ≤ j ∧ j ≤ 4 ∧ i = .int .i64 (j : Int) ∧ Ac (∀ t : Nat,1 ≤ t → t < j → has e.log (t : Int) e.log.length page = false)) (fun i => (5 - intOf i).toNat)
  case atStart => exact ⟨1,by omega,by omega,rfl,⟨fun t h1 h2 => by omega⟩⟩
  case round =>
    obtain ⟨j,hj1,hj4,rfl,HJ⟩:=hrel
    by_cases hlt : j ≤ 3
    · have hlt3 : (j : Int) ≤ 3:=by omega
      cases hh : has e.log (j : Int) e.log.length page
      all_goals
        have HH:=As hh
        clear hh
        go_wp2_with (go_at_call 56;refine (JC (c:=cl) HH.out HB.out HR.out.l HL.out).mono ?_;rintro x w' ⟨rfl,rfl⟩)
      · go_round
        case rel => exact ⟨j + 1,by omega,by omega,by go_num,⟨fun t h1 h2 => by
          rcases Nat.lt_succ_iff_lt_or_eq.1 h2 with h | h
          · exact HJ.out t h1 h
          · rw [h];exact HH.out⟩⟩
        case measure => simp [intOf];omega
      · go_ret
        exact ⟨by rw [QO hj1 hlt HJ.out HH.out];rfl,HB.out⟩
    · have hj : j = 4:=by omega
      subst hj
      go_wp2
      go_ret
      exact ⟨by rw [QN HJ.out];rfl,HB.out⟩
theorem PK {w0 w : World} {e : Eng} {b : Bool} {Ad Am Al : Option Addr} {cd cm cl : Nat} (page : Int) (hd : e.down = b) (hlog : AP e.log = true) (hb : Below w0.heap.size w0 w) (hr : DY w0 e Ad Am Al) : Calls Tryz.prog 123 #[.agg #[.slice Ad e.disk.length cd, .slice Am e.mem.length cm, .slice Al e.log.length cl, .int .i64 e.safe, .bool b], .int .i64 page] w fun x w' => x = .returned (.int .i64 (J7 e.log page)) ∧ Below w.heap.size w w':=by
  subst hd
  exact Om page hlog hb hr
set_option maxRecDepth 100000 in
set_option maxHeartbeats 8000000 in
theorem BN {w0 w : World} {e : Eng} {C : Nat → Page} {B : Nat} {Ad Am Al : Option Addr} {cd cm cl : Nat} (tx page : Int) {m : Bool} (hm : DJ e tx page = m) (hi : Core e C B) (hb : Below w0.heap.size w0 w) (hr : DY w0 e Ad Am Al) : Calls Tryz.prog 124 #[e.val Ad Am Al cd cm cl, .int .i64 tx, .int .i64 page] w fun x w' => x = .returned (.bool m) ∧ Below w.heap.size w w':=by
  have HR:=As (hr.up hb)
  have HL:=As hi.log
  have HM:=As hm
  obtain ⟨by_,hby⟩ : ∃ k,lk e.log page = k:=⟨_,rfl⟩
  have HLK : Ac (J7 e.log page = by_):=⟨by rw [hi.J7,hby]⟩
  have HBY:=As hby
  clear hr hb hi hm hby
  cases hd : e.down
  rotate_left
  · have HD:=As hd
    have hmf : m = false:=by rw [← HM.out,DJ,hd];rfl
    subst hmf
    clear hd
    go_enter Tryz.func124,Tryz.ntmps124
    go_wp2_with (first
      | (with_reducible refine Ay (vd:=.slice Ad e.disk.length cd) (vm:=.slice Am e.mem.length cm) (vl:=.slice Al e.log.length cl) e ?_;intro w1 hb1 hz1 hq1;clear hz1;have HB:=As hb1;have x0:=hq1.c0;have x1:=hq1.c1;have x2:=hq1.c2;have x3:=hq1.c3;have x4:=hq1.c4;rw [HD.out] at x4;clear hb1 hq1))
    go_ret
    exact ⟨rfl,HB.out⟩
  have HD:=As hd
  clear hd
  cases h1 : inB tx 1 3
  · have H1:=As h1
    have hmf : m = false:=by rw [← HM.out,DJ,HD.out,h1];rfl
    subst hmf
    clear h1
    go_enter Tryz.func124,Tryz.ntmps124
    go_wp2_with (first
      | (with_reducible refine Ay (vd:=.slice Ad e.disk.length cd) (vm:=.slice Am e.mem.length cm) (vl:=.slice Al e.log.length cl) e ?_;intro w1 hb1 hz1 hq1;clear hz1;have HB:=As hb1;have x0:=hq1.c0;have x1:=hq1.c1;have x2:=hq1.c2;have x3:=hq1.c3;have x4:=hq1.c4;rw [HD.out] at x4;clear hb1 hq1)
      | (go_at_call 55;refine (BL tx 1 3 _).mono ?_;rw [H1.out];rintro x w' ⟨rfl,rfl⟩))
    go_ret
    exact ⟨rfl,HB.out⟩
  have H1:=As h1
  clear h1
  cases h2 : inB page 0 4
  · have H2:=As h2
    have hmf : m = false:=by rw [← HM.out,DJ,HD.out,H1.out,h2];rfl
    subst hmf
    clear h2
    go_enter Tryz.func124,Tryz.ntmps124
    go_wp2_with (first
      | (with_reducible refine Ay (vd:=.slice Ad e.disk.length cd) (vm:=.slice Am e.mem.length cm) (vl:=.slice Al e.log.length cl) e ?_;intro w1 hb1 hz1 hq1;clear hz1;have HB:=As hb1;have x0:=hq1.c0;have x1:=hq1.c1;have x2:=hq1.c2;have x3:=hq1.c3;have x4:=hq1.c4;rw [HD.out] at x4;clear hb1 hq1)
      | (go_at_call 55;refine (BL _ _ _ _).mono ?_;(first | rw [H1.out] | rw [H2.out]);rintro x w' ⟨rfl,rfl⟩))
    go_ret
    exact ⟨rfl,HB.out⟩
  have H2:=As h2
  clear h2
  rcases BO by_ 0 with ⟨e1,b1,c1⟩ | ⟨e1,b1,c1⟩
  all_goals rcases BO by_ tx with ⟨e2,b2,c2⟩ | ⟨e2,b2,c2⟩
  all_goals
    go_enter Tryz.func124,Tryz.ntmps124
    go_wp2_with (first
      | (with_reducible refine Ay (vd:=.slice Ad e.disk.length cd) (vm:=.slice Am e.mem.length cm) (vl:=.slice Al e.log.length cl) e ?_;intro w1 hb1 hz1 hq1;clear hz1;have HB:=As hb1;have x0:=hq1.c0;have x1:=hq1.c1;have x2:=hq1.c2;have x3:=hq1.c3;have x4:=hq1.c4;rw [HD.out] at x4;clear hb1 hq1)
      | (go_at_call 55;refine (BL _ _ _ _).mono ?_;(first | rw [H1.out] | rw [H2.out]);rintro x w' ⟨rfl,rfl⟩)
      | (go_at_call 123;refine (PK (cd:=cd) (cm:=cm) (cl:=cl) page HD.out HL.out HB.out HR.out).mono ?_;rw [HLK.out];rintro x w2 ⟨rfl,hb2⟩;have HB2:=As (bj HB.out hb2);clear hb2))
    go_ret
    exact ⟨AB (by rw [← HM.out,DJ,HD.out,H1.out,H2.out,HBY.out];simp [b1,b2]),HB2.out⟩
/-- Two slots lead to two blocks, as long as operation i3 did not come up. -/
def Ap3 (i3 i0 s0 i5 s5 : Nat) (l : Array Bool) (a : Act) (_w : World) : Prop:=l.getD i3 false = false → l.getD i0 false = true → l.getD i5 false = true → (a.tmps.getD s0 undef).ownBlock ≠ (a.tmps.getD s5 undef).ownBlock
theorem Ll {k i3 i0 s0 i5 s5 d : Nat} (h1 : (d == s0) = false) (h2 : (d == s5) = false) (h3 : (k == i3) = false) (h4 : (k == i0) = false) (h5 : (k == i5) = false) : Keeps (Ap3 i3 i0 s0 i5 s5) k (some d):=fun l a v w => by
  have h1 : d ≠ s0:=by simpa using h1
  have h2 : d ≠ s5:=by simpa using h2
  have h3 : k ≠ i3:=by simpa using h3
  have h4 : k ≠ i0:=by simpa using h4
  have h5 : k ≠ i5:=by simpa using h5
  have e1 : (a.put (some d) v).tmps.getD s0 undef = a.tmps.getD s0 undef:=by simp [Act.put,h1]
  have e2 : (a.put (some d) v).tmps.getD s5 undef = a.tmps.getD s5 undef:=by simp [Act.put,h2]
  have e3 : (l.setIfInBounds k true).getD i3 false = l.getD i3 false:=getD_set_ne false h3
  have e4 : (l.setIfInBounds k true).getD i0 false = l.getD i0 false:=getD_set_ne false h4
  have e5 : (l.setIfInBounds k true).getD i5 false = l.getD i5 false:=getD_set_ne false h5
  rw [Ap3,Ap3,e1,e2,e3,e4,e5]
theorem VP {n i3 i0 s0 i5 s5 : Nat} {a : Act} {w : World} : Ap3 i3 i0 s0 i5 s5 (lsd n []) a w:=fun _ h => by
  rw [JP] at h
  simp [Array.getD] at h
theorem Rv {w : World} {B n : Nat} {l : List Rec} (hC : Kd.C Ca w (some ⟨B,0,none⟩) n l) (hn : 0 < n) : B < w.heap.size:=by
  obtain ⟨ad,e,q⟩:=Ce hC 0 hn
  injection e with e
  subst e
  exact World.block_lt_of_cell? _ _ q.c0
theorem UI {w : World} {B : Nat} {l : List Rec} {v : Value} (hC : Kd.C Ca w (some ⟨B,0,none⟩) 1 l) (hv : v = .slice (some ⟨B,0,none⟩) 1 1) : (Value.slice (some ⟨w.heap.size,0,none⟩) 0 0).ownBlock ≠ v.ownBlock:=fun e => by
  have:=Rv hC (by omega)
  subst hv
  simp only [Value.ownBlock,Option.some.injEq] at e
  omega
theorem Sy {w : World} {b : Nat} {l : List Rec} {v : Value} (h : OwnRs w b v l) : v.ownBlock ≠ (Value.slice (some ⟨w.heap.size,0,none⟩) 1 1).ownBlock:=fun e => by
  have:=Kd.UL h w.heap.size (by rw [e];simp [Value.ownBlock])
  omega
theorem U5 {w w1 : World} {B : Nat} {r : Rec} {u : Value} (hC : Kd.C Ca w (some ⟨B,0,none⟩) 1 [r]) (hg : w.grownBy w1 u.ownBlock) (hne : u.ownBlock ≠ (Value.slice (some ⟨B,0,none⟩) 1 1).ownBlock) : Kd.C Ca w1 (some ⟨B,0,none⟩) 1 [r]:=by
  have hlt:=Rv hC (by omega)
  have hb : w1.heap[B]? = w.heap[B]?:=hg.block B hlt (fun e => hne (by rw [← e];simp [Value.ownBlock]))
  obtain ⟨ad,e,q⟩:=Ce hC 0 (by omega)
  injection e with e
  subst e
  have hc : ∀ j : Nat,w1.cell? ⟨B,j,none⟩ = w.cell? ⟨B,j,none⟩:=fun j => World.cell?_of_block (w:=w) hb
  have e0 : (⟨B,0,none⟩ : Addr).add (0 * 8) = ⟨B,0,none⟩:=by simp [Addr.add]
  rw [e0] at q
  obtain ⟨q0,q1,q2,q3,q4,q5,q6,q7⟩:=q
  have hr : rc [r] 0 = r:=rfl
  rw [hr] at q0 q1 q2 q3 q4 q5 q6 q7
  exact Rw ⟨by rw [hc];exact q0,by rw [hc];exact q1,by rw [hc];exact q2,by rw [hc];exact q3,by rw [hc];exact q4,by rw [hc];exact q5,by rw [hc];exact q6,by rw [hc];exact q7⟩
theorem RQ {w : World} {b g : Nat} {vd vm vl : Value} {e : Eng} {r : Rec} (h : AU w b vd vm vl e) (hr : Df w g r) (j : Nat) (u : Value) (hn : ∀ k,vl.ownBlock = some k → k ≠ g) : AU (w.setCell ⟨g,j,none⟩ u) b vd vm vl e:=by
  obtain ⟨⟨okd,okm,ha,hx,hy⟩,hz⟩:=h
  refine ⟨⟨okd,okm,ha,Kd.Ro hx hr (fun q hq => by rcases L9 q hq with rfl | rfl <;> decide) j u,Kd.Ro hy hr (fun q hq => by rcases L9 q hq with rfl | rfl <;> decide) j u⟩,?_⟩
  exact Kd.Eh (Kd.Xa (p:=⟨g,j,none⟩) (Kd.Q8 rfl hz) (fun k hk => hn k hk.symm) u) (fun _ _ => trivial)
theorem Df.far {w : World} {g : Nat} {r : Rec} (h : Df w g r) {b : Nat} (hne : b ≠ g) (j : Nat) (u : Value) : Df (w.setCell ⟨b,j,none⟩ u) g r:=(Below.heap_setCell w ⟨b,j,none⟩ u g (Ne.symm hne)).trans h
theorem RH {R : Option Addr → Nat → Nat → Nat → Prop} {G : Prop} (h1 : (∀ a b c d,R a b c d) → G) (h2 : ∀ a b c d,R a b c d) : G:=h1 h2
theorem CK {w W : World} {S : Nat → Prop} {g : Nat} (h : Kept w W S) (hg : w.heap.size ≤ g) (e : Eng) (a b c : Value) : Kept w (Go.Proofs.YtpjmlpmhgfghbaaGreat.Az W g e a b c) S:=((((h.setCell (p:=⟨g,0,none⟩) (.inr hg) _).setCell (p:=⟨g,1,none⟩) (.inr hg) _).setCell (p:=⟨g,2,none⟩) (.inr hg) _).setCell (p:=⟨g,3,none⟩) (.inr hg) _).setCell (p:=⟨g,4,none⟩) (.inr hg) _
/-- Of what was there the row of pages in memory alone may have been written. -/
abbrev Ip (w : World) (vm : Value) (w' : World) : Prop:=Kept w w' (fun k => some k = vm.ownBlock)
theorem Ai.EC {w w1 : World} {b g : Nat} {vd vm vl ud um ul : Value} {e q : Eng} (h : Ai w g q ud um ul) (ho : AU w b vd vm vl e) (hk : Ip w vm w1) : Ai w1 g q ud um ul:=by
  refine (hk.2 g h.lt (fun e2 => ?_)).trans h
  obtain ⟨okd,okm, -, -,hm⟩:=ho.ex
  obtain ⟨cells,hc⟩:=Kd.Fu hm g e2.symm
  have h1 : w.heap[g]? = _:=h
  rw [hc] at h1
  injection h1 with h1
  injection h1 with _ h2
  exact absurd h2 (by decide)
/-- An engine of the call's own, and a yes or no. -/
def GX (w0 w : World) (vm : Value) (e : Eng) (b : Bool) (x : Ending) (w' : World) : Prop := ∃ vd' vm' vl',x = .returned (.tuple #[e.ag vd' vm' vl', .bool b]) ∧ AU w' w0.heap.size vd' vm' vl' e ∧ Below w0.heap.size w0 w' ∧ Ip w vm w'
set_option maxRecDepth 100000 in
set_option maxHeartbeats 8000000 in
theorem Ew {w0 w : World} {e : Eng} {vd vm vl : Value} (r : Rec) (hgm : geo e.mem) (hlog : AP (e.log ++ [Dl r (Aj e.log r.tx e.log.length)]) = true) (hroom : e.log.length + 1 + Bp (e.log ++ [Dl r (Aj e.log r.tx e.log.length)]) (e.log.length + 1) ≤ 150) (hrt : Cx r.kind = true → 0 ≤ r.page ∧ r.page < 5 ∧ r.slot < 3) (hb : Below w0.heap.size w0 w) (hr : AU w w0.heap.size vd vm vl e) : Calls Tryz.prog 125 #[e.ag vd vm vl,r.val] w (GX w0 w vm (e.app r) true):=by
  obtain ⟨Ad,cd,Am,cm,Al,cl,rfl,rfl,rfl,hcl,hrd⟩:=hr.reads
  obtain ⟨w1a,hw1a⟩ : ∃ w1a,w.alloc (e.obox (.slice Ad e.disk.length cd) (.slice Am e.mem.length cm) (.slice Al e.log.length cl)) = w1a:=⟨_,rfl⟩
  obtain ⟨w1b,hw1b⟩ : ∃ w1b,w1a.alloc r.box = w1b:=⟨_,rfl⟩
  obtain ⟨w1,hw1⟩ : ∃ w1,w1b.alloc (zE.obox (.slice none 0 0) (.slice none 0 0) (.slice none 0 0)) = w1:=⟨_,rfl⟩
  have hza : w1a.heap.size = w.heap.size + 1:=by rw [← hw1a];exact BF _ _
  have hzb : w1b.heap.size = w.heap.size + 1 + 1:=by rw [← hw1b,BF,hza]
  have hz1 : w1.heap.size = w.heap.size + 3:=by rw [← hw1,BF,hzb]
  have hba : Below w1a.heap.size w1a w1:=by rw [← hw1, ← hw1b];exact Ah (Ah (Below.refl _ _) _) _
  have hbb : Below w1b.heap.size w1b w1:=by rw [← hw1];exact Ah (Below.refl _ _) _
  have hb1 : Below w.heap.size w w1:=by rw [← hw1, ← hw1b, ← hw1a];exact Ah (Ah (Ah (Below.refl _ _) _) _) _
  have HQ1 : Ac (Ai w1 w.heap.size e (.slice Ad e.disk.length cd) (.slice Am e.mem.length cm) (.slice Al e.log.length cl)):=⟨Ai.up (by rw [← hw1a];exact Ai.mk1 _ _ _ _ _) hba⟩
  have HRB1 : Ac (Df w1 (w.heap.size + 1) r):=⟨Df.up (by rw [← hw1b, ← hza];exact Df.mk1 _ _) hbb⟩
  have HP1 : Ac (Ai w1 (w.heap.size + 1 + 1) zE (.slice none 0 0) (.slice none 0 0) (.slice none 0 0)):=⟨by rw [← hw1, ← hzb];exact Ai.mk1 _ _ _ _ _⟩
  have HW1 : Ac (((w.alloc (e.obox (.slice Ad e.disk.length cd) (.slice Am e.mem.length cm) (.slice Al e.log.length cl))).alloc r.box).alloc (zE.obox (.slice none 0 0) (.slice none 0 0) (.slice none 0 0)) = w1):=⟨by rw [hw1a,hw1b,hw1]⟩
  have HZ1s:=As hz1
  have HB1:=As hb1
  have HB:=As hb
  have HO1:=As (hr.below hb1)
  have HOw:=As hr
  have HC1:=As (hrd.up hb1)
  obtain ⟨ln,hln⟩ : ∃ ln : Nat,Aj e.log r.tx e.log.length = ln:=⟨_,rfl⟩
  rw [hln] at hlog hroom
  obtain ⟨r1,hr1⟩ : ∃ r1,Dl r ln = r1:=⟨_,rfl⟩
  rw [hr1] at hlog hroom
  obtain ⟨l1,hl1⟩ : ∃ l1,e.log ++ [r1] = l1:=⟨_,rfl⟩
  rw [hl1] at hlog hroom
  have hll : l1.length = e.log.length + 1:=by rw [← hl1];simp
  obtain ⟨nd,hnd⟩ : ∃ nd,need l1 = nd:=⟨_,rfl⟩
  have hsum : l1.length + nd ≤ 150:=by rw [← hnd,Nj,hll];exact hroom
  have HLOG:=As hlog
  have HLN:=As hln
  have HR1:=As hr1
  have HL1:=As hl1
  have HLL:=As hll
  have HND:=As hnd
  have HSUM:=As hsum
  have HGM:=As hgm
  have HRT:=As hrt
  have HL:=As (show e.log.length ≤ 150 by omega)
  have HE:=As (show e.app r = { e with log:=l1,mem:=if Cx r.kind = true then e.mem.set r.page.toNat (doR (pg e.mem r.page.toNat) r1 (e.log.length + 1 : Nat)) else e.mem } by unfold Eng.app;rw [← hl1, ← hr1, ← hln];rfl)
  have x2:=HQ1.out.c2
  have r1c:=HRB1.out.at.c1
  have r6c:=HRB1.out.at.c6
  have fr6:=HRB1.out.frz 6
  simp only [Nat.zero_add] at r1c r6c
  clear hw1a hw1b hw1 hza hzb hz1 hba hbb hb1 hb hr hrd hln hr1 hl1 hll hnd hsum hgm hrt hlog hroom
  go_enter Tryz.func125,Tryz.ntmps125
  go_wp2_with (go_at_call 115;rw [show ((w.alloc (Obj.cells #[Value.slice Ad e.disk.length cd,Value.slice Am e.mem.length cm,Value.slice Al e.log.length cl,Value.int IntKind.i64 e.safe,Value.bool e.down] 28)).alloc (Obj.cells #[Value.int IntKind.i64 r.kind,Value.int IntKind.i64 r.tx,Value.int IntKind.i64 r.page,Value.int IntKind.i64 r.slot,Value.int IntKind.i64 r.old,Value.int IntKind.i64 r.new,Value.int IntKind.i64 r.prev,Value.int IntKind.i64 r.next] 98)).alloc (Obj.cells #[Value.slice none 0 0,Value.slice none 0 0,Value.slice none 0 0,Value.int IntKind.i64 0,Value.bool false] 28) = w1 from HW1.out];refine (Du (c:=cl) HLN.out (Below.refl w1.heap.size w1) HC1.out.l).mono ?_;rintro x w' ⟨rfl,rfl⟩)
  obtain ⟨w2,hw2⟩ : ∃ w2,w1.setCell ⟨w.heap.size + 1,6,none⟩ (.int .i64 ln) = w2:=⟨_,rfl⟩
  have hrb2 : Df w2 (w.heap.size + 1) r1:=by rw [← hw2, ← HR1.out];exact HRB1.out.Ob ln
  have hq2 : Ai w2 w.heap.size e (.slice Ad e.disk.length cd) (.slice Am e.mem.length cm) (.slice Al e.log.length cl):=by rw [← hw2];exact HQ1.out.far (by omega) _ _
  have hp2 : Ai w2 (w.heap.size + 1 + 1) zE (.slice none 0 0) (.slice none 0 0) (.slice none 0 0):=by rw [← hw2];exact HP1.out.far (by omega) _ _
  have hb2 : Below w.heap.size w w2:=by rw [← hw2];exact HB1.out.setCell (p:=⟨w.heap.size + 1,6,none⟩) (by simp) _
  have hs2 : w2.heap.size = w.heap.size + 3:=by rw [← hw2];simp [HZ1s.out]
  rw [hw2]
  have HRB2:=As hrb2
  have HQ2:=As hq2
  have HP2:=As hp2
  have HB2:=As hb2
  have HS2:=As hs2
  have HO2 : Ac (AU w2 w0.heap.size (.slice Ad e.disk.length cd) (.slice Am e.mem.length cm) (.slice Al e.log.length cl) e):=⟨by rw [← hw2];exact RQ HO1.out HRB1.out 6 _ (fun k hk => by have h1:=Kd.UL HOw.out.l k hk;omega)⟩
  have HCL:=As (HO2.out.reads').l
  have x2:=hq2.c2
  obtain ⟨z0,z1,z2,z3,z4,z5,z6,z7⟩:=hrb2.at
  simp only [Nat.zero_add] at z1 z2 z3 z4 z5 z6 z7
  clear hw2 hrb2 hq2 hp2 hb2 hs2 r1c r6c fr6
  refine AX (fun lx a wx => Below w2.heap.size w2 wx ∧ (Pre 3 0 13 (fun _ => True) (fun v wx => OwnRs wx w2.heap.size v []) lx a wx ∧ (Pre 6 3 16 (fun _ => True) (fun v wx => ∃ A c,v = .slice A e.log.length c ∧ OwnRs wx w2.heap.size v e.log) lx a wx ∧ (Pre 6 5 18 (fun _ => True) (fun v wx => ∃ B,v = .slice (some ⟨B,0,none⟩) 1 1 ∧ Kd.C Ca wx (some ⟨B,0,none⟩) 1 [r1]) lx a wx ∧ (Ap3 3 0 13 5 18 lx a wx ∧ Sl 6 19 (fun v wx => ∃ A c,v = .slice A l1.length c ∧ OwnRs wx w2.heap.size v l1) lx a wx))))) 8 rfl (by kernel_rfl) (⟨Ak (Below.refl _ _),FM trivial,FM trivial,FM trivial,VP,Bc⟩) (fun HT => ?_)
  refine Ae (i:=1) (v:=?_) HT rfl (by kernel_rfl) rfl (kA Aa (kA (Au rfl rfl rfl) (kA (Au rfl rfl rfl) (kA (Au rfl rfl rfl) (kA (Ll rfl rfl rfl rfl rfl) (Ab rfl rfl)))))) (by rfl) (fun _ _ _ h => h) (fun lx ax wx hS => ?_) ?_;rotate_left;(have hbx:=hS.1;clear hS;replace x2:=bc hbx x2;replace z0:=bc hbx z0;replace z1:=bc hbx z1;replace z2:=bc hbx z2;replace z3:=bc hbx z3;replace z4:=bc hbx z4;replace z5:=bc hbx z5;replace z6:=bc hbx z6;replace z7:=bc hbx z7;go_simp;with_reducible rfl);rotate_left;simp only [sc0,sc1]
  refine Ae (i:=2) (v:=?_) HT rfl (by kernel_rfl) rfl (kA Aa (kA (Au rfl rfl rfl) (kA (Au rfl rfl rfl) (kA (Au rfl rfl rfl) (kA (Ll rfl rfl rfl rfl rfl) (Ab rfl rfl)))))) (by rfl) (fun _ _ _ h => h) (fun lx ax wx hS => ?_) ?_;rotate_left;(have hbx:=hS.1;clear hS;replace x2:=bc hbx x2;replace z0:=bc hbx z0;replace z1:=bc hbx z1;replace z2:=bc hbx z2;replace z3:=bc hbx z3;replace z4:=bc hbx z4;replace z5:=bc hbx z5;replace z6:=bc hbx z6;replace z7:=bc hbx z7;go_simp;with_reducible rfl);rotate_left;simp only [sc0,sc1]
  refine Ae (i:=4) (v:=?_) HT rfl (by kernel_rfl) rfl (kA Aa (kA (Au rfl rfl rfl) (kA (Au rfl rfl rfl) (kA (Au rfl rfl rfl) (kA (Ll rfl rfl rfl rfl rfl) (Ab rfl rfl)))))) (by rfl) (fun _ _ _ h => h) (fun lx ax wx hS => ?_) ?_;rotate_left;(have hbx:=hS.1;clear hS;replace x2:=bc hbx x2;replace z0:=bc hbx z0;replace z1:=bc hbx z1;replace z2:=bc hbx z2;replace z3:=bc hbx z3;replace z4:=bc hbx z4;replace z5:=bc hbx z5;replace z6:=bc hbx z6;replace z7:=bc hbx z7;go_simp;with_reducible rfl);rotate_left;simp only [sc0,sc1]
  apply RH
  · intro hrest
    refine Ba [0,5] (by kernel_rfl) (fun i hi wx hS => ?_)
    rcases List.mem_cons.1 hi with rfl | hi
    · clear hi
      have hb : Below wx.heap.size wx (wx.alloc (.cells #[] 98)):=Ah (Below.refl _ _) _
      refine BX (w1:=wx.alloc (.cells #[] 98)) (.slice (some ⟨wx.heap.size,0,none⟩) 0 0) rfl rfl (by rfl) (by go_simp) ?_
      refine ⟨⟨bj hS.1 hb,fun _ => ⟨trivial,fun _ => rs_empty rfl hS.1.size⟩,fun _ => ⟨trivial,fun h => (AL h (by kernel_rfl)).elim⟩,fun _ => ⟨trivial,fun h => (AL h (by kernel_rfl)).elim⟩,fun _ => fun _ h => (AL h (by kernel_rfl)).elim,fun h => (AL h (by kernel_rfl)).elim⟩,?_⟩
      obtain ⟨B0,hB⟩ : ∃ B,wx.heap.size = B:=⟨_,rfl⟩
      rw [hB]
      clear hb hB hS
      simp only [sc0,sc1]
      refine Ba [3,5] (by kernel_rfl) (fun i hi wx hS => ?_)
      rcases List.mem_cons.1 hi with rfl | hi
      · clear hi
        have hr0 : OwnRs wx w2.heap.size (.slice (some ⟨B0,0,none⟩) 0 0) []:=(hS.2.1 (by kernel_rfl)).2 (by kernel_rfl)
        refine wpOp_step rfl (Kd.CV Ca (Rr:=Ca.K wx) (w0:=w2) w2.heap.size (by rfl) (.tmp 13) (.tmp 15) 26 98 _ 64 rfl ER Il rfl (by decide) (by decide) (.slice (some ⟨B0,0,none⟩) 0 0) [] e.log Al e.log.length cl (fun _ => True) (fun _ => False) rfl rfl hr0 (Bu HCL.out hS.1) (fun _ _ hk => JR hk) (fun _ hk => hk.elim) (fun _ _ => trivial) hS.1 hS.1.size (by have:=HL.out;simp;omega) (fun v1 w4 hown hb4 hg4 _ => ?_))
        have hown : OwnRs w4 w2.heap.size v1 e.log:=hown
        obtain ⟨A1,c1,rfl, -, -⟩:=Kd.DI hown
        simp only [Cv,sc0,sc1]
        refine ⟨⟨hb4,fun h => (AL (by kernel_rfl) h).elim,fun _ => ⟨trivial,fun _ => ⟨_,_,rfl,hown⟩⟩,fun _ => ⟨trivial,fun h => (AL h (by kernel_rfl)).elim⟩,fun h => (AL (by kernel_rfl) h).elim,fun h => (AL h (by kernel_rfl)).elim⟩,?_⟩
        clear hr0 hown hb4 hg4 hS
        refine Ba [5] (by kernel_rfl) (fun i hi wx hS => ?_)
        obtain rfl:=List.mem_singleton.1 hi
        clear hi
        have hb : Below wx.heap.size wx (wx.alloc r1.box):=Ah (Below.refl _ _) _
        refine BX (w1:=wx.alloc r1.box) (.slice (some ⟨wx.heap.size,0,none⟩) 1 1) rfl rfl (by rfl) (by go_simp) ?_
        refine ⟨⟨bj hS.1 hb,fun h => (AL (by kernel_rfl) h).elim,fun _ => ⟨trivial,fun _ => ((hS.2.2.1 (by kernel_rfl)).2 (by kernel_rfl)).elim fun A' h' => h'.elim fun c' h2 => ⟨A',c',h2.1,Kd.CG h2.2 hb⟩⟩,fun _ => ⟨trivial,fun _ => ⟨wx.heap.size,rfl,Rw (Gh wx r1)⟩⟩,fun h _ _ => (AL (by kernel_rfl) h).elim,fun h => (AL h (by kernel_rfl)).elim⟩,?_⟩
        obtain ⟨B5,hB⟩ : ∃ B,wx.heap.size = B:=⟨_,rfl⟩
        rw [hB]
        clear hb hB hS
        simp only [sc0,sc1]
        exact GD (done := [5,3,0,4,2,1]) (by kernel_rfl) (hrest A1 c1 B0 B5)
      · obtain rfl:=List.mem_singleton.1 hi
        clear hi
        have hb : Below wx.heap.size wx (wx.alloc r1.box):=Ah (Below.refl _ _) _
        refine BX (w1:=wx.alloc r1.box) (.slice (some ⟨wx.heap.size,0,none⟩) 1 1) rfl rfl (by rfl) (by go_simp) ?_
        refine ⟨⟨bj hS.1 hb,fun _ => ⟨trivial,fun _ => Kd.CG ((hS.2.1 (by kernel_rfl)).2 (by kernel_rfl)) hb⟩,fun _ => ⟨trivial,fun h => (AL h (by kernel_rfl)).elim⟩,fun _ => ⟨trivial,fun _ => ⟨wx.heap.size,rfl,Rw (Gh wx r1)⟩⟩,fun _ => fun _ _ => Sy ((hS.2.1 (by kernel_rfl)).2 (by kernel_rfl)),fun h => (AL h (by kernel_rfl)).elim⟩,?_⟩
        obtain ⟨B5,hB⟩ : ∃ B,wx.heap.size = B:=⟨_,rfl⟩
        rw [hB]
        clear hb hB hS
        simp only [sc0,sc1]
        refine Ba [3] (by kernel_rfl) (fun i hi wx hS => ?_)
        obtain rfl:=List.mem_singleton.1 hi
        clear hi
        have hr0 : OwnRs wx w2.heap.size (.slice (some ⟨B0,0,none⟩) 0 0) []:=(hS.2.1 (by kernel_rfl)).2 (by kernel_rfl)
        obtain ⟨B',hB',hC'⟩:=(hS.2.2.2.1 (by kernel_rfl)).2 (by kernel_rfl)
        have hB' : Value.slice (some ⟨B5,0,none⟩) 1 1 = .slice (some ⟨B',0,none⟩) 1 1:=hB'
        obtain rfl : B5 = B':=by simpa using hB'
        have hap : (Value.slice (some ⟨B0,0,none⟩) 0 0).ownBlock ≠ (Value.slice (some ⟨B5,0,none⟩) 1 1).ownBlock:=hS.2.2.2.2.1 (by kernel_rfl) (by kernel_rfl) (by kernel_rfl)
        refine wpOp_step rfl (Kd.CV Ca (Rr:=Ca.K wx) (w0:=w2) w2.heap.size (by rfl) (.tmp 13) (.tmp 15) 26 98 _ 64 rfl ER Il rfl (by decide) (by decide) (.slice (some ⟨B0,0,none⟩) 0 0) [] e.log Al e.log.length cl (fun _ => True) (fun _ => False) rfl rfl hr0 (Bu HCL.out hS.1) (fun _ _ hk => JR hk) (fun _ hk => hk.elim) (fun _ _ => trivial) hS.1 hS.1.size (by have:=HL.out;simp;omega) (fun v1 w4 hown hb4 hg4 _ => ?_))
        have hown : OwnRs w4 w2.heap.size v1 e.log:=hown
        obtain ⟨A1,c1,rfl, -, -⟩:=Kd.DI hown
        simp only [Cv,sc0,sc1]
        have hC5 : Kd.C Ca w4 (some ⟨B5,0,none⟩) 1 [r1]:=U5 hC' hg4 hap
        refine ⟨⟨hb4,fun h => (AL (by kernel_rfl) h).elim,fun _ => ⟨trivial,fun _ => ⟨_,_,rfl,hown⟩⟩,fun _ => ⟨trivial,fun _ => ⟨_,rfl,hC5⟩⟩,fun h => (AL (by kernel_rfl) h).elim,fun h => (AL h (by kernel_rfl)).elim⟩,?_⟩
        clear hr0 hown hb4 hg4 hS hC' hB' hap hC5
        exact GD (done := [5,3,0,4,2,1]) (by kernel_rfl) (hrest A1 c1 B0 B5)
    · obtain rfl:=List.mem_singleton.1 hi
      clear hi
      have hb : Below wx.heap.size wx (wx.alloc r1.box):=Ah (Below.refl _ _) _
      refine BX (w1:=wx.alloc r1.box) (.slice (some ⟨wx.heap.size,0,none⟩) 1 1) rfl rfl (by rfl) (by go_simp) ?_
      refine ⟨⟨bj hS.1 hb,fun _ => ⟨trivial,fun h => (AL h (by kernel_rfl)).elim⟩,fun _ => ⟨trivial,fun h => (AL h (by kernel_rfl)).elim⟩,fun _ => ⟨trivial,fun _ => ⟨wx.heap.size,rfl,Rw (Gh wx r1)⟩⟩,fun _ => fun h => (AL h (by kernel_rfl)).elim,fun h => (AL h (by kernel_rfl)).elim⟩,?_⟩
      obtain ⟨B5,hB⟩ : ∃ B,wx.heap.size = B:=⟨_,rfl⟩
      rw [hB]
      clear hb hB hS
      simp only [sc0,sc1]
      refine Ba [0] (by kernel_rfl) (fun i hi wx hS => ?_)
      obtain rfl:=List.mem_singleton.1 hi
      clear hi
      have hb : Below wx.heap.size wx (wx.alloc (.cells #[] 98)):=Ah (Below.refl _ _) _
      refine BX (w1:=wx.alloc (.cells #[] 98)) (.slice (some ⟨wx.heap.size,0,none⟩) 0 0) rfl rfl (by rfl) (by go_simp) ?_
      refine ⟨⟨bj hS.1 hb,fun _ => ⟨trivial,fun _ => rs_empty rfl hS.1.size⟩,fun _ => ⟨trivial,fun h => (AL h (by kernel_rfl)).elim⟩,fun _ => ⟨trivial,fun _ => ((hS.2.2.2.1 (by kernel_rfl)).2 (by kernel_rfl)).elim fun B' h' => ⟨B',h'.1,Bu h'.2 hb⟩⟩,fun _ => fun _ _ => (((hS.2.2.2.1 (by kernel_rfl)).2 (by kernel_rfl)).elim fun B' h' => UI h'.2 h'.1),fun h => (AL h (by kernel_rfl)).elim⟩,?_⟩
      obtain ⟨B0,hB⟩ : ∃ B,wx.heap.size = B:=⟨_,rfl⟩
      rw [hB]
      clear hb hB hS
      simp only [sc0,sc1]
      refine Ba [3] (by kernel_rfl) (fun i hi wx hS => ?_)
      obtain rfl:=List.mem_singleton.1 hi
      clear hi
      have hr0 : OwnRs wx w2.heap.size (.slice (some ⟨B0,0,none⟩) 0 0) []:=(hS.2.1 (by kernel_rfl)).2 (by kernel_rfl)
      obtain ⟨B',hB',hC'⟩:=(hS.2.2.2.1 (by kernel_rfl)).2 (by kernel_rfl)
      have hB' : Value.slice (some ⟨B5,0,none⟩) 1 1 = .slice (some ⟨B',0,none⟩) 1 1:=hB'
      obtain rfl : B5 = B':=by simpa using hB'
      have hap : (Value.slice (some ⟨B0,0,none⟩) 0 0).ownBlock ≠ (Value.slice (some ⟨B5,0,none⟩) 1 1).ownBlock:=hS.2.2.2.2.1 (by kernel_rfl) (by kernel_rfl) (by kernel_rfl)
      refine wpOp_step rfl (Kd.CV Ca (Rr:=Ca.K wx) (w0:=w2) w2.heap.size (by rfl) (.tmp 13) (.tmp 15) 26 98 _ 64 rfl ER Il rfl (by decide) (by decide) (.slice (some ⟨B0,0,none⟩) 0 0) [] e.log Al e.log.length cl (fun _ => True) (fun _ => False) rfl rfl hr0 (Bu HCL.out hS.1) (fun _ _ hk => JR hk) (fun _ hk => hk.elim) (fun _ _ => trivial) hS.1 hS.1.size (by have:=HL.out;simp;omega) (fun v1 w4 hown hb4 hg4 _ => ?_))
      have hown : OwnRs w4 w2.heap.size v1 e.log:=hown
      obtain ⟨A1,c1,rfl, -, -⟩:=Kd.DI hown
      simp only [Cv,sc0,sc1]
      have hC5 : Kd.C Ca w4 (some ⟨B5,0,none⟩) 1 [r1]:=U5 hC' hg4 hap
      refine ⟨⟨hb4,fun h => (AL (by kernel_rfl) h).elim,fun _ => ⟨trivial,fun _ => ⟨_,_,rfl,hown⟩⟩,fun _ => ⟨trivial,fun _ => ⟨_,rfl,hC5⟩⟩,fun h => (AL (by kernel_rfl) h).elim,fun h => (AL h (by kernel_rfl)).elim⟩,?_⟩
      clear hr0 hown hb4 hg4 hS hC' hB' hap hC5
      exact GD (done := [5,3,0,4,2,1]) (by kernel_rfl) (hrest A1 c1 B0 B5)
  intro A1 c1 B0 B5
  refine Ba [6] (by kernel_rfl) (fun i hi w3 hS => ?_)
  obtain rfl:=List.mem_singleton.1 hi
  clear hi
  obtain ⟨h1, -,hB,hC, -, -⟩:=hS
  obtain ⟨A',c',hv,hown16⟩:=(hB (by kernel_rfl)).2 (by kernel_rfl)
  have hv : Value.slice A1 e.log.length c1 = .slice A' e.log.length c':=hv
  obtain ⟨rfl,rfl⟩ : A1 = A' ∧ c1 = c':=by simpa using hv
  have hown16 : OwnRs w3 w2.heap.size (.slice A1 e.log.length c1) e.log:=hown16
  obtain ⟨B',hB',hC'⟩:=(hC (by kernel_rfl)).2 (by kernel_rfl)
  have hB' : Value.slice (some ⟨B5,0,none⟩) 1 1 = .slice (some ⟨B',0,none⟩) 1 1:=hB'
  obtain rfl : B5 = B':=by simpa using hB'
  refine wpOp_step rfl (Kd.CV Ca (Rr:=Ca.K w3) (w0:=w2) w2.heap.size (by rfl) (.tmp 16) (.tmp 18) 26 98 _ 64 rfl ER Il rfl (by decide) (by decide) (.slice A1 e.log.length c1) e.log [r1] (some ⟨B5,0,none⟩) 1 1 (fun _ => True) (fun _ => False) rfl rfl hown16 hC' (fun _ _ hk => JR hk) (fun _ hk => hk.elim) (fun _ _ => trivial) h1 h1.size (by have:=HL.out;simp;omega) (fun v1 w4 hown hb4 hg4 _ => ?_))
  rw [HL1.out] at hown
  obtain ⟨A6,c6,rfl, -, -⟩:=Kd.DI hown
  simp only [Cv,sc0,sc1]
  refine ⟨⟨hb4,fun h => (AL (by kernel_rfl) h).elim,fun h => (AL (by kernel_rfl) h).elim,fun h => (AL (by kernel_rfl) h).elim,fun h => (AL (by kernel_rfl) h).elim,fun _ => ⟨_,_,rfl,hown⟩⟩,?_⟩
  clear h1 hB hC hv hown16 hB' hC' hown hb4 hg4
  refine Ae (i:=7) (v:=?_) HT rfl (by kernel_rfl) rfl (kA Aa (kA (Au rfl rfl rfl) (kA (Au rfl rfl rfl) (kA (Au rfl rfl rfl) (kA (Ll rfl rfl rfl rfl rfl) (Ab rfl rfl)))))) (by rfl) (fun _ _ _ h => h) (fun lx ax wx hS => ?_) ?_;rotate_left;(go_simp;with_reducible rfl);rotate_left;simp only [sc0,sc1]
  refine DV (by kernel_rfl) (fun w5 hS => ?_)
  obtain ⟨hb5, -, -, -, -,h6⟩:=hS
  obtain ⟨A',c',hv,hown⟩:=h6 (by kernel_rfl)
  have hv : Value.slice A6 l1.length c6 = .slice A' l1.length c':=hv
  obtain ⟨rfl,rfl⟩ : A6 = A' ∧ c6 = c':=by simpa using hv
  have hown : OwnRs w5 w2.heap.size (.slice A6 l1.length c6) l1:=hown
  have HB5:=As hb5
  have HL5:=As hown
  have hs0:=HSUM.out
  have hwr : IntKind.i64.wrap ((l1.length : Int) + nd) = (l1.length : Int) + nd:=by simp (disch:=omega) only [IntWalk.i64_in]
  have hcmp : decide (150 < (l1.length : Int) + nd) = false:=by simp;omega
  clear h6 hv hown hb5 x2 z0 z1 z2 z3 z4 z5 z6 z7
  have hkd : r1.kind = r.kind:=by rw [← HR1.out];rfl
  have HKD:=As hkd
  clear hkd
  cases hc : Cx r.kind
  · have HEC : Ac (e.app r = { e with log:=l1 }):=⟨by rw [HE.out,if_neg (by rw [hc];simp)]⟩
    have HCH:=As hc
    clear hc
    go_wp2_with (first
      | (go_at_call 95;refine (Kl (c:=c6) (Below.refl w5.heap.size w5) (Kd.DR HL5.out).2.2 HLOG.out).mono ?_;rw [HND.out];rintro x w6 ⟨rfl,hb6⟩;have hb26:=bj HB5.out hb6;have HB26:=As hb26;have HL6:=As (Kd.CG HL5.out hb6);have hq6:=HQ2.out.up hb26;have HQ6:=As hq6;have HO6:=As (HO2.out.below hb26);have q2:=hq6.c2;have g2:=hq6.frz 2;have z0:=(HRB2.out.up hb26).at.c0;clear hb6 hb26 hq6)
      | (go_at_call 159;obtain ⟨w7,hw7⟩ : ∃ w7,w6.setCell ⟨w.heap.size,2,none⟩ (.slice A6 l1.length c6) = w7:=⟨_,rfl⟩;have hs2:=HS2.out;have h26:=HB26.out.size;have hq7 : Ai w7 w.heap.size { e with log:=l1 } (.slice Ad e.disk.length cd) (.slice Am e.mem.length cm) (.slice A6 l1.length c6):=(by rw [← hw7];exact HQ6.out.set2 _);have hrb7 : Df w7 (w.heap.size + 1) r1:=(by rw [← hw7];exact (HRB2.out.up HB26.out).far (by omega) _ _);have hp7 : Ai w7 (w.heap.size + 1 + 1) zE (.slice none 0 0) (.slice none 0 0) (.slice none 0 0):=(by rw [← hw7];exact (HP2.out.up HB26.out).far (by omega) _ _);have ho7 : AU w7 w0.heap.size (.slice Ad e.disk.length cd) (.slice Am e.mem.length cm) (.slice A6 l1.length c6) { e with log:=l1 }:=(by rw [← hw7];exact ⟨(HO6.out.Gc HQ6.out 2 _).ex,Kd.Gu (NA HL6.out HQ6.out 2 _) (by have:=HB.out.size;omega)⟩);have hb7 : Below w.heap.size w w7:=(by rw [← hw7];exact (bj HB2.out HB26.out).setCell (p:=⟨w.heap.size,2,none⟩) (Nat.le_refl _) _);have HQ7:=As hq7;have HRB7:=As hrb7;have HP7:=As hp7;have HO7:=As ho7;have HB7:=As hb7;have HN7:=As (show w.heap.size + 3 ≤ w7.heap.size by (have : w7.heap.size = w6.heap.size:=(by rw [← hw7];simp));omega);rw [hw7];refine (Fj (k:=r1.kind) (b:=false) (by rw [HKD.out];exact HCH.out) _).mono ?_;rintro x w' ⟨rfl,rfl⟩;clear hw7 hs2 h26 hq7 hrb7 hp7 ho7 hb7 q2 g2 z0;have x0:=HQ7.out.c0;have x1:=HQ7.out.c1;have x2:=HQ7.out.c2;have x3:=HQ7.out.c3;have x4:=HQ7.out.c4;have y0:=HP7.out.c0;have y1:=HP7.out.c1;have y2:=HP7.out.c2;have y3:=HP7.out.c3;have y4:=HP7.out.c4;have f0:=HP7.out.frz 0;have f1:=HP7.out.frz 1;have f2:=HP7.out.frz 2;have f3:=HP7.out.frz 3;have f4:=HP7.out.frz 4))
    have HPZ:=HP7
    have HQZ:=HQ7
    have HOZ:=HO7
    have HBZ:=As (bj HB.out HB7.out)
    have HBZw:=HN7
    have HKZ:=As (show Ip w (.slice Am e.mem.length cm) w7 from Kept.of_below HB7.out _)
    have hwz:=HBZw.out
    have hsz:=HB.out.size
    have hy:=HPZ.out.Az { e with log:=l1 } (.slice Ad e.disk.length cd) (.slice Am e.mem.length cm) (.slice A6 l1.length c6)
    have h1:=HOZ.out.Az (f:={ e with log:=l1 }) (xd:=.slice Ad e.disk.length cd) (xm:=(.slice Am e.mem.length cm)) (xl:=.slice A6 l1.length c6) HPZ.out
    have h2:=Ao (g:=w.heap.size + 1 + 1) HBZ.out (by omega) { e with log:=l1 } (.slice Ad e.disk.length cd) (.slice Am e.mem.length cm) (.slice A6 l1.length c6)
    have z0:=hy.c0
    have z1:=hy.c1
    have z2:=hy.c2
    have z3:=hy.c3
    have z4:=hy.c4
    simp only at z0 z1 z2 z3 z4
    exact bodyPost_ret (v:=.tuple #[.agg #[.slice Ad e.disk.length cd,(.slice Am e.mem.length cm), .slice A6 l1.length c6, .int .i64 e.safe, .bool e.down], .bool true]) (by simp [results,Tryz.results125,go_sem,z0,z1,z2,z3,z4]) rfl ⟨.slice Ad e.disk.length cd,(.slice Am e.mem.length cm), .slice A6 l1.length c6,by rw [HEC.out],by rw [HEC.out];exact h1,h2,CK HKZ.out (by omega) _ _ _ _⟩
  · have HCH:=As hc
    obtain ⟨p,hpp⟩ : ∃ p : Nat,r.page = (p : Int):=⟨r.page.toNat,by have:=(HRT.out hc).1;omega⟩
    have hp5 : p < 5:=by have:=(HRT.out hc).2.1;omega
    have hsl:=(HRT.out hc).2.2
    obtain ⟨q,hqq⟩ : ∃ q,doR (pg e.mem p) r1 (l1.length : Nat) = q:=⟨_,rfl⟩
    have HEC : Ac (e.app r = { e with log:=l1,mem:=e.mem.set p q }):=⟨by rw [HE.out,if_pos hc,show r.page.toNat = p by omega, ← hqq,HLL.out]⟩
    have HQQ:=As hqq
    have HPP:=As (show r1.page = (p : Int) by rw [← HR1.out];exact hpp)
    have HSL:=As (show r1.slot < 3 by rw [← HR1.out];exact hsl)
    clear hc hpp hsl hqq
    go_wp2_with (first
      | (go_at_call 95;refine (Kl (c:=c6) (Below.refl w5.heap.size w5) (Kd.DR HL5.out).2.2 HLOG.out).mono ?_;rw [HND.out];rintro x w6 ⟨rfl,hb6⟩;have hb26:=bj HB5.out hb6;have HB26:=As hb26;have HL6:=As (Kd.CG HL5.out hb6);have hq6:=HQ2.out.up hb26;have HQ6:=As hq6;have HO6:=As (HO2.out.below hb26);have q2:=hq6.c2;have g2:=hq6.frz 2;have z0:=(HRB2.out.up hb26).at.c0;clear hb6 hb26 hq6)
      | (go_at_call 159;obtain ⟨w7,hw7⟩ : ∃ w7,w6.setCell ⟨w.heap.size,2,none⟩ (.slice A6 l1.length c6) = w7:=⟨_,rfl⟩;have hs2:=HS2.out;have h26:=HB26.out.size;have hq7 : Ai w7 w.heap.size { e with log:=l1 } (.slice Ad e.disk.length cd) (.slice Am e.mem.length cm) (.slice A6 l1.length c6):=(by rw [← hw7];exact HQ6.out.set2 _);have hrb7 : Df w7 (w.heap.size + 1) r1:=(by rw [← hw7];exact (HRB2.out.up HB26.out).far (by omega) _ _);have hp7 : Ai w7 (w.heap.size + 1 + 1) zE (.slice none 0 0) (.slice none 0 0) (.slice none 0 0):=(by rw [← hw7];exact (HP2.out.up HB26.out).far (by omega) _ _);have ho7 : AU w7 w0.heap.size (.slice Ad e.disk.length cd) (.slice Am e.mem.length cm) (.slice A6 l1.length c6) { e with log:=l1 }:=(by rw [← hw7];exact ⟨(HO6.out.Gc HQ6.out 2 _).ex,Kd.Gu (NA HL6.out HQ6.out 2 _) (by have:=HB.out.size;omega)⟩);have hb7 : Below w.heap.size w w7:=(by rw [← hw7];exact (bj HB2.out HB26.out).setCell (p:=⟨w.heap.size,2,none⟩) (Nat.le_refl _) _);have HQ7:=As hq7;have HRB7:=As hrb7;have HP7:=As hp7;have HO7:=As ho7;have HB7:=As hb7;have HN7:=As (show w.heap.size + 3 ≤ w7.heap.size by (have : w7.heap.size = w6.heap.size:=(by rw [← hw7];simp));omega);rw [hw7];refine (Fj (k:=r1.kind) (b:=true) (by rw [HKD.out];exact HCH.out) _).mono ?_;rintro x w' ⟨rfl,rfl⟩;clear hw7 hs2 h26 hq7 hrb7 hp7 ho7 hb7 q2 g2 z0))
    have hgm5:=HGM.out.1
    obtain ⟨okd,okm,hap,hpd,hpm⟩:=HO7.out.ex
    obtain ⟨gm,capm,hfm, -,hgml⟩:=Cb hpm (by show 0 < e.mem.length;omega)
    injection hfm with hf1 hf2 hf3
    subst hf1 hf3
    have hpl : p < e.mem.length:=by omega
    have hp5i : (p : Int) < 5:=by omega
    obtain ⟨A2,c2,p0,p1,p2,pC, -⟩:=Dz hpm p hpl
    have x1:=HQ7.out.c1
    obtain ⟨z0,z1,z2,z3,z4,z5,z6,z7⟩:=HRB7.out.at
    simp only [Nat.zero_add] at z1 z2 z3 z4 z5 z6 z7
    rw [HPP.out] at z2
    have HPC:=As pC
    have HPD:=As hpd
    have HPM:=As hpm
    have HAP:=As hap
    have HVL3:=As (EW HGM.out hp5)
    have hcall : ∀ wx,Below w7.heap.size w7 wx → Calls Tryz.prog 160 #[(pg e.mem p).val A2 c2, .agg #[.int .i64 r1.kind, .int .i64 r1.tx, .int .i64 (p : Int), .int .i64 r1.slot, .int .i64 r1.old, .int .i64 r1.new, .int .i64 r1.prev, .int .i64 r1.next], .int .i64 (l1.length : Int)] wx (Ox wx q):=fun wx hb => by
      have h:=NR (c:=c2) r1 (l1.length : Int) (by rw [HVL3.out];decide) (by rw [HVL3.out];exact HSL.out) hb HPC.out
      rw [show doR (pg e.mem p) r1 (l1.length : Int) = q from HQQ.out] at h
      unfold Rec.val at h
      rw [HPP.out] at h
      exact h
    have HCALL:=As hcall
    clear pC hpd hpm hap hgml hcall hf2
    refine AX (fun lx a wx => Below w7.heap.size w7 wx ∧ Sl 13 45 (fun v wx => ∃ u,v = q.own u ∧ AV wx w7.heap.size u q.vals) lx a wx) 15 rfl (by kernel_rfl) (⟨Ak (Below.refl _ _),Bc⟩) (fun HT => ?_)
    refine Ae (i:=0) (v:=?_) HT rfl (by kernel_rfl) rfl (kA Aa (Ab rfl rfl)) (by rfl) (fun _ _ _ h => h) (fun lx ax wx hS => ?_) ?_;rotate_left;(have hbx:=hS.1;clear hS;replace x1:=bc hbx x1;replace p0:=bc hbx p0;replace p1:=bc hbx p1;replace p2:=bc hbx p2;replace z0:=bc hbx z0;replace z1:=bc hbx z1;replace z2:=bc hbx z2;replace z3:=bc hbx z3;replace z4:=bc hbx z4;replace z5:=bc hbx z5;replace z6:=bc hbx z6;replace z7:=bc hbx z7;go_simp;with_reducible rfl);rotate_left;simp only [sc0,sc1]
    refine Ae (i:=1) (v:=?_) HT rfl (by kernel_rfl) rfl (kA Aa (Ab rfl rfl)) (by rfl) (fun _ _ _ h => h) (fun lx ax wx hS => ?_) ?_;rotate_left;(have hbx:=hS.1;clear hS;replace x1:=bc hbx x1;replace p0:=bc hbx p0;replace p1:=bc hbx p1;replace p2:=bc hbx p2;replace z0:=bc hbx z0;replace z1:=bc hbx z1;replace z2:=bc hbx z2;replace z3:=bc hbx z3;replace z4:=bc hbx z4;replace z5:=bc hbx z5;replace z6:=bc hbx z6;replace z7:=bc hbx z7;go_simp;with_reducible rfl);rotate_left;simp only [sc0,sc1]
    refine Ae (i:=2) (v:=?_) HT rfl (by kernel_rfl) rfl (kA Aa (Ab rfl rfl)) (by rfl) (fun _ _ _ h => h) (fun lx ax wx hS => ?_) ?_;rotate_left;(have hbx:=hS.1;clear hS;replace x1:=bc hbx x1;replace p0:=bc hbx p0;replace p1:=bc hbx p1;replace p2:=bc hbx p2;replace z0:=bc hbx z0;replace z1:=bc hbx z1;replace z2:=bc hbx z2;replace z3:=bc hbx z3;replace z4:=bc hbx z4;replace z5:=bc hbx z5;replace z6:=bc hbx z6;replace z7:=bc hbx z7;go_simp;with_reducible rfl);rotate_left;simp only [sc0,sc1]
    refine Ae (i:=3) (v:=?_) HT rfl (by kernel_rfl) rfl (kA Aa (Ab rfl rfl)) (by rfl) (fun _ _ _ h => h) (fun lx ax wx hS => ?_) ?_;rotate_left;(have hbx:=hS.1;clear hS;replace x1:=bc hbx x1;replace p0:=bc hbx p0;replace p1:=bc hbx p1;replace p2:=bc hbx p2;replace z0:=bc hbx z0;replace z1:=bc hbx z1;replace z2:=bc hbx z2;replace z3:=bc hbx z3;replace z4:=bc hbx z4;replace z5:=bc hbx z5;replace z6:=bc hbx z6;replace z7:=bc hbx z7;go_simp;with_reducible rfl);rotate_left;simp only [sc0,sc1]
    refine Ae (i:=4) (v:=?_) HT rfl (by kernel_rfl) rfl (kA Aa (Ab rfl rfl)) (by rfl) (fun _ _ _ h => h) (fun lx ax wx hS => ?_) ?_;rotate_left;(have hbx:=hS.1;clear hS;replace x1:=bc hbx x1;replace p0:=bc hbx p0;replace p1:=bc hbx p1;replace p2:=bc hbx p2;replace z0:=bc hbx z0;replace z1:=bc hbx z1;replace z2:=bc hbx z2;replace z3:=bc hbx z3;replace z4:=bc hbx z4;replace z5:=bc hbx z5;replace z6:=bc hbx z6;replace z7:=bc hbx z7;go_simp;with_reducible rfl);rotate_left;simp only [sc0,sc1]
    refine Ae (i:=5) (v:=?_) HT rfl (by kernel_rfl) rfl (kA Aa (Ab rfl rfl)) (by rfl) (fun _ _ _ h => h) (fun lx ax wx hS => ?_) ?_;rotate_left;(have hbx:=hS.1;clear hS;replace x1:=bc hbx x1;replace p0:=bc hbx p0;replace p1:=bc hbx p1;replace p2:=bc hbx p2;replace z0:=bc hbx z0;replace z1:=bc hbx z1;replace z2:=bc hbx z2;replace z3:=bc hbx z3;replace z4:=bc hbx z4;replace z5:=bc hbx z5;replace z6:=bc hbx z6;replace z7:=bc hbx z7;go_simp;with_reducible rfl);rotate_left;simp only [sc0,sc1]
    refine Ae (i:=6) (v:=?_) HT rfl (by kernel_rfl) rfl (kA Aa (Ab rfl rfl)) (by rfl) (fun _ _ _ h => h) (fun lx ax wx hS => ?_) ?_;rotate_left;(have hbx:=hS.1;clear hS;replace x1:=bc hbx x1;replace p0:=bc hbx p0;replace p1:=bc hbx p1;replace p2:=bc hbx p2;replace z0:=bc hbx z0;replace z1:=bc hbx z1;replace z2:=bc hbx z2;replace z3:=bc hbx z3;replace z4:=bc hbx z4;replace z5:=bc hbx z5;replace z6:=bc hbx z6;replace z7:=bc hbx z7;go_simp;with_reducible rfl);rotate_left;simp only [sc0,sc1]
    refine Ae (i:=7) (v:=?_) HT rfl (by kernel_rfl) rfl (kA Aa (Ab rfl rfl)) (by rfl) (fun _ _ _ h => h) (fun lx ax wx hS => ?_) ?_;rotate_left;(have hbx:=hS.1;clear hS;replace x1:=bc hbx x1;replace p0:=bc hbx p0;replace p1:=bc hbx p1;replace p2:=bc hbx p2;replace z0:=bc hbx z0;replace z1:=bc hbx z1;replace z2:=bc hbx z2;replace z3:=bc hbx z3;replace z4:=bc hbx z4;replace z5:=bc hbx z5;replace z6:=bc hbx z6;replace z7:=bc hbx z7;go_simp;with_reducible rfl);rotate_left;simp only [sc0,sc1]
    refine Ae (i:=8) (v:=?_) HT rfl (by kernel_rfl) rfl (kA Aa (Ab rfl rfl)) (by rfl) (fun _ _ _ h => h) (fun lx ax wx hS => ?_) ?_;rotate_left;(have hbx:=hS.1;clear hS;replace x1:=bc hbx x1;replace p0:=bc hbx p0;replace p1:=bc hbx p1;replace p2:=bc hbx p2;replace z0:=bc hbx z0;replace z1:=bc hbx z1;replace z2:=bc hbx z2;replace z3:=bc hbx z3;replace z4:=bc hbx z4;replace z5:=bc hbx z5;replace z6:=bc hbx z6;replace z7:=bc hbx z7;go_simp;with_reducible rfl);rotate_left;simp only [sc0,sc1]
    refine Ae (i:=9) (v:=?_) HT rfl (by kernel_rfl) rfl (kA Aa (Ab rfl rfl)) (by rfl) (fun _ _ _ h => h) (fun lx ax wx hS => ?_) ?_;rotate_left;(have hbx:=hS.1;clear hS;replace x1:=bc hbx x1;replace p0:=bc hbx p0;replace p1:=bc hbx p1;replace p2:=bc hbx p2;replace z0:=bc hbx z0;replace z1:=bc hbx z1;replace z2:=bc hbx z2;replace z3:=bc hbx z3;replace z4:=bc hbx z4;replace z5:=bc hbx z5;replace z6:=bc hbx z6;replace z7:=bc hbx z7;go_simp;with_reducible rfl);rotate_left;simp only [sc0,sc1]
    refine Ae (i:=10) (v:=?_) HT rfl (by kernel_rfl) rfl (kA Aa (Ab rfl rfl)) (by rfl) (fun _ _ _ h => h) (fun lx ax wx hS => ?_) ?_;rotate_left;(have hbx:=hS.1;clear hS;replace x1:=bc hbx x1;replace p0:=bc hbx p0;replace p1:=bc hbx p1;replace p2:=bc hbx p2;replace z0:=bc hbx z0;replace z1:=bc hbx z1;replace z2:=bc hbx z2;replace z3:=bc hbx z3;replace z4:=bc hbx z4;replace z5:=bc hbx z5;replace z6:=bc hbx z6;replace z7:=bc hbx z7;go_simp;with_reducible rfl);rotate_left;simp only [sc0,sc1]
    refine Ae (i:=11) (v:=?_) HT rfl (by kernel_rfl) rfl (kA Aa (Ab rfl rfl)) (by rfl) (fun _ _ _ h => h) (fun lx ax wx hS => ?_) ?_;rotate_left;(have hbx:=hS.1;clear hS;replace x1:=bc hbx x1;replace p0:=bc hbx p0;replace p1:=bc hbx p1;replace p2:=bc hbx p2;replace z0:=bc hbx z0;replace z1:=bc hbx z1;replace z2:=bc hbx z2;replace z3:=bc hbx z3;replace z4:=bc hbx z4;replace z5:=bc hbx z5;replace z6:=bc hbx z6;replace z7:=bc hbx z7;go_simp;with_reducible rfl);rotate_left;simp only [sc0,sc1]
    refine Ae (i:=12) (v:=?_) HT rfl (by kernel_rfl) rfl (kA Aa (Ab rfl rfl)) (by rfl) (fun _ _ _ h => h) (fun lx ax wx hS => ?_) ?_;rotate_left;(have hbx:=hS.1;clear hS;replace x1:=bc hbx x1;replace p0:=bc hbx p0;replace p1:=bc hbx p1;replace p2:=bc hbx p2;replace z0:=bc hbx z0;replace z1:=bc hbx z1;replace z2:=bc hbx z2;replace z3:=bc hbx z3;replace z4:=bc hbx z4;replace z5:=bc hbx z5;replace z6:=bc hbx z6;replace z7:=bc hbx z7;go_simp;with_reducible rfl);rotate_left;simp only [sc0,sc1]
    refine C9 (i:=13) (f:=160) (args:=#[(pg e.mem p).val A2 c2, .agg #[.int .i64 r1.kind, .int .i64 r1.tx, .int .i64 (p : Int), .int .i64 r1.slot, .int .i64 r1.old, .int .i64 r1.new, .int .i64 r1.prev, .int .i64 r1.next], .int .i64 (l1.length : Int)]) (fun v => ∃ u,v = q.own u) rfl (by kernel_rfl) rfl Tryz.func160 (by kernel_rfl) rfl rfl (by rfl) (by simp only [List.map_toArray,List.map_cons,List.map_nil];rfl) (fun wx hS => (HCALL.out wx hS.1).mono (by rintro x w8 ⟨u,rfl,ho,hb⟩;exact ⟨_,rfl,⟨u,rfl⟩,bj hS.1 hb,fun _ => ⟨u,rfl,ho.lower hS.1.size⟩⟩)) (fun vx hg => ?_);simp only [sc0,sc1]
    obtain ⟨u,rfl⟩:=hg
    refine Ae (i:=14) (v:=?_) HT rfl (by kernel_rfl) rfl (kA Aa (Ab rfl rfl)) (by rfl) (fun _ _ _ h => h) (fun lx ax wx hS => ?_) ?_;rotate_left;(go_simp;with_reducible rfl);rotate_left;simp only [sc0,sc1]
    refine Cg (i:=15) (by kernel_rfl) rfl (fun wx hS => ?_)
    obtain ⟨h1,h3⟩:=hS
    obtain ⟨u1,hu1,hown⟩:=h3 (by kernel_rfl)
    have hu1 : q.own u = q.own u1:=hu1
    obtain rfl : u = u1:=by simpa using hu1
    refine Ej (ok:=okm) (w0:=w0) (N:=w7.heap.size) (q:=q) p rfl (.tmp 46) (.tmp 45) rfl (by rfl) rfl rfl rfl hown (by have:=HB.out.size;have:=HN7.out;omega) (Kd.DC HPM.out h1) hpl (bj HB.out (bj HB7.out h1)) (fun w8 hO8 hB8 hg8 => ?_)
    refine BQ (by kernel_rfl) ?_
    have hd8:=Kd.DC HPD.out h1
    have hty:=Kd.Fu (Kd.Br HPM.out h1) gm (by simp [Value.ownBlock])
    have he8:=AU.Pt (e:={ e with log:=l1 }) HAP.out hd8 (Kd.CG HO7.out.l h1) hown hO8 (L8 HPM.out gm (by simp [Value.ownBlock])) hg8 hty
    have hq8 : Ai w8 w.heap.size { e with log:=l1,mem:=e.mem.set p q } (.slice Ad e.disk.length cd) (.slice (some ⟨gm,0,none⟩) e.mem.length cm) (.slice A6 l1.length c6):=(hg8.block _ (by have:=HN7.out;have:=h1.size;omega) (fun e2 => by injection e2 with e2;exact Fq HQ7.out HPM.out e2)).trans (HQ7.out.up h1)
    have hp8 : Ai w8 (w.heap.size + 1 + 1) zE (.slice none 0 0) (.slice none 0 0) (.slice none 0 0):=(hg8.block _ (by have:=HN7.out;have:=h1.size;omega) (fun e2 => by injection e2 with e2;exact Fq HP7.out HPM.out e2)).trans (HP7.out.up h1)
    have HKZ:=As (show Ip w (.slice (some ⟨gm,0,none⟩) e.mem.length cm) w8 from Kept.Jy hg8 (Kept.of_below (bj HB7.out h1) _) (fun k hk => .inl (by simp only [Value.ownBlock];exact hk.symm)))
    have HPZ:=As hp8
    have HQZ:=As hq8
    have HOZ:=As he8
    have HBZ:=As hB8
    have HBZw : Ac (w.heap.size + 3 ≤ w8.heap.size):=⟨by have:=HN7.out;have:=h1.size;have:=hg8.size;omega⟩
    clear h1 h3 hu1 hown hO8 hB8 hg8 hd8 hty he8 hq8 hp8 x1 p0 p1 p2 z0 z1 z2 z3 z4 z5 z6 z7 hpl hgm5 hp5i hp5
    have y:=HPZ.out
    have y0:=y.c0
    have y1:=y.c1
    have y2:=y.c2
    have y3:=y.c3
    have y4:=y.c4
    have f0:=y.frz 0
    have f1:=y.frz 1
    have f2:=y.frz 2
    have f3:=y.frz 3
    have f4:=y.frz 4
    have x0:=HQZ.out.c0
    have x1:=HQZ.out.c1
    have x2:=HQZ.out.c2
    have x3:=HQZ.out.c3
    have x4:=HQZ.out.c4
    clear y
    go_wp2
    have hwz:=HBZw.out
    have hsz:=HB.out.size
    have hy:=HPZ.out.Az { e with log:=l1,mem:=e.mem.set p q } (.slice Ad e.disk.length cd) (.slice (some ⟨gm,0,none⟩) e.mem.length cm) (.slice A6 l1.length c6)
    have h1:=HOZ.out.Az (f:={ e with log:=l1,mem:=e.mem.set p q }) (xd:=.slice Ad e.disk.length cd) (xm:=(.slice (some ⟨gm,0,none⟩) e.mem.length cm)) (xl:=.slice A6 l1.length c6) HPZ.out
    have h2:=Ao (g:=w.heap.size + 1 + 1) HBZ.out (by omega) { e with log:=l1,mem:=e.mem.set p q } (.slice Ad e.disk.length cd) (.slice (some ⟨gm,0,none⟩) e.mem.length cm) (.slice A6 l1.length c6)
    have z0:=hy.c0
    have z1:=hy.c1
    have z2:=hy.c2
    have z3:=hy.c3
    have z4:=hy.c4
    simp only at z0 z1 z2 z3 z4
    exact bodyPost_ret (v:=.tuple #[.agg #[.slice Ad e.disk.length cd,(.slice (some ⟨gm,0,none⟩) e.mem.length cm), .slice A6 l1.length c6, .int .i64 e.safe, .bool e.down], .bool true]) (by simp [results,Tryz.results125,go_sem,z0,z1,z2,z3,z4]) rfl ⟨.slice Ad e.disk.length cd,(.slice (some ⟨gm,0,none⟩) e.mem.length cm), .slice A6 l1.length c6,by rw [HEC.out],by rw [HEC.out];exact h1,h2,CK HKZ.out (by omega) _ _ _ _⟩
/-- An engine of the call's own; of what was there the row of pages in memory alone may have been written. -/
def X7 (w0 w : World) (vm : Value) (e : Eng) (x : Ending) (w' : World) : Prop := ∃ vd' vm' vl',x = .returned (e.ag vd' vm' vl') ∧ AU w' w0.heap.size vd' vm' vl' e ∧ Below w0.heap.size w0 w' ∧ Ip w vm w'
theorem RG {R : Value → Value → Value → Nat → Prop} {G : Prop} (h1 : (∀ a b c d,R a b c d) → G) (h2 : ∀ a b c d,R a b c d) : G:=h1 h2
/-- The log is as it was. -/
theorem AU.Pw {w w1 : World} {b n c : Nat} {A : Option Addr} {vd vm : Value} {e : Eng} (h : AU w b vd vm (.slice A n c) e) (hk : Ip w vm w1) : Kd.C Ca w1 A e.log.length e.log:=by
  obtain ⟨okd,okm, -, -,hm⟩:=h.ex
  have hr:=Kd.SF (Kd.Q8 rfl h.l) hk (fun k hx hy => by
    obtain ⟨c1,h1⟩:=I6 h.l k hx.symm
    obtain ⟨c2,h2⟩:=Kd.Fu hm k hy.symm
    rw [h1] at h2
    injection h2 with h2
    injection h2 with _ h3
    exact absurd h3 (by decide))
  obtain ⟨A',c',h1, -,h2⟩:=Kd.DI hr
  injection h1 with h1
  subst h1
  exact h2
theorem RF {e : Eng} {tx : Int} (hs : IY e tx) : Cx (Dv e tx).kind = true → 0 ≤ (Dv e tx).page ∧ (Dv e tx).page < 5 ∧ (Dv e tx).slot < 3:=fun hc => by
  have h1:=hs.may hc
  simp only [Fa,Bool.and_eq_true] at h1
  have h2:=GU h1.2.1 hc
  have h3 : (CO e tx).page = (Dv e tx).page:=rfl
  have h4 : (CO e tx).slot = (Dv e tx).slot:=rfl
  omega
theorem V4 {e : Eng} {tx : Int} (hs : IY e tx) : AP (e.log ++ [Dl (Dv e tx) (Aj e.log (Dv e tx).tx e.log.length)]) = true:=hs.log'
theorem Uf {e : Eng} {tx : Int} (hs : IY e tx) : e.log.length + 1 + Bp (e.log ++ [Dl (Dv e tx) (Aj e.log (Dv e tx).tx e.log.length)]) (e.log.length + 1) ≤ 150:=hs.room
set_option maxRecDepth 100000 in
set_option maxHeartbeats 8000000 in
theorem Kj {w0 w : World} {e : Eng} {vd vm vl : Value} {tx : Int} (hs : IY e tx) (hb : Below w0.heap.size w0 w) (hr : AU w w0.heap.size vd vm vl e) : Calls Tryz.prog 102 #[e.ag vd vm vl, .int .i64 tx] w (X7 w0 w vm (Bg e tx)):=by
  obtain ⟨Ad,cd,Am,cm,Al,cl,rfl,rfl,rfl,hcl,hrd⟩:=hr.reads
  obtain ⟨w1a,hw1a⟩ : ∃ w1a,w.alloc (e.obox (.slice Ad e.disk.length cd) (.slice Am e.mem.length cm) (.slice Al e.log.length cl)) = w1a:=⟨_,rfl⟩
  obtain ⟨w1,hw1⟩ : ∃ w1,w1a.alloc (zE.obox (.slice none 0 0) (.slice none 0 0) (.slice none 0 0)) = w1:=⟨_,rfl⟩
  have hza : w1a.heap.size = w.heap.size + 1:=by rw [← hw1a];exact BF _ _
  have hz1 : w1.heap.size = w.heap.size + 2:=by rw [← hw1,BF,hza]
  have hba : Below w1a.heap.size w1a w1:=by rw [← hw1];exact Ah (Below.refl _ _) _
  have hb1 : Below w.heap.size w w1:=by rw [← hw1, ← hw1a];exact Ah (Ah (Below.refl _ _) _) _
  have HQ1 : Ac (Ai w1 w.heap.size e (.slice Ad e.disk.length cd) (.slice Am e.mem.length cm) (.slice Al e.log.length cl)):=⟨Ai.up (by rw [← hw1a];exact Ai.mk1 _ _ _ _ _) hba⟩
  have HP1 : Ac (Ai w1 (w.heap.size + 1) zE (.slice none 0 0) (.slice none 0 0) (.slice none 0 0)):=⟨by rw [← hw1, ← hza];exact Ai.mk1 _ _ _ _ _⟩
  have HW1 : Ac ((w.alloc (e.obox (.slice Ad e.disk.length cd) (.slice Am e.mem.length cm) (.slice Al e.log.length cl))).alloc (zE.obox (.slice none 0 0) (.slice none 0 0) (.slice none 0 0)) = w1):=⟨by rw [hw1a,hw1]⟩
  have HZ1s:=As hz1
  have HB1:=As hb1
  have HB:=As hb
  have HO1:=As (hr.below hb1)
  have HC1:=As (hrd.up hb1)
  have HS:=As hs
  have hlg:=Be hs.log
  obtain ⟨ln,hln⟩ : ∃ ln : Nat,Aj e.log tx e.log.length = ln:=⟨_,rfl⟩
  have hlnl : ln ≤ e.log.length:=by rw [← hln];exact AY _ _ _
  obtain ⟨k,hk⟩ : ∃ k : Nat,Bq e.log ln = k:=⟨_,rfl⟩
  have hkl : k ≤ e.log.length:=by rw [← hk];exact Nat.le_trans GA hlnl
  have HLN:=As hln
  have HLL:=As hlnl
  have HK:=As hk
  obtain ⟨r,hnx⟩ : ∃ r,Dv e tx = r:=⟨_,rfl⟩
  have HNX : Ac (r = if k = 0 then ⟨5,tx,0,0,0,0,0,0⟩ else Bj (rc e.log (k - 1)) 0):=⟨by rw [← hnx];unfold Dv;rw [show lastT e tx = ln from hln,hk]⟩
  have h1:=RF hs
  have h2:=V4 hs
  have h3:=Uf hs
  have hE : Bg e tx = e.app r:=by unfold Bg;rw [hnx]
  rw [hnx] at h1 h2 h3
  rw [hE]
  have HRT:=As h1
  have HLOG:=As h2
  have HROOM:=As h3
  have x0:=HQ1.out.c0
  have x1:=HQ1.out.c1
  have x2:=HQ1.out.c2
  have x3:=HQ1.out.c3
  have x4:=HQ1.out.c4
  have HGM:=As hs.geo
  clear hw1a hw1 hza hz1 hba hb1 hb hr hrd hs hln hlnl hk h1 h2 h3 hE hnx
  have hadd : ∀ wx vd' vm' vl',AU wx w0.heap.size vd' vm' vl' e → Below w0.heap.size w0 wx → Calls Tryz.prog 125 #[e.ag vd' vm' vl',r.val] wx (GX w0 wx vm' (e.app r) true):=fun wx vd' vm' vl' ho hb => Ew r HGM.out HLOG.out HROOM.out HRT.out hb ho
  have HADD:=As hadd
  have hback : ∀ wx,Below w1.heap.size w1 wx → Calls Tryz.prog 161 #[.slice Al e.log.length cl, .int .i64 ln] wx fun x w' => x = .returned (.int .i64 k) ∧ Below w1.heap.size w1 w':=fun wx hb => by
    have:=FV (c:=cl) HLL.out hb HC1.out.l HS.out.log
    rw [HK.out] at this
    exact this
  have HBACK:=As hback
  obtain ⟨E,hEE⟩ : ∃ E,e.app r = E:=⟨_,rfl⟩
  have HEE:=As hEE
  rw [hEE]
  clear hadd hback hEE
  rcases k with _ | k
  · have hr0 : r = ⟨5,tx,0,0,0,0,0,0⟩:=by rw [HNX.out,if_pos rfl]
    have HR0:=As hr0
    clear hr0
    go_enter Tryz.func102,Tryz.ntmps102
    go_wp2_with (first
      | (go_at_call 115;rw [show (w.alloc (Obj.cells #[Value.slice Ad e.disk.length cd,Value.slice Am e.mem.length cm,Value.slice Al e.log.length cl,Value.int IntKind.i64 e.safe,Value.bool e.down] 28)).alloc (Obj.cells #[Value.slice none 0 0,Value.slice none 0 0,Value.slice none 0 0,Value.int IntKind.i64 0,Value.bool false] 28) = w1 from HW1.out];refine (Du (c:=cl) HLN.out (Below.refl w1.heap.size w1) HC1.out.l).mono ?_;rintro x w' ⟨rfl,rfl⟩)
      | (go_at_call 161;refine (HBACK.out _ (Below.refl _ _)).mono ?_;rintro x w2 ⟨rfl,hb2⟩;have HB2:=As hb2;replace x0:=bc hb2 x0;replace x1:=bc hb2 x1;replace x2:=bc hb2 x2;replace x3:=bc hb2 x3;replace x4:=bc hb2 x4;clear hb2)
      | (go_at_call 125;have h:=HADD.out w2 _ _ _ (HO1.out.below HB2.out) (bj HB.out (bj HB1.out HB2.out));rw [HR0.out] at h;refine h.mono ?_;rw [← HR0.out,HEE.out];clear h;rintro x w3 ⟨ud,um,ul,rfl,ho,hb3,hk3⟩;obtain ⟨Bd,dd,Bm,dm,Bl,dl,rfl,rfl,rfl, -, -⟩:=ho.reads;have HO3:=As ho;have HB3:=As hb3;have HP3:=As ((HP1.out.up HB2.out).EC (HO1.out.below HB2.out) hk3);have HK3:=As ((Kept.of_below (bj HB1.out HB2.out) (fun k => some k = (Value.slice Am e.mem.length cm).ownBlock)).D6 hk3 (fun k hk => .inl hk));have HN3:=As hk3.1;clear ho hb3 hk3 x0 x1 x2 x3 x4)
      | (refine Ay (vd:=.slice Bd E.disk.length dd) (vm:=.slice Bm E.mem.length dm) (vl:=.slice Bl E.log.length dl) E ?_;intro w4 hb4 _ hq4;have HO4:=As (HO3.out.below hb4);have HB4:=As (bj HB3.out hb4);have HK4:=As (HK3.out.below hb4);have hp4:=HP3.out.up hb4;have HP4:=As hp4;have x0:=hq4.c0;have x1:=hq4.c1;have x2:=hq4.c2;have x3:=hq4.c3;have x4:=hq4.c4;have y0:=hp4.c0;have y1:=hp4.c1;have y2:=hp4.c2;have y3:=hp4.c3;have y4:=hp4.c4;have f0:=hp4.frz 0;have f1:=hp4.frz 1;have f2:=hp4.frz 2;have f3:=hp4.frz 3;have f4:=hp4.frz 4;clear hb4 hq4 hp4))
    have hy:=HP4.out.Az E (.slice Bd E.disk.length dd) (.slice Bm E.mem.length dm) (.slice Bl E.log.length dl)
    have h1:=HO4.out.Az (f:=E) (xd:=.slice Bd E.disk.length dd) (xm:=.slice Bm E.mem.length dm) (xl:=.slice Bl E.log.length dl) HP4.out
    have h2:=Ao (g:=w.heap.size + 1) HB4.out (by have:=HB.out.size;omega) E (.slice Bd E.disk.length dd) (.slice Bm E.mem.length dm) (.slice Bl E.log.length dl)
    have h3:=CK (g:=w.heap.size + 1) HK4.out (by omega) E (.slice Bd E.disk.length dd) (.slice Bm E.mem.length dm) (.slice Bl E.log.length dl)
    have z0:=hy.c0
    have z1:=hy.c1
    have z2:=hy.c2
    have z3:=hy.c3
    have z4:=hy.c4
    exact bodyPost_ret (v:=E.ag (.slice Bd E.disk.length dd) (.slice Bm E.mem.length dm) (.slice Bl E.log.length dl)) (by simp [results,Tryz.results102,go_sem,z0,z1,z2,z3,z4]) rfl ⟨_,_,_,rfl,h1,h2,h3⟩
  · have hkk : k < e.log.length:=by omega
    obtain ⟨rb,hrb⟩ : ∃ rb,Bj (rc e.log k) (ln : Int) = rb:=⟨_,rfl⟩
    have hr0 : rb = Dl r (ln : Int):=by rw [HNX.out,if_neg (by omega),Nat.add_sub_cancel, ← hrb];rfl
    have HRB:=As hrb
    have HADD2 : Ac (∀ wx,AU wx w0.heap.size (.slice Ad e.disk.length cd) (.slice Am e.mem.length cm) (.slice Al e.log.length cl) e → Below w0.heap.size w0 wx → Calls Tryz.prog 125 #[e.val Ad Am Al cd cm cl,rb.val] wx (GX w0 wx (.slice Am e.mem.length cm) E true)):=⟨fun wx ho hb => by
      rw [hr0, ← HEE.out]
      exact Ew (Dl r (ln : Int)) HGM.out HLOG.out HROOM.out HRT.out hb ho⟩
    have hwr0 : IntKind.i64.wrap (k : Int) = (k : Int):=by simp (disch:=omega) only [IntWalk.i64_in]
    have hwr1 : IntKind.i64.wrap ((k : Int) + 1 - 1) = (k : Int):=by rw [show ((k : Int) + 1 - 1) = (k : Int) by omega];exact hwr0
    have hwr2 : IntKind.i64.wrap (((k + 1 : Nat) : Int) - 1) = (k : Int):=by rw [show (((k + 1 : Nat) : Int) - 1) = (k : Int) by omega];exact hwr0
    obtain ⟨ad,had, -⟩:=Ce HC1.out.l k hkk
    subst had
    clear hrb hr0
    go_enter Tryz.func102,Tryz.ntmps102
    go_wp2_with (first
      | (go_at_call 115;rw [show (w.alloc (Obj.cells #[Value.slice Ad e.disk.length cd,Value.slice Am e.mem.length cm,Value.slice (some ad) e.log.length cl,Value.int IntKind.i64 e.safe,Value.bool e.down] 28)).alloc (Obj.cells #[Value.slice none 0 0,Value.slice none 0 0,Value.slice none 0 0,Value.int IntKind.i64 0,Value.bool false] 28) = w1 from HW1.out];refine (Du (c:=cl) HLN.out (Below.refl w1.heap.size w1) HC1.out.l).mono ?_;rintro x w' ⟨rfl,rfl⟩)
      | (go_at_call 161;refine (HBACK.out _ (Below.refl _ _)).mono ?_;rintro x w2 ⟨rfl,hb2⟩;have HB2:=As hb2;replace x0:=bc hb2 x0;replace x1:=bc hb2 x1;replace x2:=bc hb2 x2;replace x3:=bc hb2 x3;replace x4:=bc hb2 x4;clear hb2))
    have HO2:=As (HO1.out.below HB2.out)
    have HQ2:=As (HQ1.out.up HB2.out)
    have HP2:=As (HP1.out.up HB2.out)
    have HW2:=As (bj HB1.out HB2.out)
    have HZ2 : Ac (w.heap.size + 2 ≤ w2.heap.size):=⟨by have:=HZ1s.out;have:=HB2.out.size;omega⟩
    clear x0 x1 x2 x3 x4
    refine AX (fun lx a wx => (Below w0.heap.size w0 wx ∧ Ip w2 (.slice Am e.mem.length cm) wx) ∧ (Un 9 (fun wx => Below w2.heap.size w2 wx) lx a wx ∧ (Sl 9 39 (fun v wx => ∃ ud um ul,v = .tuple #[E.ag ud um ul, .bool true] ∧ AU wx w0.heap.size ud um ul E) lx a wx ∧ (Pre 14 13 9 (fun _ => True) (fun v wx => ∃ B,v = ptr B ∧ w2.heap.size ≤ B ∧ Ai wx B zE (.slice none 0 0) (.slice none 0 0) (.slice none 0 0)) lx a wx ∧ Sl 14 9 (fun v wx => ∃ B ud um ul,v = ptr B ∧ w2.heap.size ≤ B ∧ Ai wx B E ud um ul ∧ AU wx w0.heap.size ud um ul E) lx a wx)))) 16 rfl (by kernel_rfl) (⟨⟨Ak (bj HB.out HW2.out),Kept.drew (Kept.refl _ _)⟩,fun _ => Ak (Below.refl _ _),Bc,FM trivial,Bc⟩) (fun HT => ?_)
    refine Ae (i:=0) (v:=?_) HT rfl (by kernel_rfl) rfl (kA Aa (kA (Ag rfl) (kA (Ab rfl rfl) (kA (Au rfl rfl rfl) (Ab rfl rfl))))) (by rfl) (fun _ _ _ h => h) (fun lx ax wx hS => ?_) ?_;rotate_left;(have hk:=hS.1.2;clear hS;have hq:=HQ2.out.EC HO2.out hk;have x0:=hq.c0;have x1:=hq.c1;have x2:=hq.c2;have x3:=hq.c3;have x4:=hq.c4;obtain ⟨ad',he',QR⟩:=Ce (HO2.out.Pw hk) k hkk;(injection he' with he';subst he');obtain ⟨z0,z1,z2,z3,z4,z5,z6,z7⟩:=QR;go_simp;with_reducible rfl);rotate_left;simp only [sc0,sc1]
    refine Ae (i:=1) (v:=?_) HT rfl (by kernel_rfl) rfl (kA Aa (kA (Ag rfl) (kA (Ab rfl rfl) (kA (Au rfl rfl rfl) (Ab rfl rfl))))) (by rfl) (fun _ _ _ h => h) (fun lx ax wx hS => ?_) ?_;rotate_left;(have hk:=hS.1.2;clear hS;have hq:=HQ2.out.EC HO2.out hk;have x0:=hq.c0;have x1:=hq.c1;have x2:=hq.c2;have x3:=hq.c3;have x4:=hq.c4;obtain ⟨ad',he',QR⟩:=Ce (HO2.out.Pw hk) k hkk;(injection he' with he';subst he');obtain ⟨z0,z1,z2,z3,z4,z5,z6,z7⟩:=QR;go_simp;with_reducible rfl);rotate_left;simp only [sc0,sc1]
    refine Ae (i:=2) (v:=?_) HT rfl (by kernel_rfl) rfl (kA Aa (kA (Ag rfl) (kA (Ab rfl rfl) (kA (Au rfl rfl rfl) (Ab rfl rfl))))) (by rfl) (fun _ _ _ h => h) (fun lx ax wx hS => ?_) ?_;rotate_left;(have hk:=hS.1.2;clear hS;have hq:=HQ2.out.EC HO2.out hk;have x0:=hq.c0;have x1:=hq.c1;have x2:=hq.c2;have x3:=hq.c3;have x4:=hq.c4;obtain ⟨ad',he',QR⟩:=Ce (HO2.out.Pw hk) k hkk;(injection he' with he';subst he');obtain ⟨z0,z1,z2,z3,z4,z5,z6,z7⟩:=QR;go_simp;with_reducible rfl);rotate_left;simp only [sc0,sc1]
    refine Ae (i:=3) (v:=?_) HT rfl (by kernel_rfl) rfl (kA Aa (kA (Ag rfl) (kA (Ab rfl rfl) (kA (Au rfl rfl rfl) (Ab rfl rfl))))) (by rfl) (fun _ _ _ h => h) (fun lx ax wx hS => ?_) ?_;rotate_left;(have hk:=hS.1.2;clear hS;have hq:=HQ2.out.EC HO2.out hk;have x0:=hq.c0;have x1:=hq.c1;have x2:=hq.c2;have x3:=hq.c3;have x4:=hq.c4;obtain ⟨ad',he',QR⟩:=Ce (HO2.out.Pw hk) k hkk;(injection he' with he';subst he');obtain ⟨z0,z1,z2,z3,z4,z5,z6,z7⟩:=QR;go_simp;with_reducible rfl);rotate_left;simp only [sc0,sc1]
    refine Ae (i:=4) (v:=?_) HT rfl (by kernel_rfl) rfl (kA Aa (kA (Ag rfl) (kA (Ab rfl rfl) (kA (Au rfl rfl rfl) (Ab rfl rfl))))) (by rfl) (fun _ _ _ h => h) (fun lx ax wx hS => ?_) ?_;rotate_left;(have hk:=hS.1.2;clear hS;have hq:=HQ2.out.EC HO2.out hk;have x0:=hq.c0;have x1:=hq.c1;have x2:=hq.c2;have x3:=hq.c3;have x4:=hq.c4;obtain ⟨ad',he',QR⟩:=Ce (HO2.out.Pw hk) k hkk;(injection he' with he';subst he');obtain ⟨z0,z1,z2,z3,z4,z5,z6,z7⟩:=QR;go_simp;with_reducible rfl);rotate_left;simp only [sc0,sc1]
    refine Ae (i:=5) (v:=?_) HT rfl (by kernel_rfl) rfl (kA Aa (kA (Ag rfl) (kA (Ab rfl rfl) (kA (Au rfl rfl rfl) (Ab rfl rfl))))) (by rfl) (fun _ _ _ h => h) (fun lx ax wx hS => ?_) ?_;rotate_left;(have hk:=hS.1.2;clear hS;have hq:=HQ2.out.EC HO2.out hk;have x0:=hq.c0;have x1:=hq.c1;have x2:=hq.c2;have x3:=hq.c3;have x4:=hq.c4;obtain ⟨ad',he',QR⟩:=Ce (HO2.out.Pw hk) k hkk;(injection he' with he';subst he');obtain ⟨z0,z1,z2,z3,z4,z5,z6,z7⟩:=QR;go_simp;with_reducible rfl);rotate_left;simp only [sc0,sc1]
    refine Ae (i:=6) (v:=?_) HT rfl (by kernel_rfl) rfl (kA Aa (kA (Ag rfl) (kA (Ab rfl rfl) (kA (Au rfl rfl rfl) (Ab rfl rfl))))) (by rfl) (fun _ _ _ h => h) (fun lx ax wx hS => ?_) ?_;rotate_left;(have hk:=hS.1.2;clear hS;have hq:=HQ2.out.EC HO2.out hk;have x0:=hq.c0;have x1:=hq.c1;have x2:=hq.c2;have x3:=hq.c3;have x4:=hq.c4;obtain ⟨ad',he',QR⟩:=Ce (HO2.out.Pw hk) k hkk;(injection he' with he';subst he');obtain ⟨z0,z1,z2,z3,z4,z5,z6,z7⟩:=QR;go_simp;with_reducible rfl);rotate_left;simp only [sc0,sc1]
    refine Ae (i:=7) (v:=?_) HT rfl (by kernel_rfl) rfl (kA Aa (kA (Ag rfl) (kA (Ab rfl rfl) (kA (Au rfl rfl rfl) (Ab rfl rfl))))) (by rfl) (fun _ _ _ h => h) (fun lx ax wx hS => ?_) ?_;rotate_left;(have hk:=hS.1.2;clear hS;have hq:=HQ2.out.EC HO2.out hk;have x0:=hq.c0;have x1:=hq.c1;have x2:=hq.c2;have x3:=hq.c3;have x4:=hq.c4;obtain ⟨ad',he',QR⟩:=Ce (HO2.out.Pw hk) k hkk;(injection he' with he';subst he');obtain ⟨z0,z1,z2,z3,z4,z5,z6,z7⟩:=QR;go_simp;with_reducible rfl);rotate_left;simp only [sc0,sc1]
    refine Jq (i:=8) (f:=162) (v:=rb.val) (args:=#[(rc e.log k).val, .int .i64 ln]) HT rfl (by kernel_rfl) rfl Tryz.func162 (by kernel_rfl) rfl rfl (kA Aa (kA (Ag rfl) (kA (Ab rfl rfl) (kA (Au rfl rfl rfl) (Ab rfl rfl))))) (by rfl) (fun _ _ _ h => h) (by simp only [List.map_toArray,List.map_cons,List.map_nil];rfl) (fun lx ax wx hS => (HRB.out ▸ PD (rc e.log k) (ln : Int) wx : Calls Tryz.prog 162 #[(rc e.log k).val, .int .i64 ln] wx fun e w' => e = .returned rb.val ∧ Below wx.heap.size wx w').mono fun _ w' h => ⟨h.1,⟨bj hS.1.1 h.2,hS.1.2.below h.2⟩,fun h9 => bj (hS.2.1 h9) h.2,fun h9 => (hS.2.2.1 h9).elim fun a' q => q.elim fun b' q => q.elim fun c' q => ⟨a',b',c',q.1,q.2.below h.2⟩,fun h9 => ⟨trivial,fun h8 => ((hS.2.2.2.1 h9).2 h8).elim fun B q => ⟨B,q.1,q.2.1,q.2.2.up h.2⟩⟩,fun h9 => (hS.2.2.2.2 h9).elim fun B q => q.elim fun a' q => q.elim fun b' q => q.elim fun c' q => ⟨B,a',b',c',q.1,q.2.1,q.2.2.1.up h.2,q.2.2.2.below h.2⟩⟩) ?_;simp only [sc0,sc1]
    apply RG
    · intro hrest
      refine Ba [9,13] (by kernel_rfl) (fun i hi wx hS => ?_)
      rcases List.mem_cons.1 hi with rfl | hi
      · clear hi
        refine EZ (f:=125) (args:=#[e.val Ad Am (some ad) cd cm cl,rb.val]) rfl rfl Tryz.func125 (by kernel_rfl) rfl rfl (by rfl) (by simp only [List.map_toArray,List.map_cons,List.map_nil];rfl) ((HADD2.out wx (HO2.out.below (hS.2.1 (by kernel_rfl))) hS.1.1).mono ?_)
        rintro x w6 ⟨ud,um,ul,rfl,ho,hb,hk⟩
        refine ⟨_,rfl,⟨⟨hb,hS.1.2.D6 hk (fun k hk => .inl hk)⟩,fun h => (AL (by kernel_rfl) h).elim,fun _ => ⟨ud,um,ul,rfl,ho⟩,fun _ => ⟨trivial,fun h => (AL h (by kernel_rfl)).elim⟩,fun h => (AL h (by kernel_rfl)).elim⟩,?_⟩
        clear hS ho hb hk
        simp only [sc0,sc1]
        refine Ae (i:=10) (v:=?_) HT rfl (by kernel_rfl) rfl (kA Aa (kA (Ag rfl) (kA (Ab rfl rfl) (kA (Au rfl rfl rfl) (Ab rfl rfl))))) (by rfl) (fun _ _ _ h => h) (fun lx ax wx hS => ?_) ?_;rotate_left;(go_simp;with_reducible rfl);rotate_left;simp only [sc0,sc1]
        refine Ae (i:=11) (v:=?_) HT rfl (by kernel_rfl) rfl (kA Aa (kA (Ag rfl) (kA (Ab rfl rfl) (kA (Au rfl rfl rfl) (Ab rfl rfl))))) (by rfl) (fun _ _ _ h => h) (fun lx ax wx hS => ?_) ?_;rotate_left;(go_simp;with_reducible rfl);rotate_left;simp only [sc0,sc1]
        refine Ae (i:=12) (v:=?_) HT rfl (by kernel_rfl) rfl (kA Aa (kA (Ag rfl) (kA (Ab rfl rfl) (kA (Au rfl rfl rfl) (Ab rfl rfl))))) (by rfl) (fun _ _ _ h => h) (fun lx ax wx hS => ?_) ?_;rotate_left;(go_simp;with_reducible rfl);rotate_left;simp only [sc0,sc1]
        refine Ba [13] (by kernel_rfl) (fun i hi wx hS => ?_)
        obtain rfl:=List.mem_singleton.1 hi
        clear hi
        have hbx : Below wx.heap.size wx (wx.alloc (zE.obox (.slice none 0 0) (.slice none 0 0) (.slice none 0 0))):=Ah (Below.refl _ _) _
        refine BX (w1:=wx.alloc (zE.obox (.slice none 0 0) (.slice none 0 0) (.slice none 0 0))) (ptr wx.heap.size) rfl rfl (by rfl) (by go_simp;rfl) ?_
        refine ⟨⟨⟨bj hS.1.1 hbx,hS.1.2.below hbx⟩,fun h => (AL (by kernel_rfl) h).elim,fun _ => (hS.2.2.1 (by kernel_rfl)).elim fun a' h' => h'.elim fun b' h' => h'.elim fun c' h' => ⟨a',b',c',h'.1,h'.2.below hbx⟩,fun _ => ⟨trivial,fun _ => ⟨wx.heap.size,rfl,hS.1.2.1,Ai.mk1 wx zE _ _ _⟩⟩,fun h => (AL h (by kernel_rfl)).elim⟩,?_⟩
        obtain ⟨B,hB⟩ : ∃ B,wx.heap.size = B:=⟨_,rfl⟩
        rw [hB]
        clear hB hS hbx
        simp only [sc0,sc1]
        exact GD (done := [13,12,11,10,9,8,7,6,5,4,3,2,1,0]) (by kernel_rfl) (hrest ud um ul B)
      · obtain rfl:=List.mem_singleton.1 hi
        clear hi
        have hbx : Below wx.heap.size wx (wx.alloc (zE.obox (.slice none 0 0) (.slice none 0 0) (.slice none 0 0))):=Ah (Below.refl _ _) _
        refine BX (w1:=wx.alloc (zE.obox (.slice none 0 0) (.slice none 0 0) (.slice none 0 0))) (ptr wx.heap.size) rfl rfl (by rfl) (by go_simp;rfl) ?_
        refine ⟨⟨⟨bj hS.1.1 hbx,hS.1.2.below hbx⟩,fun h => bj (hS.2.1 h) hbx,fun h => (AL h (by kernel_rfl)).elim,fun _ => ⟨trivial,fun _ => ⟨wx.heap.size,rfl,hS.1.2.1,Ai.mk1 wx zE _ _ _⟩⟩,fun h => (AL h (by kernel_rfl)).elim⟩,?_⟩
        obtain ⟨B,hB⟩ : ∃ B,wx.heap.size = B:=⟨_,rfl⟩
        rw [hB]
        clear hB hS hbx
        simp only [sc0,sc1]
        refine Ba [9] (by kernel_rfl) (fun i hi wx hS => ?_)
        obtain rfl:=List.mem_singleton.1 hi
        clear hi
        refine EZ (f:=125) (args:=#[e.val Ad Am (some ad) cd cm cl,rb.val]) rfl rfl Tryz.func125 (by kernel_rfl) rfl rfl (by rfl) (by simp only [List.map_toArray,List.map_cons,List.map_nil];rfl) ((HADD2.out wx (HO2.out.below (hS.2.1 (by kernel_rfl))) hS.1.1).mono ?_)
        rintro x w6 ⟨ud,um,ul,rfl,ho,hb,hk⟩
        refine ⟨_,rfl,⟨⟨hb,hS.1.2.D6 hk (fun k hk => .inl hk)⟩,fun h => (AL (by kernel_rfl) h).elim,fun _ => ⟨ud,um,ul,rfl,ho⟩,fun _ => ⟨trivial,fun _ => ((hS.2.2.2.1 (by kernel_rfl)).2 (by kernel_rfl)).elim fun B' h' => ⟨B',h'.1,h'.2.1,h'.2.2.EC (HO2.out.below (hS.2.1 (by kernel_rfl))) hk⟩⟩,fun h => (AL h (by kernel_rfl)).elim⟩,?_⟩
        clear hS ho hb hk
        simp only [sc0,sc1]
        refine Ae (i:=10) (v:=?_) HT rfl (by kernel_rfl) rfl (kA Aa (kA (Ag rfl) (kA (Ab rfl rfl) (kA (Au rfl rfl rfl) (Ab rfl rfl))))) (by rfl) (fun _ _ _ h => h) (fun lx ax wx hS => ?_) ?_;rotate_left;(go_simp;with_reducible rfl);rotate_left;simp only [sc0,sc1]
        refine Ae (i:=11) (v:=?_) HT rfl (by kernel_rfl) rfl (kA Aa (kA (Ag rfl) (kA (Ab rfl rfl) (kA (Au rfl rfl rfl) (Ab rfl rfl))))) (by rfl) (fun _ _ _ h => h) (fun lx ax wx hS => ?_) ?_;rotate_left;(go_simp;with_reducible rfl);rotate_left;simp only [sc0,sc1]
        refine Ae (i:=12) (v:=?_) HT rfl (by kernel_rfl) rfl (kA Aa (kA (Ag rfl) (kA (Ab rfl rfl) (kA (Au rfl rfl rfl) (Ab rfl rfl))))) (by rfl) (fun _ _ _ h => h) (fun lx ax wx hS => ?_) ?_;rotate_left;(go_simp;with_reducible rfl);rotate_left;simp only [sc0,sc1]
        exact GD (done := [13,12,11,10,9,8,7,6,5,4,3,2,1,0]) (by kernel_rfl) (hrest ud um ul B)
    intro ud um ul B
    refine Ba [14] (by kernel_rfl) (fun i hi wx hS => ?_)
    obtain rfl:=List.mem_singleton.1 hi
    clear hi
    obtain ⟨⟨h1,h2⟩, -,h3,h4, -⟩:=hS
    obtain ⟨ud',um',ul',hu',hown⟩:=h3 (by kernel_rfl)
    have hu' : Value.tuple #[E.ag ud um ul, .bool true] = .tuple #[E.ag ud' um' ul', .bool true]:=hu'
    obtain ⟨rfl,rfl,rfl⟩ : ud = ud' ∧ um = um' ∧ ul = ul':=by simpa using hu'
    obtain ⟨B',hB',hN,hP⟩:=(h4 (by kernel_rfl)).2 (by kernel_rfl)
    have hB' : ptr B = ptr B':=hB'
    obtain rfl : B = B':=by simpa using hB'
    obtain ⟨Bd,dd,Bm,dm,Bl,dl,rfl,rfl,rfl, -, -⟩:=hown.reads
    have y0:=hP.c0
    have y1:=hP.c1
    have y2:=hP.c2
    have y3:=hP.c3
    have y4:=hP.c4
    have f0:=hP.frz 0
    have f1:=hP.frz 1
    have f2:=hP.frz 2
    have f3:=hP.frz 3
    have f4:=hP.frz 4
    refine BJ (w1:=Go.Proofs.YtpjmlpmhgfghbaaGreat.Az wx B E (.slice Bd E.disk.length dd) (.slice Bm E.mem.length dm) (.slice Bl E.log.length dl)) rfl (by rfl) (by go_simp) ?_
    have hP5:=hP.Az E (.slice Bd E.disk.length dd) (.slice Bm E.mem.length dm) (.slice Bl E.log.length dl)
    have ho5:=hown.Az (f:=E) (xd:=.slice Bd E.disk.length dd) (xm:=.slice Bm E.mem.length dm) (xl:=.slice Bl E.log.length dl) hP
    have hb5:=Ao (g:=B) h1 (by have:=HB.out.size;have:=HZ2.out;omega) E (.slice Bd E.disk.length dd) (.slice Bm E.mem.length dm) (.slice Bl E.log.length dl)
    have hk5:=CK (g:=B) h2 hN E (.slice Bd E.disk.length dd) (.slice Bm E.mem.length dm) (.slice Bl E.log.length dl)
    refine ⟨⟨⟨hb5,hk5⟩,fun h => (AL (by kernel_rfl) h).elim,fun _ => ⟨_,_,_,rfl,ho5⟩,fun h => (AL (by kernel_rfl) h).elim,fun _ => ⟨B,_,_,_,rfl,hN,hP5,ho5⟩⟩,?_⟩
    clear h1 h2 h3 h4 hu' hown hB' hN hP y0 y1 y2 y3 y4 f0 f1 f2 f3 f4 hP5 ho5 hb5 hk5
    refine Ae (i:=15) (v:=?_) HT rfl (by kernel_rfl) rfl (kA Aa (kA (Ag rfl) (kA (Ab rfl rfl) (kA (Au rfl rfl rfl) (Ab rfl rfl))))) (by rfl) (fun _ _ _ h => h) (fun lx ax wx hS => ?_) ?_;rotate_left;(go_simp;with_reducible rfl);rotate_left;simp only [sc0,sc1]
    refine DV (by kernel_rfl) (fun w5 hS => ?_)
    obtain ⟨⟨hb5,hk5⟩, -, -, -,h4⟩:=hS
    obtain ⟨B',ud',um',ul',hB',hN,hP5,ho5⟩:=h4 (by kernel_rfl)
    have hB' : ptr B = ptr B':=hB'
    obtain rfl : B = B':=by simpa using hB'
    obtain ⟨Ed,n1,Em,n2,El,n3,rfl,rfl,rfl, -, -⟩:=ho5.reads
    have hp:=HP2.out.EC HO2.out hk5
    have y0:=hp.c0
    have y1:=hp.c1
    have y2:=hp.c2
    have y3:=hp.c3
    have y4:=hp.c4
    have f0:=hp.frz 0
    have f1:=hp.frz 1
    have f2:=hp.frz 2
    have f3:=hp.frz 3
    have f4:=hp.frz 4
    have x0:=hP5.c0
    have x1:=hP5.c1
    have x2:=hP5.c2
    have x3:=hP5.c3
    have x4:=hP5.c4
    have HX:=As (And.intro hb5 (And.intro hk5 (And.intro ho5 hp)))
    clear h4 hB' hN hP5 ho5 hb5 hk5 hp
    go_wp2
    have hy:=HX.out.2.2.2.Az E (.slice Ed E.disk.length n1) (.slice Em E.mem.length n2) (.slice El E.log.length n3)
    have h1:=HX.out.2.2.1.Az (f:=E) (xd:=.slice Ed E.disk.length n1) (xm:=.slice Em E.mem.length n2) (xl:=.slice El E.log.length n3) HX.out.2.2.2
    have h2:=Ao (g:=w.heap.size + 1) HX.out.1 (by have:=HB.out.size;omega) E (.slice Ed E.disk.length n1) (.slice Em E.mem.length n2) (.slice El E.log.length n3)
    have h3:=CK (g:=w.heap.size + 1) ((Kept.of_below HW2.out (fun k => some k = (Value.slice Am e.mem.length cm).ownBlock)).D6 HX.out.2.1 (fun k hk => .inl hk)) (by omega) E (.slice Ed E.disk.length n1) (.slice Em E.mem.length n2) (.slice El E.log.length n3)
    have z0:=hy.c0
    have z1:=hy.c1
    have z2:=hy.c2
    have z3:=hy.c3
    have z4:=hy.c4
    exact bodyPost_ret (v:=E.ag (.slice Ed E.disk.length n1) (.slice Em E.mem.length n2) (.slice El E.log.length n3)) (by simp [results,Tryz.results102,go_sem,z0,z1,z2,z3,z4]) rfl ⟨_,_,_,rfl,h1,h2,h3⟩
end Go.Proofs.YtpjmlpmhgfghbaaGreat
