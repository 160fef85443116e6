/- A part of the proof: what the last text of the claim says leans on this one. -/
import Derived.Test.YtpjmlpmhgfghbaaGreatZR5
set_option linter.unusedVariables false
set_option linter.unusedSimpArgs false
namespace Go.Proofs.YtpjmlpmhgfghbaaGreat
open Go.RowKit Go.Proofs.YtpjmlpmhgfghbaaGreatW.PrintWords Go.Proofs.YtpjmlpmhgfghbaaGreatW.PrintLast Go.Proofs.YtpjmlpmhgfghbaaGreatW.PrintMore
theorem DF.d' {w : World} {e : Eng} {Ad Am Al : Option Addr} (h : DF w e Ad Am Al) : Kd.C Dw w Ad e.disk.length e.disk:=h.d
structure FI (w : World) (b : Nat) (ok : Nat → Prop) (vd vm vl : Value) (e : Eng) : Prop where
  ex : ∃ okd okm : Nat → Prop,(∀ k,okd k → okm k → False) ∧ (∀ k,okd k → ok k) ∧ (∀ k,okm k → ok k) ∧ CB w b okd vd e.disk ∧ CB w b okm vm e.mem
  l : OwnRs w b vl e.log
  lk : ∀ k,vl.ownBlock = some k → ok k
section
variable {w w1 : World} {b : Nat} {ok : Nat → Prop} {vd vm vl : Value} {e : Eng}
theorem FI.E (h : FI w b ok vd vm vl e) : AU w b vd vm vl e:=by
  obtain ⟨okd,okm,h1, -, -,h4,h5⟩:=h.ex
  exact ⟨⟨okd,okm,h1,h4,h5⟩,h.l⟩
theorem AU.toK (h : AU w b vd vm vl e) : FI w b (fun k => b ≤ k ∧ k < w.heap.size) vd vm vl e:=by
  obtain ⟨⟨okd,okm,h1,h2,h3⟩,h4⟩:=h
  exact ⟨⟨fun k => okd k ∧ (b ≤ k ∧ k < w.heap.size),fun k => okm k ∧ (b ≤ k ∧ k < w.heap.size),fun k ha hb => h1 k ha.1 hb.1,fun k hk => hk.2,fun k hk => hk.2,Kd.Dh (Kd.Dy h2) (fun k hk => ⟨hk.1,hk.2.1,hk.2.2.1⟩),Kd.Dh (Kd.Dy h3) (fun k hk => ⟨hk.1,hk.2.1,hk.2.2.1⟩)⟩,h4,fun k hk => ⟨Kd.RY h4 k hk,Kd.U7 h4 k hk⟩⟩
theorem FI.kept {S : Nat → Prop} (h : FI w b ok vd vm vl e) (hk : Kept w w1 S) (hne : ∀ k,ok k → ¬ S k) : FI w1 b ok vd vm vl e:=by
  obtain ⟨⟨okd,okm,h1,h2,h3,h4,h5⟩,hl,hlk⟩:=h
  exact ⟨⟨okd,okm,h1,h2,h3,Kd.J7 h4 hk (fun k hx => hne k (h2 k hx)),Kd.J7 h5 hk (fun k hx => hne k (h3 k hx))⟩,Kd.Ej (Kd.KN (Kd.Nb rfl hl) hk (fun k hx => hne k (hlk k hx.symm))) (fun _ _ => trivial),hlk⟩
theorem FI.below (h : FI w b ok vd vm vl e) (hb : Below w.heap.size w w1) : FI w1 b ok vd vm vl e:=h.kept (S:=fun _ => False) (Kept.of_below hb _) (fun _ _ h => h)
theorem FI.lower {b' : Nat} (h : FI w b ok vd vm vl e) (hb : b' ≤ b) : FI w b' ok vd vm vl e:=by
  obtain ⟨⟨okd,okm,h1,h2,h3,h4,h5⟩,hl,hlk⟩:=h
  exact ⟨⟨okd,okm,h1,h2,h3,Kd.E8 h4 hb,Kd.E8 h5 hb⟩,Kd.Gu hl hb,hlk⟩
theorem FI.mono {ok' : Nat → Prop} (h : FI w b ok vd vm vl e) (hok : ∀ k,ok k → ok' k) : FI w b ok' vd vm vl e:=by
  obtain ⟨⟨okd,okm,h1,h2,h3,h4,h5⟩,hl,hlk⟩:=h
  exact ⟨⟨okd,okm,h1,fun k hk => hok k (h2 k hk),fun k hk => hok k (h3 k hk),h4,h5⟩,hl,fun k hk => hok k (hlk k hk)⟩
theorem FI.C {A B C : Option Addr} {n m l a b' c : Nat} (h : FI w b ok (.slice A n a) (.slice B m b') (.slice C l c) e) : DF w e A B C:=by
  obtain ⟨A',a',B',b2,C',c',h1,h2,h3, -,hc⟩:=h.E.reads
  injection h1 with h1
  injection h2 with h2
  injection h3 with h3
  subst h1 h2 h3
  exact hc
theorem DF.kept {Ad Am Al : Option Addr} {cd cm cl : Nat} {S : Nat → Prop} (h : FI w b ok (.slice Ad e.disk.length cd) (.slice Am e.mem.length cm) (.slice Al e.log.length cl) e) (hk : Kept w w1 S) (hne : ∀ k,ok k → ¬ S k) : DF w1 e Ad Am Al:=by
  obtain ⟨A,a,B,b',C,c,h1,h2,h3, -,hc⟩:=(h.kept hk hne).E.reads
  injection h1 with h1
  injection h2 with h2
  injection h3 with h3
  subst h1 h2 h3
  exact hc
end
end Go.Proofs.YtpjmlpmhgfghbaaGreat
namespace Go.Proofs.YtpjmlpmhgfghbaaGreat
open Go.RowKit Go.Proofs.YtpjmlpmhgfghbaaGreatW.PrintWords Go.Proofs.YtpjmlpmhgfghbaaGreatW.PrintLast Go.Proofs.YtpjmlpmhgfghbaaGreatW.PrintMore
theorem IK {w w1 : World} {b : Nat} {vd vm vl v : Value} {e : Eng} {qs : List Page} (h : AU w b vd vm vl e) (hb : Below w.heap.size w w1) (hv : EA w1 w.heap.size v qs) (hle : b ≤ w.heap.size) : AU w1 b vd v vl { e with mem:=qs }:=by
  obtain ⟨⟨okd,okm, -,h2, -⟩,h4⟩:=h
  exact ⟨⟨fun k => okd k ∧ k < w.heap.size,fun k => w.heap.size ≤ k,fun k h1 h2 => by omega,Kd.Ep h2 hb,Kd.E8 (Kd.Dh (Kd.Dy hv) (fun k hk => hk.2.1)) hle⟩,Kd.Cm h4 hb⟩
theorem AU.reads' {w : World} {b : Nat} {A B C : Option Addr} {n m l a b' c : Nat} {e : Eng} (h : AU w b (.slice A n a) (.slice B m b') (.slice C l c) e) : DF w e A B C:=by
  obtain ⟨A',a',B',b2,C',c',h1,h2,h3, -,hc⟩:=h.reads
  injection h1 with h1
  injection h2 with h2
  injection h3 with h3
  subst h1 h2 h3
  exact hc
theorem TP {x : Eng} (h : AO x = 0) : Cf x.log 3 = []:=by
  obtain ⟨h1,h2,h3⟩:=MJ h
  rw [Hq,if_pos h1,if_pos h2,if_pos h3]
  rfl
theorem TN {x : Eng} (h : AO x ≠ 0) : ∃ l,Cf x.log 3 = AO x :: l:=by
  rw [Hq]
  by_cases h1 : lastT x 1 = 0
  · by_cases h2 : lastT x 2 = 0
    · by_cases h3 : lastT x 3 = 0
      · exact absurd (show AO x = 0 by unfold AO;rw [if_neg (by simpa using h1),if_neg (by simpa using h2),if_neg (by simpa using h3)]) h
      · have hf : AO x = 3:=by unfold AO;rw [if_neg (by simpa using h1),if_neg (by simpa using h2),if_pos h3]
        exact ⟨[],by rw [if_pos h1,if_pos h2,if_neg h3,hf];rfl⟩
    · have hf : AO x = 2:=by unfold AO;rw [if_neg (by simpa using h1),if_pos h2]
      exact ⟨_,by rw [if_pos h1,if_neg h2,hf];rfl⟩
  · have hf : AO x = 1:=by unfold AO;rw [if_pos h1]
    exact ⟨_,by rw [if_neg h1,hf];rfl⟩
theorem Nr {x : Eng} (h : AO x = 0) : ∀ k,CX k x = x
  | 0 => rfl
  | k + 1 => by rw [CX,if_pos h]
theorem Jv : ∀ (k : Nat) (x : Eng),(CX k x).disk = x.disk ∧ (CX k x).safe = x.safe ∧ (CX k x).down = x.down
  | 0,x => ⟨rfl,rfl,rfl⟩
  | k + 1,x => by
    rw [CX]
    split
    · exact ⟨rfl,rfl,rfl⟩
    · exact Jv k (Bo x (AO x))
def EW (e : Eng) : Eng:={ e with mem:=Cj e.disk e.log e.log.length }
def upE (x : Eng) : Eng:=if AO x = 0 then { x with down:=false } else { x with mem:=x.disk }
def upR (e : Eng) (steps : Int) : Eng × Bool:=if eOk e = true ∧ 0 ≤ steps then (if e.down = true then (upE (CX steps.toNat (EW e)),decide (AO (CX steps.toNat (EW e)) = 0)) else (e,false)) else (zE,false)
theorem Q5 (e : Eng) (n : Nat) : Sv e n = upE (CX n (EW e)):=rfl
theorem F4.room' {x : Eng} (h : F4 x) : x.log.length + Br x.log x.log.length ≤ 150:=Py.room h
theorem F4.all : ∀ (k : Nat) (x : Eng),F4 x → F4 (CX k x)
  | 0,x,h => h
  | k + 1,x,h => by
    rw [CX]
    split
    · exact h
    · rename_i h0
      exact F4.all k _ (h.step h0).2.1
set_option maxRecDepth 100000 in
set_option maxHeartbeats 6000000 in
theorem PG {w0 w : World} {e : Eng} {Ad Am Al : Option Addr} {cd cm cl : Nat} (steps : Int) (hcl : e.log.length ≤ cl) (hb : Below w0.heap.size w0 w) (hr : DF w0 e Ad Am Al) : Calls Tryz.prog 15 #[e.val Ad Am Al cd cm cl, .int .i64 steps] w (CQ w (upR e steps).1 (upR e steps).2):=by
  have HR:=As (hr.up hb)
  clear hr hb
  obtain ⟨w1,hw1⟩ : ∃ w1,w.alloc (e.obox (.slice Ad e.disk.length cd) (.slice Am e.mem.length cm) (.slice Al e.log.length cl)) = w1:=⟨_,rfl⟩
  obtain ⟨w2,hw2⟩ : ∃ w2,w1.alloc (zE.obox (.slice none 0 0) (.slice none 0 0) (.slice none 0 0)) = w2:=⟨_,rfl⟩
  have hz1 : w1.heap.size = w.heap.size + 1:=by rw [← hw1];exact BA _ _
  have hz2 : w2.heap.size = w.heap.size + 2:=by rw [← hw2,BA,hz1]
  have hb12 : Below w1.heap.size w1 w2:=by rw [← hw2];exact Ah (Below.refl _ _) _
  have HB2 : Ac (Below w.heap.size w w2):=⟨by rw [← hw2, ← hw1];exact Ah (Ah (Below.refl _ _) _) _⟩
  have HQ2 : Ac (Ai w2 w.heap.size e (.slice Ad e.disk.length cd) (.slice Am e.mem.length cm) (.slice Al e.log.length cl)):=⟨Ai.up (by rw [← hw1];exact Ai.mk1 _ _ _ _ _) hb12⟩
  have HP2 : Ac (Ai w2 (w.heap.size + 1) zE (.slice none 0 0) (.slice none 0 0) (.slice none 0 0)):=⟨by rw [← hw2, ← hz1];exact Ai.mk1 _ _ _ _ _⟩
  have HW2 : Ac ((w.alloc (e.obox (.slice Ad e.disk.length cd) (.slice Am e.mem.length cm) (.slice Al e.log.length cl))).alloc (zE.obox (.slice none 0 0) (.slice none 0 0) (.slice none 0 0)) = w2):=⟨by rw [hw1,hw2]⟩
  have HZ2:=As hz2
  clear hw1 hw2 hz1 hz2 hb12
  have x0:=HQ2.out.c0
  have x1:=HQ2.out.c1
  have x2:=HQ2.out.c2
  have x3:=HQ2.out.c3
  have x4:=HQ2.out.c4
  cases hv : eOk e
  · have HV:=As hv
    have hE : upR e steps = (zE,false):=by rw [upR,if_neg (by rw [hv];simp)]
    rw [hE]
    clear hv hE
    go_enter Tryz.func15,Tryz.ntmps15
    go_wp2_with (go_at_call 36;rw [show (w.alloc (Obj.cells #[Value.slice Ad e.disk.length cd,Value.slice Am e.mem.length cm,Value.slice Al e.log.length cl,Value.int IntKind.i64 e.safe,Value.bool e.down] 28)).alloc (Obj.cells #[Value.slice none 0 0,Value.slice none 0 0,Value.slice none 0 0,Value.int IntKind.i64 0,Value.bool false] 28) = w2 from HW2.out];refine (AL (cd:=cd) (cm:=cm) HV.out hcl HB2.out HR.out).mono ?_;rintro x w3 ⟨rfl,hb3⟩;have HB3:=As (bj HB2.out hb3);have HP3:=As (HP2.out.up hb3);have y0:=HP3.out.c0;have y1:=HP3.out.c1;have y2:=HP3.out.c2;have y3:=HP3.out.c3;have y4:=HP3.out.c4;have f0:=HP3.out.frz 0;have f1:=HP3.out.frz 1;have f2:=HP3.out.frz 2;have f3:=HP3.out.frz 3;have f4:=HP3.out.frz 4;clear hb3)
    obtain ⟨z0,z1,z2,z3,z4⟩:=HP3.out.empty
    exact bodyPost_ret (v:=.tuple #[zEv, .bool false]) (by simp [results,Tryz.results15,go_sem,z0,z1,z2,z3,z4]) rfl ⟨_,_,_,rfl,I6 _ _,Ak (g:=w.heap.size + 1) HB3.out (by omega) zE _ _ _⟩
  · have HV:=As hv
    have HF:=As (Fh.1 hv)
    clear hv
    rcases lts steps 0 with ⟨e1,b1,c1⟩ | ⟨e1,b1,c1⟩
    · have hE : upR e steps = (zE,false):=by rw [upR,if_neg (by have:=e1.out;omega)]
      rw [hE]
      clear hE
      have hl0:=e1.out
      go_enter Tryz.func15,Tryz.ntmps15
      go_wp2_with (go_at_call 36;rw [show (w.alloc (Obj.cells #[Value.slice Ad e.disk.length cd,Value.slice Am e.mem.length cm,Value.slice Al e.log.length cl,Value.int IntKind.i64 e.safe,Value.bool e.down] 28)).alloc (Obj.cells #[Value.slice none 0 0,Value.slice none 0 0,Value.slice none 0 0,Value.int IntKind.i64 0,Value.bool false] 28) = w2 from HW2.out];refine (AL (cd:=cd) (cm:=cm) HV.out hcl HB2.out HR.out).mono ?_;rintro x w3 ⟨rfl,hb3⟩;have HB3:=As (bj HB2.out hb3);have HP3:=As (HP2.out.up hb3);have y0:=HP3.out.c0;have y1:=HP3.out.c1;have y2:=HP3.out.c2;have y3:=HP3.out.c3;have y4:=HP3.out.c4;have f0:=HP3.out.frz 0;have f1:=HP3.out.frz 1;have f2:=HP3.out.frz 2;have f3:=HP3.out.frz 3;have f4:=HP3.out.frz 4;clear hb3)
      obtain ⟨z0,z1,z2,z3,z4⟩:=HP3.out.empty
      exact bodyPost_ret (v:=.tuple #[zEv, .bool false]) (by simp [results,Tryz.results15,go_sem,z0,z1,z2,z3,z4]) rfl ⟨_,_,_,rfl,I6 _ _,Ak (g:=w.heap.size + 1) HB3.out (by omega) zE _ _ _⟩
    · obtain ⟨n,hn⟩ : ∃ n : Nat,steps = (n : Int):=⟨steps.toNat,by have:=e1.out;omega⟩
      subst hn
      have HLG:=As (Bg HF.out.log)
      have hn0 : (0 : Int) ≤ (n : Int):=by omega
      cases hdn : e.down
      · have hE : upR e (n : Int) = (e,false):=by rw [upR,if_pos ⟨HV.out,e1.out⟩,if_neg (by rw [hdn];simp)]
        rw [hE]
        have HDN:=As hdn
        clear hE hdn
        go_enter Tryz.func15,Tryz.ntmps15
        go_wp2_with (first
          | (go_at_call 36;rw [show (w.alloc (Obj.cells #[Value.slice Ad e.disk.length cd,Value.slice Am e.mem.length cm,Value.slice Al e.log.length cl,Value.int IntKind.i64 e.safe,Value.bool e.down] 28)).alloc (Obj.cells #[Value.slice none 0 0,Value.slice none 0 0,Value.slice none 0 0,Value.int IntKind.i64 0,Value.bool false] 28) = w2 from HW2.out];refine (AL (cd:=cd) (cm:=cm) HV.out hcl HB2.out HR.out).mono ?_;rintro x w3 ⟨rfl,hb3⟩;have HX3:=As hb3;replace x0:=bc hb3 x0;replace x1:=bc hb3 x1;replace x2:=bc hb3 x2;replace x3:=bc hb3 x3;replace x4:=bc hb3 x4;clear hb3)
          | (go_at_call 38;refine (AV (cd:=cd) (cm:=cm) (cl:=cl) (Ay HF.out.disk) (Ay HF.out.mem) HLG.out (bj HB2.out HX3.out) HR.out).mono ?_;rintro x w4 ⟨vd,vm,vl,rfl,ho,hb4⟩;obtain ⟨Bd,dd,Bm,dm,Bl,dl,rfl,rfl,rfl, -, -⟩:=ho.reads;have HO4:=As ho;have HX4:=As (bj HX3.out hb4);have HN4:=As (Nat.le_trans HX3.out.size (Nat.le_refl _));clear ho hb4 x0 x1 x2 x3 x4)
          | (refine Aw (vd:=.slice Bd e.disk.length dd) (vm:=.slice Bm e.mem.length dm) (vl:=.slice Bl e.log.length dl) e ?_;intro w5 hb5 _ hq5;have HO5:=As (HO4.out.below hb5);have HX5:=As (bj HX4.out hb5);have x0:=hq5.c0;have x1:=hq5.c1;have x2:=hq5.c2;have x3:=hq5.c3;have x4:=hq5.c4;rw [HDN.out] at x4;have HP5:=As (HP2.out.up HX5.out);have y0:=HP5.out.c0;have y1:=HP5.out.c1;have y2:=HP5.out.c2;have y3:=HP5.out.c3;have y4:=HP5.out.c4;have f0:=HP5.out.frz 0;have f1:=HP5.out.frz 1;have f2:=HP5.out.frz 2;have f3:=HP5.out.frz 3;have f4:=HP5.out.frz 4;clear hb5 hq5))
        have hz:=HZ2.out
        have hn3:=HX3.out.size
        have hy:=HP5.out.Az ⟨e.disk,e.mem,e.log,e.safe,false⟩ (.slice Bd e.disk.length dd) (.slice Bm e.mem.length dm) (.slice Bl e.log.length dl)
        have h1:=HO5.out.Az (f:=⟨e.disk,e.mem,e.log,e.safe,false⟩) (xd:=.slice Bd e.disk.length dd) (xm:=.slice Bm e.mem.length dm) (xl:=.slice Bl e.log.length dl) HP5.out
        have h2:=Ak (g:=w.heap.size + 1) (bj HB2.out HX5.out) (by omega) ⟨e.disk,e.mem,e.log,e.safe,false⟩ (.slice Bd e.disk.length dd) (.slice Bm e.mem.length dm) (.slice Bl e.log.length dl)
        have z0:=hy.c0
        have z1:=hy.c1
        have z2:=hy.c2
        have z3:=hy.c3
        have z4:=hy.c4
        simp only at z0 z1 z2 z3 z4
        exact bodyPost_ret (v:=.tuple #[.agg #[.slice Bd e.disk.length dd, .slice Bm e.mem.length dm, .slice Bl e.log.length dl, .int .i64 e.safe, .bool false], .bool false]) (by simp [results,Tryz.results15,go_sem,z0,z1,z2,z3,z4]) rfl ⟨.slice Bd e.disk.length dd, .slice Bm e.mem.length dm, .slice Bl e.log.length dl,by unfold Eng.ag;rw [HDN.out],h1.lower (by omega),h2⟩
      · obtain ⟨X,hX⟩ : ∃ X,CX n (EW e) = X:=⟨_,rfl⟩
        have hE : upR e (n : Int) = (upE X,decide (AO X = 0)):=by rw [upR,if_pos ⟨HV.out,e1.out⟩,if_pos hdn,Int.toNat_natCast,hX]
        rw [hE]
        obtain ⟨R,hR⟩ : ∃ R,Cj e.disk e.log e.log.length = R:=⟨_,rfl⟩
        have HRR:=As hR
        have hst : EW e = { e with mem:=R }:=by rw [EW,hR]
        have hro : F4 { e with mem:=R }:=by rw [← hst];exact HF.out.rise
        have HRO:=As hro
        have HRX:=As (show CX n { e with mem:=R } = X by rw [← hst];exact hX)
        have HDN:=As hdn
        have HGD:=As (Ay HF.out.disk)
        clear hE hdn hX hR hst hro
        go_enter Tryz.func15,Tryz.ntmps15
        go_wp2_with (first
          | (go_at_call 36;rw [show (w.alloc (Obj.cells #[Value.slice Ad e.disk.length cd,Value.slice Am e.mem.length cm,Value.slice Al e.log.length cl,Value.int IntKind.i64 e.safe,Value.bool e.down] 28)).alloc (Obj.cells #[Value.slice none 0 0,Value.slice none 0 0,Value.slice none 0 0,Value.int IntKind.i64 0,Value.bool false] 28) = w2 from HW2.out];refine (AL (cd:=cd) (cm:=cm) HV.out hcl HB2.out HR.out).mono ?_;rintro x w3 ⟨rfl,hb3⟩;have HX3:=As hb3;replace x0:=bc hb3 x0;replace x1:=bc hb3 x1;replace x2:=bc hb3 x2;replace x3:=bc hb3 x3;replace x4:=bc hb3 x4;clear hb3)
          | (go_at_call 38;refine (AV (cd:=cd) (cm:=cm) (cl:=cl) (Ay HF.out.disk) (Ay HF.out.mem) HLG.out (bj HB2.out HX3.out) HR.out).mono ?_;rintro x w4 ⟨vd,vm,vl,rfl,ho,hb4⟩;obtain ⟨Bd,dd,Bm,dm,Bl,dl,rfl,rfl,rfl, -,hc⟩:=ho.reads;have HO4:=As ho;have HX4:=As (bj HX3.out hb4);have HN4:=As (Nat.le_trans HX3.out.size (Nat.le_refl _));have HC4:=As hc;have HN34:=As hb4.size;have HX43:=As hb4;clear ho hb4 hc x0 x1 x2 x3 x4)
          | (refine Aw (vd:=.slice Bd e.disk.length dd) (vm:=.slice Bm e.mem.length dm) (vl:=.slice Bl e.log.length dl) e ?_;intro w5 hb5 hz5 hq5;have HO5:=As (HO4.out.below hb5);have HX5:=As (bj HX4.out hb5);have HC5:=As (HC4.out.up hb5);have HQ5:=As hq5;have x0:=hq5.c0;have x1:=hq5.c1;have x2:=hq5.c2;have x3:=hq5.c3;have x4:=hq5.c4;rw [HDN.out] at x4;have HB35:=As (bj HX43.out hb5);clear hb5 hq5)
          | (go_at_call 46;refine (Kz (w0:=w5) (c:=dd) (d:=dl) HGD.out (fun k hk => (AB HF.out.log hk).ok) HLG.out (Below.refl _ _) HC5.out.d HC5.out.l).mono ?_;rw [HRR.out];rintro x w6 ⟨v,rfl,ho,hb6⟩;obtain ⟨Bn,dn,rfl, -, -⟩:=Kd.CJ ho;have HO6:=As (IK HO5.out hb6 ho HB35.out.size);have hq6:=HQ5.out.up hb6;have HQ6:=As hq6;have HB36:=As (bj HB35.out hb6);have g1:=hq6.frz 1;have x1':=hq6.c1;have x2':=hq6.c2;clear ho hb6 hq6 x0 x1 x2 x3 x4)
          | (go_at_call 47;obtain ⟨w7,hw7⟩ : ∃ w7,w6.setCell ⟨w4.heap.size,1,none⟩ (.slice Bn R.length dn) = w7:=⟨_,rfl⟩;have hq7 : Ai w7 w4.heap.size { e with mem:=R } (.slice Bd e.disk.length dd) (.slice Bn R.length dn) (.slice Bl e.log.length dl):=(by rw [← hw7];exact HQ6.out.set1 _);have ho7 : AU w7 w3.heap.size (.slice Bd e.disk.length dd) (.slice Bn R.length dn) (.slice Bl e.log.length dl) { e with mem:=R }:=(by rw [← hw7];exact HO6.out.Fe HQ6.out 1 _);have hb7 : Below w3.heap.size w3 w7:=(by rw [← hw7];exact HB36.out.setCell (p:=⟨w4.heap.size,1,none⟩) HN34.out _);have hc7:=ho7.reads';rw [hw7];refine (FP (w0:=w7) (c:=dl) (Below.refl _ _) hc7.l).mono ?_;rintro x w8 ⟨v,rfl,ho,hb8⟩;obtain ⟨Av,cv,rfl, -,hvc⟩:=ho.reads;have HEG0:=As (BO.up ⟨⟨_,_,_,hq7,ho7⟩,hb7,HN34.out⟩ hb8);have HVC:=As hvc;clear hw7 hq7 ho7 hb7 hc7 ho hb8 hvc x1' x2' g1))
        have HX4G : Ac (w3.heap.size ≤ w4.heap.size):=HN34
        have hroom:=HRO.out.room'
        go_loopw [7,8] (fun l i wr => ∃ (k : Nat) (x : Eng) (A : Option Addr) (c : Nat),k ≤ n ∧ l = .slice A (Cf x.log 3).length c ∧ i = .int .i64 (k : Int) ∧ Ac (Kd.C (Kd.int .i64) wr A (Cf x.log 3).length (Cf x.log 3)) ∧ Ac (BO w3 wr w4.heap.size x) ∧ Ac (F4 x ∧ CX (n - k) x = X) ∧ k + Br x.log x.log.length ≤ 150) (fun _ i _ => (n - intOf i).toNat)
        case atStart => exact ⟨0,{ e with mem:=R },Av,cv,Nat.zero_le _,rfl,rfl,HVC,HEG0,⟨HRO.out,HRX.out⟩,by show 0 + Br e.log e.log.length ≤ 150;have : e.log.length + Br e.log e.log.length ≤ 150:=hroom;omega⟩
        case round =>
          obtain ⟨k,x,A,c,hk,rfl,rfl,HVl,HEG,HRK,hkn⟩:=hrel
          by_cases h0 : AO x = 0
          · have hXx : X = x:=by rw [← HRK.out.2,Nr h0]
            have hU1 : upE X = { x with down:=false }:=by rw [hXx,upE,if_pos h0]
            have hU2 : decide (AO X = 0) = true:=by rw [hXx];simp [h0]
            have hol : Cf x.log 3 = []:=TP h0
            rw [hol]
            have HU:=As (And.intro hU1 hU2)
            clear hXx hol hU1 hU2 h0 hkn hroom
            by_cases hlt : k < n
            all_goals
              have hx2:=bj HX3.out HEG.out.bel
              obtain ⟨vd,vm,vl,hq,ho⟩:=HEG.out.ex
              obtain ⟨Ed,n1,Em,n2,El,n3,rfl,rfl,rfl, -, -⟩:=ho.reads
              have q0:=hq.c0
              have q1:=hq.c1
              have q2:=hq.c2
              have q3:=hq.c3
              have q4:=hq.c4
              have g4:=hq.frz 4
              have hp:=HP2.out.up hx2
              have y0:=hp.c0
              have y1:=hp.c1
              have y2:=hp.c2
              have y3:=hp.c3
              have y4:=hp.c4
              have f0:=hp.frz 0
              have f1:=hp.frz 1
              have f2:=hp.frz 2
              have f3:=hp.frz 3
              have f4:=hp.frz 4
              have HQ:=As hq
              have HO:=As ho
              have HP:=As hp
              have HX:=As hx2
              have HG:=As HEG.out.ge
              clear hq ho hp hx2
              have hne1 : ¬ w4.heap.size = w.heap.size + 1:=by have:=HZ2.out;have:=HX3.out.size;have:=HX4G.out;omega
              have hne2 : ¬ w.heap.size + 1 = w4.heap.size:=fun e => hne1 e.symm
              go_wp2
              have hz:=HZ2.out
              have hn3:=HX3.out.size
              have hge:=HG.out
              have hgl:=HX4G.out
              have r1:=HO.out.Fe HQ.out 4 (.bool false)
              have p1:=HP.out.far (b:=w4.heap.size) (by omega) 4 (.bool false)
              have b1:=(bj HB2.out HX.out).setCell (p:=⟨w4.heap.size,4,none⟩) (by show w.heap.size ≤ w4.heap.size;omega) (.bool false)
              have hy:=p1.Az { x with down:=false } (.slice Ed x.disk.length n1) (.slice Em x.mem.length n2) (.slice El x.log.length n3)
              have h1:=r1.Az (f:={ x with down:=false }) (xd:=.slice Ed x.disk.length n1) (xm:=.slice Em x.mem.length n2) (xl:=.slice El x.log.length n3) p1
              have h2:=Ak (g:=w.heap.size + 1) b1 (by omega) { x with down:=false } (.slice Ed x.disk.length n1) (.slice Em x.mem.length n2) (.slice El x.log.length n3)
              have z0:=hy.c0
              have z1:=hy.c1
              have z2:=hy.c2
              have z3:=hy.c3
              have z4:=hy.c4
              simp only at z0 z1 z2 z3 z4
              have hd1 : AU (Go.Proofs.YtpjmlpmhgfghbaaGreat.Az (wr.setCell ⟨w4.heap.size,4,none⟩ (.bool false)) (w.heap.size + 1) { x with down:=false } (.slice Ed x.disk.length n1) (.slice Em x.mem.length n2) (.slice El x.log.length n3)) w3.heap.size (.slice Ed x.disk.length n1) (.slice Em x.mem.length n2) (.slice El x.log.length n3) { x with down:=false }:=⟨h1.ex,h1.l⟩
              exact bodyPost_ret (v:=.tuple #[.agg #[.slice Ed x.disk.length n1, .slice Em x.mem.length n2, .slice El x.log.length n3, .int .i64 x.safe, .bool false], .bool true]) (by simp [results,Tryz.results15,go_sem,z0,z1,z2,z3,z4]) rfl ⟨.slice Ed x.disk.length n1, .slice Em x.mem.length n2, .slice El x.log.length n3,by rw [HU.out.1,HU.out.2],by rw [HU.out.1];exact hd1.lower (by omega),h2⟩
          · obtain ⟨rest,hopen⟩:=TN h0
            have hlen : (Cf x.log 3).length = rest.length + 1:=by rw [hopen];rfl
            have hv0 : iv (Cf x.log 3) 0 = AO x:=by rw [hopen];rfl
            have HV0:=As hv0
            have HLN:=As hlen
            by_cases hlt : k < n
            · obtain ⟨hso,hro',hnd⟩:=HRK.out.1.step h0
              have hrk : CX (n - (k + 1)) (Bo x (AO x)) = X:=by
                have h:=HRK.out.2
                rw [show n - k = (n - (k + 1)) + 1 by omega,CX,if_neg h0] at h
                exact h
              obtain ⟨t,ht⟩ : ∃ t,AO x = t:=⟨_,rfl⟩
              rw [ht] at hso hro' hnd hrk hv0
              have HSO:=As hso
              have HNX:=As (And.intro hro' hrk)
              have HND:=As (show k + 1 + Br (Bo x t).log (Bo x t).log.length ≤ 150 by omega)
              have hk150 : k ≤ 150:=by omega
              obtain ⟨ad,rfl,g0⟩:=Dk HVl.out 0 (by omega)
              rw [hv0] at g0
              have e0 : ad.add 0 = ad:=by simp [Addr.add]
              have g0' : wr.cell? ad = some (.int .i64 t):=by rw [← e0];exact g0
              have hwr : IntKind.i64.wrap ((k : Int) + 1) = (k : Int) + 1:=by simp (disch:=omega) only [IntWalk.i64_in]
              rw [hlen]
              clear hso hro' hnd hrk hv0 hopen h0 hkn hroom ht hlen HV0 HLN e0
              go_wp2_with (first
                | (go_at_call 48;refine (Nk HSO.out HEG.out).mono ?_;rintro x1 w9 ⟨⟨v1,rfl⟩,hg9⟩;have HG9:=As hg9;obtain ⟨ud,um,ul,hq9,ho9⟩:=hg9.ex;obtain ⟨Ud,u1,Um,u2,Ul,u3,rfl,rfl,rfl, -,hc9⟩:=ho9.reads;have x2':=hq9.c2;have HC9:=As hc9;clear hg9 hq9 ho9 hc9 g0 g0')
                | (go_at_call 47;refine (FP (w0:=w9) (c:=u3) (Below.refl _ _) HC9.out.l).mono ?_;rintro x1 w10 ⟨v2,rfl,ho,hb10⟩;obtain ⟨Av2,cv2,rfl, -,hvc⟩:=ho.reads;have HEG2:=As (HG9.out.up hb10);have HVC2:=As hvc;clear ho hb10 hvc x2'))
              go_roundw
              case rel => exact ⟨k + 1,Bo x t,Av2,cv2,by omega,rfl,by go_num,HVC2,HEG2,HNX,HND.out⟩
              case measure => simp [intOf];omega
            · have hkn' : k = n:=by omega
              have hXx : X = x:=by
                have h:=HRK.out.2
                rw [hkn',Nat.sub_self] at h
                exact h.symm
              have HU:=As (show upE X = { x with mem:=x.disk } ∧ decide (AO X = 0) = false from ⟨by rw [hXx,upE,if_neg h0],by rw [hXx];simp [h0]⟩)
              have HGX:=As (show geo x.disk from by
                have h1:=(Jv n { e with mem:=R }).1
                rw [HRX.out,hXx] at h1
                rw [h1]
                exact HGD.out)
              have hx2:=bj HX3.out HEG.out.bel
              obtain ⟨vd,vm,vl,hq,ho⟩:=HEG.out.ex
              obtain ⟨Ed,n1,Em,n2,El,n3,rfl,rfl,rfl, -,hc⟩:=ho.reads
              have q0:=hq.c0
              have HQ:=As hq
              have HO:=As ho
              have HC:=As hc
              have HEB:=As HEG.out.bel
              rw [hlen]
              clear hq ho hc hx2 hXx h0 hkn hroom hopen hv0 hlen HV0 HLN hkn'
              have hne1 : ¬ w4.heap.size = w.heap.size + 1:=by have:=HZ2.out;have:=HX3.out.size;have:=HX4G.out;omega
              have hne2 : ¬ w.heap.size + 1 = w4.heap.size:=fun e => hne1 e.symm
              go_wp2_with (go_at_call 49;refine (EF (w0:=wr) (c:=n1) (Fv HGX.out) (by have:=HGX.out.1;omega) (Below.refl _ _) HC.out.d).mono ?_;rintro x1 w9 ⟨v1,rfl,ho9,hb9⟩;obtain ⟨Cd,k1,rfl, -, -⟩:=Kd.CJ ho9;have HO9:=As (IK HO.out hb9 ho9 HEB.out.size);have hq9:=HQ.out.up hb9;have HQ9:=As hq9;have HB9:=As (bj HEB.out hb9);have hp9:=HP2.out.up (bj HX3.out HB9.out);have HP9:=As hp9;have g1:=hq9.frz 1;have q0':=hq9.c0;have q1':=hq9.c1;have q2':=hq9.c2;have q3':=hq9.c3;have q4':=hq9.c4;have y0:=hp9.c0;have y1:=hp9.c1;have y2:=hp9.c2;have y3:=hp9.c3;have y4:=hp9.c4;have f0:=hp9.frz 0;have f1:=hp9.frz 1;have f2:=hp9.frz 2;have f3:=hp9.frz 3;have f4:=hp9.frz 4;clear ho9 hb9 hq9 hp9 q0)
              have hz:=HZ2.out
              have hn3:=HX3.out.size
              have hgl:=HX4G.out
              have r1:=HO9.out.Fe HQ9.out 1 (.slice Cd x.disk.length k1)
              have p1:=HP9.out.far (b:=w4.heap.size) (by omega) 1 (.slice Cd x.disk.length k1)
              have b1:=(bj HB2.out (bj HX3.out HB9.out)).setCell (p:=⟨w4.heap.size,1,none⟩) (by show w.heap.size ≤ w4.heap.size;omega) (.slice Cd x.disk.length k1)
              have hy:=p1.Az { x with mem:=x.disk } (.slice Ed x.disk.length n1) (.slice Cd x.disk.length k1) (.slice El x.log.length n3)
              have h1:=r1.Az (f:={ x with mem:=x.disk }) (xd:=.slice Ed x.disk.length n1) (xm:=.slice Cd x.disk.length k1) (xl:=.slice El x.log.length n3) p1
              have h2:=Ak (g:=w.heap.size + 1) b1 (by omega) { x with mem:=x.disk } (.slice Ed x.disk.length n1) (.slice Cd x.disk.length k1) (.slice El x.log.length n3)
              have z0:=hy.c0
              have z1:=hy.c1
              have z2:=hy.c2
              have z3:=hy.c3
              have z4:=hy.c4
              simp only at z0 z1 z2 z3 z4
              exact bodyPost_ret (v:=.tuple #[.agg #[.slice Ed x.disk.length n1, .slice Cd x.disk.length k1, .slice El x.log.length n3, .int .i64 x.safe, .bool x.down], .bool false]) (by simp [results,Tryz.results15,go_sem,z0,z1,z2,z3,z4]) rfl ⟨.slice Ed x.disk.length n1, .slice Cd x.disk.length k1, .slice El x.log.length n3,by rw [HU.out.1,HU.out.2],by rw [HU.out.1];exact h1.lower (by omega),h2⟩
abbrev Evt.val (v : Evt) (A : Option Addr) (c : Nat) : Value:=.agg #[.int .i64 v.kind, .int .i64 v.tx, .int .i64 v.page, .int .i64 v.slot, .int .i64 v.n, .slice A v.vals.length c]
def EvBox (w : World) (g : Nat) (v : Evt) (A : Option Addr) (c : Nat) : Prop:=w.heap[g]? = some (.cells #[.int .i64 v.kind, .int .i64 v.tx, .int .i64 v.page, .int .i64 v.slot, .int .i64 v.n, .slice A v.vals.length c] 35 (0,0))
section
variable {w w1 : World} {g c : Nat} {v : Evt} {A : Option Addr}
theorem EvBox.c0 (h : EvBox w g v A c) : w.cell? ⟨g,0,none⟩ = some (.int .i64 v.kind):=by unfold EvBox at h;simp [World.cell?,h]
theorem EvBox.c1 (h : EvBox w g v A c) : w.cell? ⟨g,1,none⟩ = some (.int .i64 v.tx):=by unfold EvBox at h;simp [World.cell?,h]
theorem EvBox.c2 (h : EvBox w g v A c) : w.cell? ⟨g,2,none⟩ = some (.int .i64 v.page):=by unfold EvBox at h;simp [World.cell?,h]
theorem EvBox.c3 (h : EvBox w g v A c) : w.cell? ⟨g,3,none⟩ = some (.int .i64 v.slot):=by unfold EvBox at h;simp [World.cell?,h]
theorem EvBox.c4 (h : EvBox w g v A c) : w.cell? ⟨g,4,none⟩ = some (.int .i64 v.n):=by unfold EvBox at h;simp [World.cell?,h]
theorem EvBox.c5 (h : EvBox w g v A c) : w.cell? ⟨g,5,none⟩ = some (.slice A v.vals.length c):=by unfold EvBox at h;simp [World.cell?,h]
theorem EvBox.lt (h : EvBox w g v A c) : g < w.heap.size:=(Array.getElem?_eq_some_iff.1 h).1
theorem EvBox.up (h : EvBox w g v A c) (hb : Below w.heap.size w w1) : EvBox w1 g v A c:=(hb.block g h.lt).trans h
end
theorem EvBox.mk1 (w : World) (v : Evt) (A : Option Addr) (c : Nat) : EvBox (w.alloc (.cells #[.int .i64 v.kind, .int .i64 v.tx, .int .i64 v.page, .int .i64 v.slot, .int .i64 v.n, .slice A v.vals.length c] 35)) w.heap.size v A c:=by
  show (w.heap.push _)[w.heap.size]? = _
  simp
theorem Er {P : Program} {ops : Array Oper} {l : List Oper} {Q : Exit → Act → World → Prop} {a : Act} {w : World} (v : Evt) {A : Option Addr} {c : Nat} (h : ∀ w1,Below w.heap.size w w1 → w1.heap.size = w.heap.size + 1 → EvBox w1 w.heap.size v A c → wpList P ops Q l a w1) : wpList P ops Q l a (w.alloc (.cells #[.int .i64 v.kind, .int .i64 v.tx, .int .i64 v.page, .int .i64 v.slot, .int .i64 v.n, .slice A v.vals.length c] 35)):=h _ ((Below.refl _ _).alloc (Nat.le_refl _) _) (BA _ _) (EvBox.mk1 _ _ _ _)
def CZ (e : Eng) (v : Evt) : Eng × Bool:=
  if v.kind = 1 then KY e v.tx v.page v.slot v.n
  else if v.kind = 2 then Lb e v.tx v.page v.n
  else if v.kind = 3 then GN e v.tx v.page v.vals
  else if v.kind = 4 then Cz e v.tx (DN e v.tx)
  else if v.kind = 5 then Cz e v.tx (DU e v.tx)
  else if v.kind = 6 then ET e v.page
  else if v.kind = 7 then FW e
  else if v.kind = 8 then GX e v.n
  else if v.kind = 9 then ((upR e v.n).1,(upR e v.n).2 || (e.down && decide (0 ≤ v.n)))
  else (zE,false)
set_option maxRecDepth 100000 in
set_option maxHeartbeats 32000000 in
theorem QS {w0 w : World} {e : Eng} {C : Nat → Page} {B : Nat} {Ad Am Al A : Option Addr} {cd cm cl c : Nat} (v : Evt) (hi : Inv e C B) (hB : B + 3 ≤ 150) (hcl : e.log.length ≤ cl) (hb : Below w0.heap.size w0 w) (hr : DF w0 e Ad Am Al) (hv : Kd.C (Kd.int .i64) w0 A v.vals.length v.vals) : Calls Tryz.prog 37 #[e.val Ad Am Al cd cm cl,v.val A c] w (CQ w (CZ e v).1 (CZ e v).2):=by
  rcases BS v.kind 1 with ⟨e1,b1,c1⟩ | ⟨e1,b1,c1⟩
  rw [show CZ e v = KY e v.tx v.page v.slot v.n by rw [CZ,if_pos e1.out]]
  obtain ⟨E,bb,hE⟩ : ∃ E bb,KY e v.tx v.page v.slot v.n = (E,bb):=⟨_,_,rfl⟩
  have HIN : Ac (∀ wx,Below w.heap.size w wx → Calls Tryz.prog 82 #[e.val Ad Am Al cd cm cl, .int .i64 v.tx, .int .i64 v.page, .int .i64 v.slot, .int .i64 v.n] wx (CQ wx E bb)):=⟨fun wx hbx => by
    have h:=N7 (cd:=cd) (cm:=cm) v.tx v.page v.slot v.n hi hB hcl (bj hb hbx) hr
    rw [hE] at h
    exact h⟩
  rw [hE]
  clear hi hb hr hv hE hcl hB
  rotate_left
  rcases BS v.kind 2 with ⟨e2,b2,c2⟩ | ⟨e2,b2,c2⟩
  rw [show CZ e v = Lb e v.tx v.page v.n by rw [CZ,if_neg e1.out,if_pos e2.out]]
  obtain ⟨E,bb,hE⟩ : ∃ E bb,Lb e v.tx v.page v.n = (E,bb):=⟨_,_,rfl⟩
  have HIN : Ac (∀ wx,Below w.heap.size w wx → Calls Tryz.prog 83 #[e.val Ad Am Al cd cm cl, .int .i64 v.tx, .int .i64 v.page, .int .i64 v.n] wx (CQ wx E bb)):=⟨fun wx hbx => by
    have h:=N8 (cd:=cd) (cm:=cm) v.tx v.page v.n hi hB hcl (bj hb hbx) hr
    rw [hE] at h
    exact h⟩
  rw [hE]
  clear hi hb hr hv hE hcl hB
  rotate_left
  rcases BS v.kind 3 with ⟨e3,b3,c3⟩ | ⟨e3,b3,c3⟩
  rw [show CZ e v = GN e v.tx v.page v.vals by rw [CZ,if_neg e1.out,if_neg e2.out,if_pos e3.out]]
  obtain ⟨E,bb,hE⟩ : ∃ E bb,GN e v.tx v.page v.vals = (E,bb):=⟨_,_,rfl⟩
  have HIN : Ac (∀ wx,Below w.heap.size w wx → Calls Tryz.prog 84 #[e.val Ad Am Al cd cm cl, .int .i64 v.tx, .int .i64 v.page, .slice A v.vals.length c] wx (CQ wx E bb)):=⟨fun wx hbx => by
    have h:=Mg (cd:=cd) (cm:=cm) (cvals:=c) v.tx v.page v.vals hi hB hcl (bj hb hbx) hr hv
    rw [hE] at h
    exact h⟩
  rw [hE]
  clear hi hb hr hv hE hcl hB
  rotate_left
  rcases BS v.kind 4 with ⟨e4,b4,c4⟩ | ⟨e4,b4,c4⟩
  rw [show CZ e v = Cz e v.tx (DN e v.tx) by rw [CZ,if_neg e1.out,if_neg e2.out,if_neg e3.out,if_pos e4.out]]
  obtain ⟨E,bb,hE⟩ : ∃ E bb,Cz e v.tx (DN e v.tx) = (E,bb):=⟨_,_,rfl⟩
  have HIN : Ac (∀ wx,Below w.heap.size w wx → Calls Tryz.prog 85 #[e.val Ad Am Al cd cm cl, .int .i64 v.tx] wx (CQ wx E bb)):=⟨fun wx hbx => by
    have h:=Oj (cd:=cd) (cm:=cm) v.tx hi hB hcl (bj hb hbx) hr
    rw [hE] at h
    exact h⟩
  rw [hE]
  clear hi hb hr hv hE hcl hB
  rotate_left
  rcases BS v.kind 5 with ⟨e5,b5,c5⟩ | ⟨e5,b5,c5⟩
  rw [show CZ e v = Cz e v.tx (DU e v.tx) by rw [CZ,if_neg e1.out,if_neg e2.out,if_neg e3.out,if_neg e4.out,if_pos e5.out]]
  obtain ⟨E,bb,hE⟩ : ∃ E bb,Cz e v.tx (DU e v.tx) = (E,bb):=⟨_,_,rfl⟩
  have HIN : Ac (∀ wx,Below w.heap.size w wx → Calls Tryz.prog 86 #[e.val Ad Am Al cd cm cl, .int .i64 v.tx] wx (CQ wx E bb)):=⟨fun wx hbx => by
    have h:=Oi (cd:=cd) (cm:=cm) v.tx hi hB hcl (bj hb hbx) hr
    rw [hE] at h
    exact h⟩
  rw [hE]
  clear hi hb hr hv hE hcl hB
  rotate_left
  rcases BS v.kind 6 with ⟨e6,b6,c6⟩ | ⟨e6,b6,c6⟩
  rw [show CZ e v = ET e v.page by rw [CZ,if_neg e1.out,if_neg e2.out,if_neg e3.out,if_neg e4.out,if_neg e5.out,if_pos e6.out]]
  obtain ⟨E,bb,hE⟩ : ∃ E bb,ET e v.page = (E,bb):=⟨_,_,rfl⟩
  have HIN : Ac (∀ wx,Below w.heap.size w wx → Calls Tryz.prog 87 #[e.val Ad Am Al cd cm cl, .int .i64 v.page] wx (CQ wx E bb)):=⟨fun wx hbx => by
    have h:=LF (cd:=cd) (cm:=cm) v.page hi.ok hcl (bj hb hbx) hr
    rw [hE] at h
    exact h⟩
  rw [hE]
  clear hi hb hr hv hE hcl hB
  rotate_left
  rcases BS v.kind 7 with ⟨e7,b7,c7⟩ | ⟨e7,b7,c7⟩
  rw [show CZ e v = FW e by rw [CZ,if_neg e1.out,if_neg e2.out,if_neg e3.out,if_neg e4.out,if_neg e5.out,if_neg e6.out,if_pos e7.out]]
  obtain ⟨E,bb,hE⟩ : ∃ E bb,FW e = (E,bb):=⟨_,_,rfl⟩
  have HIN : Ac (∀ wx,Below w.heap.size w wx → Calls Tryz.prog 88 #[e.val Ad Am Al cd cm cl] wx (CQ wx E bb)):=⟨fun wx hbx => by
    have h:=LG (cd:=cd) (cm:=cm) hi.ok hcl (bj hb hbx) hr
    rw [hE] at h
    exact h⟩
  rw [hE]
  clear hi hb hr hv hE hcl hB
  rotate_left
  rcases BS v.kind 8 with ⟨e8,b8,c8⟩ | ⟨e8,b8,c8⟩
  rw [show CZ e v = GX e v.n by rw [CZ,if_neg e1.out,if_neg e2.out,if_neg e3.out,if_neg e4.out,if_neg e5.out,if_neg e6.out,if_neg e7.out,if_pos e8.out]]
  obtain ⟨E,bb,hE⟩ : ∃ E bb,GX e v.n = (E,bb):=⟨_,_,rfl⟩
  have HIN : Ac (∀ wx,Below w.heap.size w wx → Calls Tryz.prog 89 #[e.val Ad Am Al cd cm cl, .int .i64 v.n] wx (CQ wx E bb)):=⟨fun wx hbx => by
    have h:=NS (cd:=cd) (cm:=cm) v.n hcl (bj hb hbx) hr
    rw [hE] at h
    exact h⟩
  rw [hE]
  clear hi hb hr hv hE hcl hB
  rotate_left
  rcases BS v.kind 9 with ⟨e9,b9,c9⟩ | ⟨e9,b9,c9⟩
  · obtain ⟨E,r,hE⟩ : ∃ E r,upR e v.n = (E,r):=⟨_,_,rfl⟩
    rw [show CZ e v = (E,r || (e.down && decide (0 ≤ v.n))) by rw [CZ,if_neg e1.out,if_neg e2.out,if_neg e3.out,if_neg e4.out,if_neg e5.out,if_neg e6.out,if_neg e7.out,if_neg e8.out,if_pos e9.out,hE]]
    have HIN : Ac (∀ wx,Below w.heap.size w wx → Calls Tryz.prog 15 #[e.val Ad Am Al cd cm cl, .int .i64 v.n] wx (CQ wx E r)):=⟨fun wx hbx => by
      have h:=PG (cd:=cd) (cm:=cm) v.n hcl (bj hb hbx) hr
      rw [hE] at h
      exact h⟩
    clear hi hb hr hv hE hcl hB
    go_enter Tryz.func37,Tryz.ntmps37
    go_wp2_with (first
      | (with_reducible refine Aw (vd:=.slice Ad e.disk.length cd) (vm:=.slice Am e.mem.length cm) (vl:=.slice Al e.log.length cl) e ?_;intro w1 hb1 hz1 hq1;clear hz1;have HB:=As hb1;have HQ:=As hq1;clear hb1 hq1)
      | (with_reducible refine Er (A:=A) (c:=c) v ?_;intro w2 hb1 hz1 hq1;clear hz1;have HN1:=As HB.out.size;replace HB:=As (bj HB.out hb1);replace HQ:=As (HQ.out.up hb1);have HV:=As hq1;have HL1:=As hq1.lt;clear hb1 hq1)
      | (refine Aw (vd:=.slice none 0 0) (vm:=.slice none 0 0) (vl:=.slice none 0 0) zE ?_;intro w3 hb1 hz1 hq1;have HBG:=As HB.out.size;replace HB:=As (bj HB.out hb1);replace HQ:=As (HQ.out.up hb1);replace HV:=As (HV.out.up hb1);have HP:=As hq1;have HZ:=As hz1;have x0:=HQ.out.c0;have x1:=HQ.out.c1;have x2:=HQ.out.c2;have x3:=HQ.out.c3;have x4:=HQ.out.c4;have v0:=HV.out.c0;have v1:=HV.out.c1;have v2:=HV.out.c2;have v3:=HV.out.c3;have v4:=HV.out.c4;have v5:=HV.out.c5;have y0:=HP.out.c0;have y1:=HP.out.c1;have y2:=HP.out.c2;have y3:=HP.out.c3;have y4:=HP.out.c4;have f0:=HP.out.frz 0;have f1:=HP.out.frz 1;have f2:=HP.out.frz 2;have f3:=HP.out.frz 3;have f4:=HP.out.frz 4;clear hb1 hz1 hq1)
      | (go_at_call 15;refine (HIN.out w3 HB.out).mono ?_;rintro x w4 ⟨vd,vm,vl,rfl,ho,hb2⟩;obtain ⟨Ed,n1,Em,n2,El,n3,rfl,rfl,rfl, -, -⟩:=ho.reads;have HO:=As ho;have HX:=As hb2;clear x0 x1 x2 x3 x4 v0 v1 v2 v3 v4 v5 y0 y1 y2 y3 y4 f0 f1 f2 f3 f4;clear hb2 ho))
    obtain ⟨w5,hw5⟩ : ∃ w5,w4.alloc (Obj.cells #[.slice Ed E.disk.length n1, .slice Em E.mem.length n2, .slice El E.log.length n3, .int .i64 E.safe, .bool E.down] 28) = w5:=⟨_,rfl⟩
    rw [hw5]
    have hb5 : Below w4.heap.size w4 w5:=by rw [← hw5];exact Ah (Below.refl _ _) _
    have hq5 : Ai w5 w4.heap.size E (.slice Ed E.disk.length n1) (.slice Em E.mem.length n2) (.slice El E.log.length n3):=by rw [← hw5];exact Ai.mk1 _ _ _ _ _
    have HX5:=As (bj HX.out hb5)
    have HO5:=As (HO.out.below hb5)
    have HNB:=As hq5
    clear hw5 hb5 hq5
    have hs3:=HZ.out
    have hs4:=HX.out.size
    have hs2:=HL1.out
    have hv2:=HBG.out
    have HNE1 : Ac (¬ w4.heap.size = w2.heap.size):=⟨by omega⟩
    have HNE2 : Ac (¬ w1.heap.size = w2.heap.size):=⟨by omega⟩
    have HNE3 : Ac (¬ w.heap.size = w2.heap.size):=⟨by have:=HN1.out;omega⟩
    have hq5:=HQ.out.up HX5.out
    have hv5:=HV.out.up HX5.out
    have x4:=hq5.c4
    have v4:=hv5.c4
    have m0:=HNB.out.c0
    have m1:=HNB.out.c1
    have m2:=HNB.out.c2
    have m3:=HNB.out.c3
    have m4:=HNB.out.c4
    have HP5:=As (HP.out.up HX5.out)
    clear hq5 hv5 hs3 hs4 hs2 hv2
    cases r
    rotate_left
    · skip
      refine AX (fun lx a wx => Kept w5 wx (fun k => k = w2.heap.size) ∧ (Un 11 (fun wx => Below w5.heap.size w5 wx) lx a wx ∧ Ys 11 (fun wx => ∃ wy,Below w5.heap.size w5 wy ∧ wx = Go.Proofs.YtpjmlpmhgfghbaaGreat.Az wy w2.heap.size E (.slice Ed E.disk.length n1) (.slice Em E.mem.length n2) (.slice El E.log.length n3)) lx a wx)) 13 rfl (by kernel_rfl) (⟨Kept.drew (Kept.refl _ _),fun _ => Aj (Below.refl _ _),Gx⟩) (fun HT => ?_)
      refine Ae (i:=0) (v:=?_) HT rfl (by kernel_rfl) rfl (kA Aa (kA (Af rfl) (Au rfl))) (by rfl) (fun _ _ _ h => h) (fun lx ax wx hS => ?_) ?_;rotate_left;(have hkx:=hS.1;clear hS;replace x4:=Ag x4 hkx HNE3.out;replace v4:=Ag v4 hkx HNE2.out;replace m0:=Ag m0 hkx HNE1.out;replace m1:=Ag m1 hkx HNE1.out;replace m2:=Ag m2 hkx HNE1.out;replace m3:=Ag m3 hkx HNE1.out;replace m4:=Ag m4 hkx HNE1.out;go_simp;with_reducible rfl);rotate_left;simp only [sc0,sc1]
      refine Ae (i:=1) (v:=?_) HT rfl (by kernel_rfl) rfl (kA Aa (kA (Af rfl) (Au rfl))) (by rfl) (fun _ _ _ h => h) (fun lx ax wx hS => ?_) ?_;rotate_left;(have hkx:=hS.1;clear hS;replace x4:=Ag x4 hkx HNE3.out;replace v4:=Ag v4 hkx HNE2.out;replace m0:=Ag m0 hkx HNE1.out;replace m1:=Ag m1 hkx HNE1.out;replace m2:=Ag m2 hkx HNE1.out;replace m3:=Ag m3 hkx HNE1.out;replace m4:=Ag m4 hkx HNE1.out;go_simp;with_reducible rfl);rotate_left;simp only [sc0,sc1]
      refine Ae (i:=2) (v:=?_) HT rfl (by kernel_rfl) rfl (kA Aa (kA (Af rfl) (Au rfl))) (by rfl) (fun _ _ _ h => h) (fun lx ax wx hS => ?_) ?_;rotate_left;(have hkx:=hS.1;clear hS;replace x4:=Ag x4 hkx HNE3.out;replace v4:=Ag v4 hkx HNE2.out;replace m0:=Ag m0 hkx HNE1.out;replace m1:=Ag m1 hkx HNE1.out;replace m2:=Ag m2 hkx HNE1.out;replace m3:=Ag m3 hkx HNE1.out;replace m4:=Ag m4 hkx HNE1.out;go_simp;with_reducible rfl);rotate_left;simp only [sc0,sc1]
      refine EM (i:=3) HT rfl (by kernel_rfl) rfl (kA Aa (kA (Af rfl) (Au rfl))) (by rfl) (fun _ _ _ h => h) ?_;simp only [sc0,sc1]
      refine EM (i:=4) HT rfl (by kernel_rfl) rfl (kA Aa (kA (Af rfl) (Au rfl))) (by rfl) (fun _ _ _ h => h) ?_;simp only [sc0,sc1]
      refine EM (i:=5) HT rfl (by kernel_rfl) rfl (kA Aa (kA (Af rfl) (Au rfl))) (by rfl) (fun _ _ _ h => h) ?_;simp only [sc0,sc1]
      refine EM (i:=6) HT rfl (by kernel_rfl) rfl (kA Aa (kA (Af rfl) (Au rfl))) (by rfl) (fun _ _ _ h => h) ?_;simp only [sc0,sc1]
      refine EM (i:=7) HT rfl (by kernel_rfl) rfl (kA Aa (kA (Af rfl) (Au rfl))) (by rfl) (fun _ _ _ h => h) ?_;simp only [sc0,sc1]
      refine EM (i:=8) HT rfl (by kernel_rfl) rfl (kA Aa (kA (Af rfl) (Au rfl))) (by rfl) (fun _ _ _ h => h) ?_;simp only [sc0,sc1]
      refine EM (i:=9) HT rfl (by kernel_rfl) rfl (kA Aa (kA (Af rfl) (Au rfl))) (by rfl) (fun _ _ _ h => h) ?_;simp only [sc0,sc1]
      refine Ae (i:=10) (v:=?_) HT rfl (by kernel_rfl) rfl (kA Aa (kA (Af rfl) (Au rfl))) (by rfl) (fun _ _ _ h => h) (fun lx ax wx hS => ?_) ?_;rotate_left;(have hkx:=hS.1;clear hS;replace x4:=Ag x4 hkx HNE3.out;replace v4:=Ag v4 hkx HNE2.out;replace m0:=Ag m0 hkx HNE1.out;replace m1:=Ag m1 hkx HNE1.out;replace m2:=Ag m2 hkx HNE1.out;replace m3:=Ag m3 hkx HNE1.out;replace m4:=Ag m4 hkx HNE1.out;go_simp;with_reducible rfl);rotate_left;simp only [sc0,sc1]
      refine AQ [11] (by kernel_rfl) (fun i hi wx hS => ?_)
      obtain rfl:=List.mem_singleton.1 hi
      clear hi
      have hbx:=hS.2.1 (by kernel_rfl)
      have hp:=HP5.out.up hbx
      have y0:=hp.c0
      have y1:=hp.c1
      have y2:=hp.c2
      have y3:=hp.c3
      have y4:=hp.c4
      have f0:=hp.frz 0
      have f1:=hp.frz 1
      have f2:=hp.frz 2
      have f3:=hp.frz 3
      have f4:=hp.frz 4
      refine Bh (w1:=Go.Proofs.YtpjmlpmhgfghbaaGreat.Az wx w2.heap.size E (.slice Ed E.disk.length n1) (.slice Em E.mem.length n2) (.slice El E.log.length n3)) rfl (by rfl) (by go_simp) ?_
      refine ⟨⟨((((hS.1.setCell (p:=⟨w2.heap.size,0,none⟩) (.inl rfl) _).setCell (p:=⟨w2.heap.size,1,none⟩) (.inl rfl) _).setCell (p:=⟨w2.heap.size,2,none⟩) (.inl rfl) _).setCell (p:=⟨w2.heap.size,3,none⟩) (.inl rfl) _).setCell (p:=⟨w2.heap.size,4,none⟩) (.inl rfl) _,fun h => (AA (by kernel_rfl) h).elim,fun _ => ⟨wx,hbx,rfl⟩⟩,?_⟩
      clear hS hbx hp y0 y1 y2 y3 y4 f0 f1 f2 f3 f4
      refine Ae (i:=12) (v:=?_) HT rfl (by kernel_rfl) rfl (kA Aa (kA (Af rfl) (Au rfl))) (by rfl) (fun _ _ _ h => h) (fun lx ax wx hS => ?_) ?_;rotate_left;(go_simp;with_reducible rfl);rotate_left;simp only [sc0,sc1]
      refine DX (by kernel_rfl) (fun w8 hS => ?_)
      obtain ⟨wy,hby,rfl⟩:=hS.2.2 (by kernel_rfl)
      clear hS
      have HP2:=As (HP5.out.up hby)
      have HO2:=As (HO5.out.below hby)
      have HX2:=As (bj HX5.out hby)
      clear hby x4 v4
      go_wp2
      have hy:=HP2.out.Az E (.slice Ed E.disk.length n1) (.slice Em E.mem.length n2) (.slice El E.log.length n3)
      have h1:=HO2.out.Az (f:=E) (xd:=.slice Ed E.disk.length n1) (xm:=.slice Em E.mem.length n2) (xl:=.slice El E.log.length n3) HP2.out
      have hge:=HBG.out
      have hzz:=HZ.out
      have h2:=Ak (g:=w2.heap.size) (bj HB.out HX2.out) hge E (.slice Ed E.disk.length n1) (.slice Em E.mem.length n2) (.slice El E.log.length n3)
      have z0:=hy.c0
      have z1:=hy.c1
      have z2:=hy.c2
      have z3:=hy.c3
      have z4:=hy.c4
      exact bodyPost_ret (v:=.tuple #[E.ag (.slice Ed E.disk.length n1) (.slice Em E.mem.length n2) (.slice El E.log.length n3), .bool _]) (by simp [results,Tryz.results37,go_sem,z0,z1,z2,z3,z4];rfl) rfl ⟨_,_,_,by simp,h1.lower (by omega),h2⟩
    cases hdn : e.down
    all_goals rw [hdn] at x4
    · skip
      refine AX (fun lx a wx => Kept w5 wx (fun k => k = w2.heap.size) ∧ (Un 11 (fun wx => Below w5.heap.size w5 wx) lx a wx ∧ Ys 11 (fun wx => ∃ wy,Below w5.heap.size w5 wy ∧ wx = Go.Proofs.YtpjmlpmhgfghbaaGreat.Az wy w2.heap.size E (.slice Ed E.disk.length n1) (.slice Em E.mem.length n2) (.slice El E.log.length n3)) lx a wx)) 13 rfl (by kernel_rfl) (⟨Kept.drew (Kept.refl _ _),fun _ => Aj (Below.refl _ _),Gx⟩) (fun HT => ?_)
      refine Ae (i:=0) (v:=?_) HT rfl (by kernel_rfl) rfl (kA Aa (kA (Af rfl) (Au rfl))) (by rfl) (fun _ _ _ h => h) (fun lx ax wx hS => ?_) ?_;rotate_left;(have hkx:=hS.1;clear hS;replace x4:=Ag x4 hkx HNE3.out;replace v4:=Ag v4 hkx HNE2.out;replace m0:=Ag m0 hkx HNE1.out;replace m1:=Ag m1 hkx HNE1.out;replace m2:=Ag m2 hkx HNE1.out;replace m3:=Ag m3 hkx HNE1.out;replace m4:=Ag m4 hkx HNE1.out;go_simp;with_reducible rfl);rotate_left;simp only [sc0,sc1]
      refine Ae (i:=1) (v:=?_) HT rfl (by kernel_rfl) rfl (kA Aa (kA (Af rfl) (Au rfl))) (by rfl) (fun _ _ _ h => h) (fun lx ax wx hS => ?_) ?_;rotate_left;(have hkx:=hS.1;clear hS;replace x4:=Ag x4 hkx HNE3.out;replace v4:=Ag v4 hkx HNE2.out;replace m0:=Ag m0 hkx HNE1.out;replace m1:=Ag m1 hkx HNE1.out;replace m2:=Ag m2 hkx HNE1.out;replace m3:=Ag m3 hkx HNE1.out;replace m4:=Ag m4 hkx HNE1.out;go_simp;with_reducible rfl);rotate_left;simp only [sc0,sc1]
      refine Ae (i:=2) (v:=?_) HT rfl (by kernel_rfl) rfl (kA Aa (kA (Af rfl) (Au rfl))) (by rfl) (fun _ _ _ h => h) (fun lx ax wx hS => ?_) ?_;rotate_left;(have hkx:=hS.1;clear hS;replace x4:=Ag x4 hkx HNE3.out;replace v4:=Ag v4 hkx HNE2.out;replace m0:=Ag m0 hkx HNE1.out;replace m1:=Ag m1 hkx HNE1.out;replace m2:=Ag m2 hkx HNE1.out;replace m3:=Ag m3 hkx HNE1.out;replace m4:=Ag m4 hkx HNE1.out;go_simp;with_reducible rfl);rotate_left;simp only [sc0,sc1]
      refine Ae (i:=3) (v:=?_) HT rfl (by kernel_rfl) rfl (kA Aa (kA (Af rfl) (Au rfl))) (by rfl) (fun _ _ _ h => h) (fun lx ax wx hS => ?_) ?_;rotate_left;(have hkx:=hS.1;clear hS;replace x4:=Ag x4 hkx HNE3.out;replace v4:=Ag v4 hkx HNE2.out;replace m0:=Ag m0 hkx HNE1.out;replace m1:=Ag m1 hkx HNE1.out;replace m2:=Ag m2 hkx HNE1.out;replace m3:=Ag m3 hkx HNE1.out;replace m4:=Ag m4 hkx HNE1.out;go_simp;with_reducible rfl);rotate_left;simp only [sc0,sc1]
      refine Ae (i:=4) (v:=?_) HT rfl (by kernel_rfl) rfl (kA Aa (kA (Af rfl) (Au rfl))) (by rfl) (fun _ _ _ h => h) (fun lx ax wx hS => ?_) ?_;rotate_left;(have hkx:=hS.1;clear hS;replace x4:=Ag x4 hkx HNE3.out;replace v4:=Ag v4 hkx HNE2.out;replace m0:=Ag m0 hkx HNE1.out;replace m1:=Ag m1 hkx HNE1.out;replace m2:=Ag m2 hkx HNE1.out;replace m3:=Ag m3 hkx HNE1.out;replace m4:=Ag m4 hkx HNE1.out;go_simp;with_reducible rfl);rotate_left;simp only [sc0,sc1]
      refine Ae (i:=5) (v:=?_) HT rfl (by kernel_rfl) rfl (kA Aa (kA (Af rfl) (Au rfl))) (by rfl) (fun _ _ _ h => h) (fun lx ax wx hS => ?_) ?_;rotate_left;(have hkx:=hS.1;clear hS;replace x4:=Ag x4 hkx HNE3.out;replace v4:=Ag v4 hkx HNE2.out;replace m0:=Ag m0 hkx HNE1.out;replace m1:=Ag m1 hkx HNE1.out;replace m2:=Ag m2 hkx HNE1.out;replace m3:=Ag m3 hkx HNE1.out;replace m4:=Ag m4 hkx HNE1.out;go_simp;with_reducible rfl);rotate_left;simp only [sc0,sc1]
      refine EM (i:=6) HT rfl (by kernel_rfl) rfl (kA Aa (kA (Af rfl) (Au rfl))) (by rfl) (fun _ _ _ h => h) ?_;simp only [sc0,sc1]
      refine EM (i:=7) HT rfl (by kernel_rfl) rfl (kA Aa (kA (Af rfl) (Au rfl))) (by rfl) (fun _ _ _ h => h) ?_;simp only [sc0,sc1]
      refine EM (i:=8) HT rfl (by kernel_rfl) rfl (kA Aa (kA (Af rfl) (Au rfl))) (by rfl) (fun _ _ _ h => h) ?_;simp only [sc0,sc1]
      refine Ae (i:=9) (v:=?_) HT rfl (by kernel_rfl) rfl (kA Aa (kA (Af rfl) (Au rfl))) (by rfl) (fun _ _ _ h => h) (fun lx ax wx hS => ?_) ?_;rotate_left;(have hkx:=hS.1;clear hS;replace x4:=Ag x4 hkx HNE3.out;replace v4:=Ag v4 hkx HNE2.out;replace m0:=Ag m0 hkx HNE1.out;replace m1:=Ag m1 hkx HNE1.out;replace m2:=Ag m2 hkx HNE1.out;replace m3:=Ag m3 hkx HNE1.out;replace m4:=Ag m4 hkx HNE1.out;go_simp;with_reducible rfl);rotate_left;simp only [sc0,sc1]
      refine Ae (i:=10) (v:=?_) HT rfl (by kernel_rfl) rfl (kA Aa (kA (Af rfl) (Au rfl))) (by rfl) (fun _ _ _ h => h) (fun lx ax wx hS => ?_) ?_;rotate_left;(have hkx:=hS.1;clear hS;replace x4:=Ag x4 hkx HNE3.out;replace v4:=Ag v4 hkx HNE2.out;replace m0:=Ag m0 hkx HNE1.out;replace m1:=Ag m1 hkx HNE1.out;replace m2:=Ag m2 hkx HNE1.out;replace m3:=Ag m3 hkx HNE1.out;replace m4:=Ag m4 hkx HNE1.out;go_simp;with_reducible rfl);rotate_left;simp only [sc0,sc1]
      refine AQ [11] (by kernel_rfl) (fun i hi wx hS => ?_)
      obtain rfl:=List.mem_singleton.1 hi
      clear hi
      have hbx:=hS.2.1 (by kernel_rfl)
      have hp:=HP5.out.up hbx
      have y0:=hp.c0
      have y1:=hp.c1
      have y2:=hp.c2
      have y3:=hp.c3
      have y4:=hp.c4
      have f0:=hp.frz 0
      have f1:=hp.frz 1
      have f2:=hp.frz 2
      have f3:=hp.frz 3
      have f4:=hp.frz 4
      refine Bh (w1:=Go.Proofs.YtpjmlpmhgfghbaaGreat.Az wx w2.heap.size E (.slice Ed E.disk.length n1) (.slice Em E.mem.length n2) (.slice El E.log.length n3)) rfl (by rfl) (by go_simp) ?_
      refine ⟨⟨((((hS.1.setCell (p:=⟨w2.heap.size,0,none⟩) (.inl rfl) _).setCell (p:=⟨w2.heap.size,1,none⟩) (.inl rfl) _).setCell (p:=⟨w2.heap.size,2,none⟩) (.inl rfl) _).setCell (p:=⟨w2.heap.size,3,none⟩) (.inl rfl) _).setCell (p:=⟨w2.heap.size,4,none⟩) (.inl rfl) _,fun h => (AA (by kernel_rfl) h).elim,fun _ => ⟨wx,hbx,rfl⟩⟩,?_⟩
      clear hS hbx hp y0 y1 y2 y3 y4 f0 f1 f2 f3 f4
      refine Ae (i:=12) (v:=?_) HT rfl (by kernel_rfl) rfl (kA Aa (kA (Af rfl) (Au rfl))) (by rfl) (fun _ _ _ h => h) (fun lx ax wx hS => ?_) ?_;rotate_left;(go_simp;with_reducible rfl);rotate_left;simp only [sc0,sc1]
      refine DX (by kernel_rfl) (fun w8 hS => ?_)
      obtain ⟨wy,hby,rfl⟩:=hS.2.2 (by kernel_rfl)
      clear hS
      have HP2:=As (HP5.out.up hby)
      have HO2:=As (HO5.out.below hby)
      have HX2:=As (bj HX5.out hby)
      clear hby x4 v4
      go_wp2
      have hy:=HP2.out.Az E (.slice Ed E.disk.length n1) (.slice Em E.mem.length n2) (.slice El E.log.length n3)
      have h1:=HO2.out.Az (f:=E) (xd:=.slice Ed E.disk.length n1) (xm:=.slice Em E.mem.length n2) (xl:=.slice El E.log.length n3) HP2.out
      have hge:=HBG.out
      have hzz:=HZ.out
      have h2:=Ak (g:=w2.heap.size) (bj HB.out HX2.out) hge E (.slice Ed E.disk.length n1) (.slice Em E.mem.length n2) (.slice El E.log.length n3)
      have z0:=hy.c0
      have z1:=hy.c1
      have z2:=hy.c2
      have z3:=hy.c3
      have z4:=hy.c4
      exact bodyPost_ret (v:=.tuple #[E.ag (.slice Ed E.disk.length n1) (.slice Em E.mem.length n2) (.slice El E.log.length n3), .bool _]) (by simp [results,Tryz.results37,go_sem,z0,z1,z2,z3,z4];rfl) rfl ⟨_,_,_,by simp [hdn],h1.lower (by omega),h2⟩
    · skip
      refine AX (fun lx a wx => Kept w5 wx (fun k => k = w2.heap.size) ∧ (Un 11 (fun wx => Below w5.heap.size w5 wx) lx a wx ∧ Ys 11 (fun wx => ∃ wy,Below w5.heap.size w5 wy ∧ wx = Go.Proofs.YtpjmlpmhgfghbaaGreat.Az wy w2.heap.size E (.slice Ed E.disk.length n1) (.slice Em E.mem.length n2) (.slice El E.log.length n3)) lx a wx)) 13 rfl (by kernel_rfl) (⟨Kept.drew (Kept.refl _ _),fun _ => Aj (Below.refl _ _),Gx⟩) (fun HT => ?_)
      refine Ae (i:=0) (v:=?_) HT rfl (by kernel_rfl) rfl (kA Aa (kA (Af rfl) (Au rfl))) (by rfl) (fun _ _ _ h => h) (fun lx ax wx hS => ?_) ?_;rotate_left;(have hkx:=hS.1;clear hS;replace x4:=Ag x4 hkx HNE3.out;replace v4:=Ag v4 hkx HNE2.out;replace m0:=Ag m0 hkx HNE1.out;replace m1:=Ag m1 hkx HNE1.out;replace m2:=Ag m2 hkx HNE1.out;replace m3:=Ag m3 hkx HNE1.out;replace m4:=Ag m4 hkx HNE1.out;go_simp;with_reducible rfl);rotate_left;simp only [sc0,sc1]
      refine Ae (i:=1) (v:=?_) HT rfl (by kernel_rfl) rfl (kA Aa (kA (Af rfl) (Au rfl))) (by rfl) (fun _ _ _ h => h) (fun lx ax wx hS => ?_) ?_;rotate_left;(have hkx:=hS.1;clear hS;replace x4:=Ag x4 hkx HNE3.out;replace v4:=Ag v4 hkx HNE2.out;replace m0:=Ag m0 hkx HNE1.out;replace m1:=Ag m1 hkx HNE1.out;replace m2:=Ag m2 hkx HNE1.out;replace m3:=Ag m3 hkx HNE1.out;replace m4:=Ag m4 hkx HNE1.out;go_simp;with_reducible rfl);rotate_left;simp only [sc0,sc1]
      refine Ae (i:=2) (v:=?_) HT rfl (by kernel_rfl) rfl (kA Aa (kA (Af rfl) (Au rfl))) (by rfl) (fun _ _ _ h => h) (fun lx ax wx hS => ?_) ?_;rotate_left;(have hkx:=hS.1;clear hS;replace x4:=Ag x4 hkx HNE3.out;replace v4:=Ag v4 hkx HNE2.out;replace m0:=Ag m0 hkx HNE1.out;replace m1:=Ag m1 hkx HNE1.out;replace m2:=Ag m2 hkx HNE1.out;replace m3:=Ag m3 hkx HNE1.out;replace m4:=Ag m4 hkx HNE1.out;go_simp;with_reducible rfl);rotate_left;simp only [sc0,sc1]
      refine Ae (i:=3) (v:=?_) HT rfl (by kernel_rfl) rfl (kA Aa (kA (Af rfl) (Au rfl))) (by rfl) (fun _ _ _ h => h) (fun lx ax wx hS => ?_) ?_;rotate_left;(have hkx:=hS.1;clear hS;replace x4:=Ag x4 hkx HNE3.out;replace v4:=Ag v4 hkx HNE2.out;replace m0:=Ag m0 hkx HNE1.out;replace m1:=Ag m1 hkx HNE1.out;replace m2:=Ag m2 hkx HNE1.out;replace m3:=Ag m3 hkx HNE1.out;replace m4:=Ag m4 hkx HNE1.out;go_simp;with_reducible rfl);rotate_left;simp only [sc0,sc1]
      refine Ae (i:=4) (v:=?_) HT rfl (by kernel_rfl) rfl (kA Aa (kA (Af rfl) (Au rfl))) (by rfl) (fun _ _ _ h => h) (fun lx ax wx hS => ?_) ?_;rotate_left;(have hkx:=hS.1;clear hS;replace x4:=Ag x4 hkx HNE3.out;replace v4:=Ag v4 hkx HNE2.out;replace m0:=Ag m0 hkx HNE1.out;replace m1:=Ag m1 hkx HNE1.out;replace m2:=Ag m2 hkx HNE1.out;replace m3:=Ag m3 hkx HNE1.out;replace m4:=Ag m4 hkx HNE1.out;go_simp;with_reducible rfl);rotate_left;simp only [sc0,sc1]
      refine Ae (i:=5) (v:=?_) HT rfl (by kernel_rfl) rfl (kA Aa (kA (Af rfl) (Au rfl))) (by rfl) (fun _ _ _ h => h) (fun lx ax wx hS => ?_) ?_;rotate_left;(have hkx:=hS.1;clear hS;replace x4:=Ag x4 hkx HNE3.out;replace v4:=Ag v4 hkx HNE2.out;replace m0:=Ag m0 hkx HNE1.out;replace m1:=Ag m1 hkx HNE1.out;replace m2:=Ag m2 hkx HNE1.out;replace m3:=Ag m3 hkx HNE1.out;replace m4:=Ag m4 hkx HNE1.out;go_simp;with_reducible rfl);rotate_left;simp only [sc0,sc1]
      refine Ae (i:=6) (v:=?_) HT rfl (by kernel_rfl) rfl (kA Aa (kA (Af rfl) (Au rfl))) (by rfl) (fun _ _ _ h => h) (fun lx ax wx hS => ?_) ?_;rotate_left;(have hkx:=hS.1;clear hS;replace x4:=Ag x4 hkx HNE3.out;replace v4:=Ag v4 hkx HNE2.out;replace m0:=Ag m0 hkx HNE1.out;replace m1:=Ag m1 hkx HNE1.out;replace m2:=Ag m2 hkx HNE1.out;replace m3:=Ag m3 hkx HNE1.out;replace m4:=Ag m4 hkx HNE1.out;go_simp;with_reducible rfl);rotate_left;simp only [sc0,sc1]
      refine Ae (i:=7) (v:=?_) HT rfl (by kernel_rfl) rfl (kA Aa (kA (Af rfl) (Au rfl))) (by rfl) (fun _ _ _ h => h) (fun lx ax wx hS => ?_) ?_;rotate_left;(have hkx:=hS.1;clear hS;replace x4:=Ag x4 hkx HNE3.out;replace v4:=Ag v4 hkx HNE2.out;replace m0:=Ag m0 hkx HNE1.out;replace m1:=Ag m1 hkx HNE1.out;replace m2:=Ag m2 hkx HNE1.out;replace m3:=Ag m3 hkx HNE1.out;replace m4:=Ag m4 hkx HNE1.out;go_simp;with_reducible rfl);rotate_left;simp only [sc0,sc1]
      refine Ae (i:=8) (v:=?_) HT rfl (by kernel_rfl) rfl (kA Aa (kA (Af rfl) (Au rfl))) (by rfl) (fun _ _ _ h => h) (fun lx ax wx hS => ?_) ?_;rotate_left;(have hkx:=hS.1;clear hS;replace x4:=Ag x4 hkx HNE3.out;replace v4:=Ag v4 hkx HNE2.out;replace m0:=Ag m0 hkx HNE1.out;replace m1:=Ag m1 hkx HNE1.out;replace m2:=Ag m2 hkx HNE1.out;replace m3:=Ag m3 hkx HNE1.out;replace m4:=Ag m4 hkx HNE1.out;go_simp;with_reducible rfl);rotate_left;simp only [sc0,sc1]
      refine Ae (i:=9) (v:=?_) HT rfl (by kernel_rfl) rfl (kA Aa (kA (Af rfl) (Au rfl))) (by rfl) (fun _ _ _ h => h) (fun lx ax wx hS => ?_) ?_;rotate_left;(have hkx:=hS.1;clear hS;replace x4:=Ag x4 hkx HNE3.out;replace v4:=Ag v4 hkx HNE2.out;replace m0:=Ag m0 hkx HNE1.out;replace m1:=Ag m1 hkx HNE1.out;replace m2:=Ag m2 hkx HNE1.out;replace m3:=Ag m3 hkx HNE1.out;replace m4:=Ag m4 hkx HNE1.out;go_simp;with_reducible rfl);rotate_left;simp only [sc0,sc1]
      refine Ae (i:=10) (v:=?_) HT rfl (by kernel_rfl) rfl (kA Aa (kA (Af rfl) (Au rfl))) (by rfl) (fun _ _ _ h => h) (fun lx ax wx hS => ?_) ?_;rotate_left;(have hkx:=hS.1;clear hS;replace x4:=Ag x4 hkx HNE3.out;replace v4:=Ag v4 hkx HNE2.out;replace m0:=Ag m0 hkx HNE1.out;replace m1:=Ag m1 hkx HNE1.out;replace m2:=Ag m2 hkx HNE1.out;replace m3:=Ag m3 hkx HNE1.out;replace m4:=Ag m4 hkx HNE1.out;go_simp;with_reducible rfl);rotate_left;simp only [sc0,sc1]
      refine AQ [11] (by kernel_rfl) (fun i hi wx hS => ?_)
      obtain rfl:=List.mem_singleton.1 hi
      clear hi
      have hbx:=hS.2.1 (by kernel_rfl)
      have hp:=HP5.out.up hbx
      have y0:=hp.c0
      have y1:=hp.c1
      have y2:=hp.c2
      have y3:=hp.c3
      have y4:=hp.c4
      have f0:=hp.frz 0
      have f1:=hp.frz 1
      have f2:=hp.frz 2
      have f3:=hp.frz 3
      have f4:=hp.frz 4
      refine Bh (w1:=Go.Proofs.YtpjmlpmhgfghbaaGreat.Az wx w2.heap.size E (.slice Ed E.disk.length n1) (.slice Em E.mem.length n2) (.slice El E.log.length n3)) rfl (by rfl) (by go_simp) ?_
      refine ⟨⟨((((hS.1.setCell (p:=⟨w2.heap.size,0,none⟩) (.inl rfl) _).setCell (p:=⟨w2.heap.size,1,none⟩) (.inl rfl) _).setCell (p:=⟨w2.heap.size,2,none⟩) (.inl rfl) _).setCell (p:=⟨w2.heap.size,3,none⟩) (.inl rfl) _).setCell (p:=⟨w2.heap.size,4,none⟩) (.inl rfl) _,fun h => (AA (by kernel_rfl) h).elim,fun _ => ⟨wx,hbx,rfl⟩⟩,?_⟩
      clear hS hbx hp y0 y1 y2 y3 y4 f0 f1 f2 f3 f4
      refine Ae (i:=12) (v:=?_) HT rfl (by kernel_rfl) rfl (kA Aa (kA (Af rfl) (Au rfl))) (by rfl) (fun _ _ _ h => h) (fun lx ax wx hS => ?_) ?_;rotate_left;(go_simp;with_reducible rfl);rotate_left;simp only [sc0,sc1]
      refine DX (by kernel_rfl) (fun w8 hS => ?_)
      obtain ⟨wy,hby,rfl⟩:=hS.2.2 (by kernel_rfl)
      clear hS
      have HP2:=As (HP5.out.up hby)
      have HO2:=As (HO5.out.below hby)
      have HX2:=As (bj HX5.out hby)
      clear hby x4 v4
      go_wp2
      have hy:=HP2.out.Az E (.slice Ed E.disk.length n1) (.slice Em E.mem.length n2) (.slice El E.log.length n3)
      have h1:=HO2.out.Az (f:=E) (xd:=.slice Ed E.disk.length n1) (xm:=.slice Em E.mem.length n2) (xl:=.slice El E.log.length n3) HP2.out
      have hge:=HBG.out
      have hzz:=HZ.out
      have h2:=Ak (g:=w2.heap.size) (bj HB.out HX2.out) hge E (.slice Ed E.disk.length n1) (.slice Em E.mem.length n2) (.slice El E.log.length n3)
      have z0:=hy.c0
      have z1:=hy.c1
      have z2:=hy.c2
      have z3:=hy.c3
      have z4:=hy.c4
      exact bodyPost_ret (v:=.tuple #[E.ag (.slice Ed E.disk.length n1) (.slice Em E.mem.length n2) (.slice El E.log.length n3), .bool _]) (by simp [results,Tryz.results37,go_sem,z0,z1,z2,z3,z4];rfl) rfl ⟨_,_,_,by simp [hdn],h1.lower (by omega),h2⟩
  · rw [show CZ e v = (zE,false) by rw [CZ,if_neg e1.out,if_neg e2.out,if_neg e3.out,if_neg e4.out,if_neg e5.out,if_neg e6.out,if_neg e7.out,if_neg e8.out,if_neg e9.out]]
    clear hi hb hr hv hcl hB
    go_enter Tryz.func37,Tryz.ntmps37
    go_wp2_with (first
      | (with_reducible refine Aw (vd:=.slice Ad e.disk.length cd) (vm:=.slice Am e.mem.length cm) (vl:=.slice Al e.log.length cl) e ?_;intro w1 hb1 hz1 hq1;clear hz1;have HB:=As hb1;have HQ:=As hq1;clear hb1 hq1)
      | (with_reducible refine Er (A:=A) (c:=c) v ?_;intro w2 hb1 hz1 hq1;clear hz1;have HN1:=As HB.out.size;replace HB:=As (bj HB.out hb1);replace HQ:=As (HQ.out.up hb1);have HV:=As hq1;have HL1:=As hq1.lt;clear hb1 hq1)
      | (refine Aw (vd:=.slice none 0 0) (vm:=.slice none 0 0) (vl:=.slice none 0 0) zE ?_;intro w3 hb1 hz1 hq1;have HBG:=As HB.out.size;replace HB:=As (bj HB.out hb1);replace HQ:=As (HQ.out.up hb1);replace HV:=As (HV.out.up hb1);have HP:=As hq1;have HZ:=As hz1;have x0:=HQ.out.c0;have x1:=HQ.out.c1;have x2:=HQ.out.c2;have x3:=HQ.out.c3;have x4:=HQ.out.c4;have v0:=HV.out.c0;have v1:=HV.out.c1;have v2:=HV.out.c2;have v3:=HV.out.c3;have v4:=HV.out.c4;have v5:=HV.out.c5;have y0:=HP.out.c0;have y1:=HP.out.c1;have y2:=HP.out.c2;have y3:=HP.out.c3;have y4:=HP.out.c4;have f0:=HP.out.frz 0;have f1:=HP.out.frz 1;have f2:=HP.out.frz 2;have f3:=HP.out.frz 3;have f4:=HP.out.frz 4;clear hb1 hz1 hq1))
    obtain ⟨z0,z1,z2,z3,z4⟩:=HP.out.empty
    have hge:=HBG.out
    exact bodyPost_ret (v:=.tuple #[zEv, .bool false]) (by simp [results,Tryz.results37,go_sem,z0,z1,z2,z3,z4]) rfl ⟨_,_,_,rfl,I6 _ _,Ak (g:=w2.heap.size) HB.out hge zE _ _ _⟩
  all_goals
    go_enter Tryz.func37,Tryz.ntmps37
    go_wp2_with (first
      | (with_reducible refine Aw (vd:=.slice Ad e.disk.length cd) (vm:=.slice Am e.mem.length cm) (vl:=.slice Al e.log.length cl) e ?_;intro w1 hb1 hz1 hq1;clear hz1;have HB:=As hb1;have HQ:=As hq1;clear hb1 hq1)
      | (with_reducible refine Er (A:=A) (c:=c) v ?_;intro w2 hb1 hz1 hq1;clear hz1;have HN1:=As HB.out.size;replace HB:=As (bj HB.out hb1);replace HQ:=As (HQ.out.up hb1);have HV:=As hq1;have HL1:=As hq1.lt;clear hb1 hq1)
      | (refine Aw (vd:=.slice none 0 0) (vm:=.slice none 0 0) (vl:=.slice none 0 0) zE ?_;intro w3 hb1 hz1 hq1;have HBG:=As HB.out.size;replace HB:=As (bj HB.out hb1);replace HQ:=As (HQ.out.up hb1);replace HV:=As (HV.out.up hb1);have HP:=As hq1;have HZ:=As hz1;have x0:=HQ.out.c0;have x1:=HQ.out.c1;have x2:=HQ.out.c2;have x3:=HQ.out.c3;have x4:=HQ.out.c4;have v0:=HV.out.c0;have v1:=HV.out.c1;have v2:=HV.out.c2;have v3:=HV.out.c3;have v4:=HV.out.c4;have v5:=HV.out.c5;have y0:=HP.out.c0;have y1:=HP.out.c1;have y2:=HP.out.c2;have y3:=HP.out.c3;have y4:=HP.out.c4;have f0:=HP.out.frz 0;have f1:=HP.out.frz 1;have f2:=HP.out.frz 2;have f3:=HP.out.frz 3;have f4:=HP.out.frz 4;clear hb1 hz1 hq1)
      | ((first | go_at_call 82 | go_at_call 83 | go_at_call 84 | go_at_call 85 | go_at_call 86 | go_at_call 87 | go_at_call 88 | go_at_call 89);refine (HIN.out w3 HB.out).mono ?_;rintro x w4 ⟨vd,vm,vl,rfl,ho,hb2⟩;obtain ⟨Ed,n1,Em,n2,El,n3,rfl,rfl,rfl, -, -⟩:=ho.reads;have HO:=As ho;have HX:=As hb2;clear x0 x1 x2 x3 x4 v0 v1 v2 v3 v4 v5 y0 y1 y2 y3 y4 f0 f1 f2 f3 f4;have hp:=HP.out.up hb2;have HP2:=As hp;have y0:=hp.c0;have y1:=hp.c1;have y2:=hp.c2;have y3:=hp.c3;have y4:=hp.c4;have f0:=hp.frz 0;have f1:=hp.frz 1;have f2:=hp.frz 2;have f3:=hp.frz 3;have f4:=hp.frz 4;clear hp hb2 ho))
    have hy:=HP2.out.Az E (.slice Ed E.disk.length n1) (.slice Em E.mem.length n2) (.slice El E.log.length n3)
    have h1:=HO.out.Az (f:=E) (xd:=.slice Ed E.disk.length n1) (xm:=.slice Em E.mem.length n2) (xl:=.slice El E.log.length n3) HP2.out
    have hge:=HBG.out
    have hzz:=HZ.out
    have h2:=Ak (g:=w2.heap.size) (bj HB.out HX.out) hge E (.slice Ed E.disk.length n1) (.slice Em E.mem.length n2) (.slice El E.log.length n3)
    have z0:=hy.c0
    have z1:=hy.c1
    have z2:=hy.c2
    have z3:=hy.c3
    have z4:=hy.c4
    exact bodyPost_ret (v:=.tuple #[E.ag (.slice Ed E.disk.length n1) (.slice Em E.mem.length n2) (.slice El E.log.length n3), .bool bb]) (by simp [results,Tryz.results37,go_sem,z0,z1,z2,z3,z4]) rfl ⟨_,_,_,rfl,h1.lower (by omega),h2⟩
end Go.Proofs.YtpjmlpmhgfghbaaGreat
namespace Go.Proofs.YtpjmlpmhgfghbaaGreat
open Go.RowKit Go.Proofs.YtpjmlpmhgfghbaaGreatW.PrintWords Go.Proofs.YtpjmlpmhgfghbaaGreatW.PrintLast Go.Proofs.YtpjmlpmhgfghbaaGreatW.PrintMore
theorem IZ (e : Eng) (ok : Bool) (x : Eng) : (Bp e ok x).1 = if (Bp e ok x).2 = true then (Bp e ok x).1 else e:=by
  unfold Bp
  split <;> simp
theorem RP {e : Eng} {C : Nat → Page} {B : Nat} (hi : Inv e C B) (v : Evt) : BN e v = if (CZ e v).2 = true then (CZ e v).1 else e:=by
  unfold BN CZ
  by_cases k1 : v.kind = 1
  · rw [if_pos k1,if_pos k1];exact IZ _ _ _
  rw [if_neg k1,if_neg k1]
  by_cases k2 : v.kind = 2
  · rw [if_pos k2,if_pos k2];exact IZ _ _ _
  rw [if_neg k2,if_neg k2]
  by_cases k3 : v.kind = 3
  · rw [if_pos k3,if_pos k3];exact IZ _ _ _
  rw [if_neg k3,if_neg k3]
  have hop : ∀ tx,Ke e tx = true ↔ e.down = false ∧ Ao e.log tx e.log.length ≠ 0:=fun tx => by
    rw [Gv]
    exact ⟨fun h => ⟨h.1,h.2.2⟩,fun h => ⟨h.1,F9 hi.core.log h.2,h.2⟩⟩
  have hend : ∀ tx X,(if Ke e tx = true then X else e) = if (Cz e tx X).2 = true then (Cz e tx X).1 else e:=fun tx X => by
    unfold Cz
    by_cases h : e.down = false ∧ Ao e.log tx e.log.length ≠ 0
    · rw [if_pos ((hop tx).2 h),if_pos h,if_pos rfl]
    · rw [if_neg (fun h2 => h ((hop tx).1 h2)),if_neg h,if_neg (by simp)]
  by_cases k4 : v.kind = 4
  · rw [if_pos k4,if_pos k4];exact hend _ _
  rw [if_neg k4,if_neg k4]
  by_cases k5 : v.kind = 5
  · rw [if_pos k5,if_pos k5];exact hend _ _
  rw [if_neg k5,if_neg k5]
  by_cases k6 : v.kind = 6
  · rw [if_pos k6,if_pos k6,ET]
    split <;> simp
  rw [if_neg k6,if_neg k6]
  by_cases k7 : v.kind = 7
  · rw [if_pos k7,if_pos k7,FW]
    split <;> simp
  rw [if_neg k7,if_neg k7]
  by_cases k8 : v.kind = 8
  · rw [if_pos k8,if_pos k8]
    by_cases h : 0 ≤ v.n
    · rw [if_pos h,show GX e v.n = (JG e v.n,true) by rw [GX,if_pos ⟨hi.ok,h⟩],if_pos rfl]
    · rw [if_neg h,show GX e v.n = (zE,false) by rw [GX,if_neg (fun h2 => h h2.2)],if_neg (by simp)]
  rw [if_neg k8,if_neg k8]
  by_cases k9 : v.kind = 9
  · rw [if_pos k9,if_pos k9]
    by_cases h : 0 ≤ v.n
    · cases hd : e.down
      · rw [if_neg (by simp),show upR e v.n = (e,false) by rw [upR,if_pos ⟨hi.ok,h⟩,if_neg (by rw [hd];simp)]]
        simp
      · rw [if_pos ⟨rfl,h⟩,show upR e v.n = (upE (CX v.n.toNat (EW e)),decide (AO (CX v.n.toNat (EW e)) = 0)) by rw [upR,if_pos ⟨hi.ok,h⟩,if_pos hd],if_pos (by simp [h]),Q5]
    · rw [if_neg (fun h2 => h h2.2),show upR e v.n = (zE,false) by rw [upR,if_neg (fun h2 => h h2.2)],if_neg (by simp [h])]
  rw [if_neg k9,if_neg k9]
  simp
set_option maxRecDepth 100000 in
set_option maxHeartbeats 16000000 in
theorem LD {w0 w : World} {e : Eng} {C : Nat → Page} {B : Nat} {Ad Am Al A : Option Addr} {cd cm cl c : Nat} (v : Evt) (hi : Inv e C B) (hB : B + 3 ≤ 150) (hcl : e.log.length ≤ cl) (hb : Below w0.heap.size w0 w) (hr : DF w0 e Ad Am Al) (hv : Kd.C (Kd.int .i64) w0 A v.vals.length v.vals) : Calls Tryz.prog 11 #[e.val Ad Am Al cd cm cl,v.val A c] w (RV w (BN e v)):=by
  rw [RP hi]
  obtain ⟨E,r,hE⟩ : ∃ E r,CZ e v = (E,r):=⟨_,_,rfl⟩
  rw [hE]
  have HIN : Ac (∀ wx,Below w.heap.size w wx → Calls Tryz.prog 37 #[e.val Ad Am Al cd cm cl,v.val A c] wx (CQ wx E r)):=⟨fun wx hbx => by
    have h:=QS (cd:=cd) (cm:=cm) (c:=c) v hi hB hcl (bj hb hbx) hr hv
    rw [hE] at h
    exact h⟩
  have HOK:=As hi.ok
  have HF:=As (Fh.1 hi.ok)
  have HLG:=As (Bg HF.out.log)
  have HR:=As (hr.up hb)
  clear hi hb hr hv hE hB
  cases r
  · rw [if_neg (by simp)]
    go_enter Tryz.func11,Tryz.ntmps11
    go_wp2_with (first
      | (with_reducible refine Aw (vd:=.slice Ad e.disk.length cd) (vm:=.slice Am e.mem.length cm) (vl:=.slice Al e.log.length cl) e ?_;intro w1 hb1 hz1 hq1;clear hz1;have HB:=As hb1;have HQ:=As hq1;clear hb1 hq1)
      | (with_reducible refine Er (A:=A) (c:=c) v ?_;intro w2 hb1 hz1 hq1;clear hz1;have HN1:=As HB.out.size;replace HB:=As (bj HB.out hb1);replace HQ:=As (HQ.out.up hb1);have HV:=As hq1;have HL1:=As hq1.lt;clear hb1 hq1)
      | (refine Aw (vd:=.slice none 0 0) (vm:=.slice none 0 0) (vl:=.slice none 0 0) zE ?_;intro w3 hb1 hz1 hq1;have HBG:=As HB.out.size;replace HB:=As (bj HB.out hb1);replace HQ:=As (HQ.out.up hb1);replace HV:=As (HV.out.up hb1);have HP:=As hq1;have HZ:=As hz1;have x0:=HQ.out.c0;have x1:=HQ.out.c1;have x2:=HQ.out.c2;have x3:=HQ.out.c3;have x4:=HQ.out.c4;have v0:=HV.out.c0;have v1:=HV.out.c1;have v2:=HV.out.c2;have v3:=HV.out.c3;have v4:=HV.out.c4;have v5:=HV.out.c5;have y0:=HP.out.c0;have y1:=HP.out.c1;have y2:=HP.out.c2;have y3:=HP.out.c3;have y4:=HP.out.c4;have f0:=HP.out.frz 0;have f1:=HP.out.frz 1;have f2:=HP.out.frz 2;have f3:=HP.out.frz 3;have f4:=HP.out.frz 4;clear hb1 hz1 hq1)
      | (go_at_call 36;refine (AL (cd:=cd) (cm:=cm) HOK.out hcl HB.out HR.out).mono ?_;rintro x w4 ⟨rfl,hb2⟩;have HX4:=As hb2;replace x0:=bc hb2 x0;replace x1:=bc hb2 x1;replace x2:=bc hb2 x2;replace x3:=bc hb2 x3;replace x4:=bc hb2 x4;replace v0:=bc hb2 v0;replace v1:=bc hb2 v1;replace v2:=bc hb2 v2;replace v3:=bc hb2 v3;replace v4:=bc hb2 v4;replace v5:=bc hb2 v5;have HB3:=HB;replace HB:=As (bj HB.out hb2);clear hb2)
      | (go_at_call 37;refine (HIN.out w4 HB.out).mono ?_;rintro x w5 ⟨vd,vm,vl,rfl,ho,hb2⟩;obtain ⟨Ed,n1,Em,n2,El,n3,rfl,rfl,rfl, -, -⟩:=ho.reads;have HO:=As ho;have HX:=As hb2;clear v0 v1 v2 v3 v4 v5 y0 y1 y2 y3 y4 f0 f1 f2 f3 f4;clear hb2 ho)
      | (refine Aw (vd:=.slice Ed E.disk.length n1) (vm:=.slice Em E.mem.length n2) (vl:=.slice El E.log.length n3) E ?_;intro w6 hb5 hz5 hq5;clear hz5;have HX5:=As (bj HX.out hb5);have HX35:=As (bj HX4.out HX5.out);replace x0:=bc HX5.out x0;replace x1:=bc HX5.out x1;replace x2:=bc HX5.out x2;replace x3:=bc HX5.out x3;replace x4:=bc HX5.out x4;clear hb5 hq5)
      | (go_at_call 38;refine (AV (cd:=cd) (cm:=cm) (cl:=cl) (Ay HF.out.disk) (Ay HF.out.mem) HLG.out (bj HB.out HX5.out) HR.out).mono ?_;rintro x w7 ⟨vd,vm,vl,rfl,ho,hb2⟩;obtain ⟨Bd,k1,Bm,k2,Bl,k3,rfl,rfl,rfl, -, -⟩:=ho.reads;have HO7:=As ho;have HX7:=As (bj HX35.out hb2);have HS7:=As HX35.out.size;have hp:=HP.out.up HX7.out;have HP2:=As hp;clear x0 x1 x2 x3 x4;have y0:=hp.c0;have y1:=hp.c1;have y2:=hp.c2;have y3:=hp.c3;have y4:=hp.c4;have f0:=hp.frz 0;have f1:=hp.frz 1;have f2:=hp.frz 2;have f3:=hp.frz 3;have f4:=hp.frz 4;clear hp hb2 ho))
    have hs7:=HS7.out
    have hy:=HP2.out.Az e (.slice Bd e.disk.length k1) (.slice Bm e.mem.length k2) (.slice Bl e.log.length k3)
    have h1:=HO7.out.Az (f:=e) (xd:=.slice Bd e.disk.length k1) (xm:=.slice Bm e.mem.length k2) (xl:=.slice Bl e.log.length k3) HP2.out
    have hge:=HBG.out
    have hzz:=HZ.out
    have hx4:=HX4.out.size
    have h2:=Ak (g:=w2.heap.size) (bj HB3.out HX7.out) hge e (.slice Bd e.disk.length k1) (.slice Bm e.mem.length k2) (.slice Bl e.log.length k3)
    have z0:=hy.c0
    have z1:=hy.c1
    have z2:=hy.c2
    have z3:=hy.c3
    have z4:=hy.c4
    exact bodyPost_ret (v:=e.ag (.slice Bd e.disk.length k1) (.slice Bm e.mem.length k2) (.slice Bl e.log.length k3)) (by simp [results,Tryz.results11,go_sem,z0,z1,z2,z3,z4]) rfl ⟨_,_,_,rfl,h1.lower (by omega),h2⟩
  · rw [if_pos rfl]
    go_enter Tryz.func11,Tryz.ntmps11
    go_wp2_with (first
      | (with_reducible refine Aw (vd:=.slice Ad e.disk.length cd) (vm:=.slice Am e.mem.length cm) (vl:=.slice Al e.log.length cl) e ?_;intro w1 hb1 hz1 hq1;clear hz1;have HB:=As hb1;have HQ:=As hq1;clear hb1 hq1)
      | (with_reducible refine Er (A:=A) (c:=c) v ?_;intro w2 hb1 hz1 hq1;clear hz1;have HN1:=As HB.out.size;replace HB:=As (bj HB.out hb1);replace HQ:=As (HQ.out.up hb1);have HV:=As hq1;have HL1:=As hq1.lt;clear hb1 hq1)
      | (refine Aw (vd:=.slice none 0 0) (vm:=.slice none 0 0) (vl:=.slice none 0 0) zE ?_;intro w3 hb1 hz1 hq1;have HBG:=As HB.out.size;replace HB:=As (bj HB.out hb1);replace HQ:=As (HQ.out.up hb1);replace HV:=As (HV.out.up hb1);have HP:=As hq1;have HZ:=As hz1;have x0:=HQ.out.c0;have x1:=HQ.out.c1;have x2:=HQ.out.c2;have x3:=HQ.out.c3;have x4:=HQ.out.c4;have v0:=HV.out.c0;have v1:=HV.out.c1;have v2:=HV.out.c2;have v3:=HV.out.c3;have v4:=HV.out.c4;have v5:=HV.out.c5;have y0:=HP.out.c0;have y1:=HP.out.c1;have y2:=HP.out.c2;have y3:=HP.out.c3;have y4:=HP.out.c4;have f0:=HP.out.frz 0;have f1:=HP.out.frz 1;have f2:=HP.out.frz 2;have f3:=HP.out.frz 3;have f4:=HP.out.frz 4;clear hb1 hz1 hq1)
      | (go_at_call 36;refine (AL (cd:=cd) (cm:=cm) HOK.out hcl HB.out HR.out).mono ?_;rintro x w4 ⟨rfl,hb2⟩;have HX4:=As hb2;replace x0:=bc hb2 x0;replace x1:=bc hb2 x1;replace x2:=bc hb2 x2;replace x3:=bc hb2 x3;replace x4:=bc hb2 x4;replace v0:=bc hb2 v0;replace v1:=bc hb2 v1;replace v2:=bc hb2 v2;replace v3:=bc hb2 v3;replace v4:=bc hb2 v4;replace v5:=bc hb2 v5;have HB3:=HB;replace HB:=As (bj HB.out hb2);clear hb2)
      | (go_at_call 37;refine (HIN.out w4 HB.out).mono ?_;rintro x w5 ⟨vd,vm,vl,rfl,ho,hb2⟩;obtain ⟨Ed,n1,Em,n2,El,n3,rfl,rfl,rfl, -, -⟩:=ho.reads;have HO:=As ho;have HX:=As hb2;clear v0 v1 v2 v3 v4 v5 y0 y1 y2 y3 y4 f0 f1 f2 f3 f4;clear hb2 ho)
      | (refine Aw (vd:=.slice Ed E.disk.length n1) (vm:=.slice Em E.mem.length n2) (vl:=.slice El E.log.length n3) E ?_;intro w6 hb5 hz5 hq5;clear hz5;have HX5:=As (bj HX.out hb5);have HX35:=As (bj HX4.out HX5.out);have HO5:=As (HO.out.below hb5);have m0:=hq5.c0;have m1:=hq5.c1;have m2:=hq5.c2;have m3:=hq5.c3;have m4:=hq5.c4;have hp:=HP.out.up HX35.out;have HP2:=As hp;clear x0 x1 x2 x3 x4;have y0:=hp.c0;have y1:=hp.c1;have y2:=hp.c2;have y3:=hp.c3;have y4:=hp.c4;have f0:=hp.frz 0;have f1:=hp.frz 1;have f2:=hp.frz 2;have f3:=hp.frz 3;have f4:=hp.frz 4;clear hp hb5 hq5))
    have hy:=HP2.out.Az E (.slice Ed E.disk.length n1) (.slice Em E.mem.length n2) (.slice El E.log.length n3)
    have h1:=HO5.out.Az (f:=E) (xd:=.slice Ed E.disk.length n1) (xm:=.slice Em E.mem.length n2) (xl:=.slice El E.log.length n3) HP2.out
    have hge:=HBG.out
    have hzz:=HZ.out
    have hx4:=HX4.out.size
    have h2:=Ak (g:=w2.heap.size) (bj HB3.out HX35.out) hge E (.slice Ed E.disk.length n1) (.slice Em E.mem.length n2) (.slice El E.log.length n3)
    have z0:=hy.c0
    have z1:=hy.c1
    have z2:=hy.c2
    have z3:=hy.c3
    have z4:=hy.c4
    exact bodyPost_ret (v:=E.ag (.slice Ed E.disk.length n1) (.slice Em E.mem.length n2) (.slice El E.log.length n3)) (by simp [results,Tryz.results11,go_sem,z0,z1,z2,z3,z4]) rfl ⟨_,_,_,rfl,h1.lower (by omega),h2⟩
set_option maxRecDepth 100000 in
set_option maxHeartbeats 8000000 in
theorem Ll (w : World) : Calls Tryz.prog 117 #[] w (Og w newP):=by
  have hmk:=SA
  go_enter Tryz.func117,Tryz.ntmps117
  go_wp2
  obtain ⟨w1,hw1⟩ : ∃ w1,w.alloc (Obj.cells #[.int .i64 0, .int .i64 0, .slice (some ⟨w.heap.size + 1,0,none⟩) 3 3] 81) = w1:=⟨_,rfl⟩
  have hz1 : w1.heap.size = w.heap.size + 1:=by rw [← hw1,BA]
  obtain ⟨w2,hw2⟩ : ∃ w2,w1.alloc (.cells (madeCells #[.int .i64 0] 3) 3) = w2:=⟨_,rfl⟩
  have ho : AR w2 w1.heap.size (.slice (some ⟨w1.heap.size,0,none⟩) 3 3) [0,0,0]:=by rw [← hw2];exact JO w1 w1.heap.size 3 .i64 3 (Nat.le_refl _) (by decide)
  have hq : AY w2 w.heap.size newP (.slice (some ⟨w.heap.size + 1,0,none⟩) 3 3):=by rw [← hw2, ← hw1];exact (AY.mk1 w newP _).up (Ah (Below.refl _ _) _)
  have hb : Below w.heap.size w w2:=by rw [← hw2, ← hw1];exact Ah (Ah (Below.refl _ _) _) _
  rw [hw1,hw2]
  rw [hz1] at ho
  have z0:=hq.c0
  have z1:=hq.c1
  have z2:=hq.c2
  exact bodyPost_ret (v:=newP.own (.slice (some ⟨w.heap.size + 1,0,none⟩) 3 3)) (by simp [results,Tryz.results117,go_sem,z0,z1,z2]) rfl ⟨_,rfl,ho.lower (by omega),hb⟩
theorem OP {k : Nat} (h : k < 5) : (List.replicate 5 newP).take (k + 1) = (List.replicate 5 newP).take k ++ [newP]:=by
  match k,h with
  | 0,_ => rfl
  | 1,_ => rfl
  | 2,_ => rfl
  | 3,_ => rfl
  | 4,_ => rfl
set_option maxRecDepth 100000 in
set_option maxHeartbeats 8000000 in
theorem Jg (w : World) : Calls Tryz.prog 59 #[] w (NT w (List.replicate 5 newP)):=by
  go_enter Tryz.func59,Tryz.ntmps59
  go_wp2
  go_loopw [1,2] (fun v i wr => ∃ k : Nat,k ≤ 5 ∧ i = .int .i64 (k : Int) ∧ Ac (EA wr w.heap.size v ((List.replicate 5 newP).take k)) ∧ Ac (Below w.heap.size w wr)) (fun _ i _ => (5 - intOf i).toNat)
  case atStart => exact ⟨0,Nat.zero_le _,rfl,⟨Kd.Tf _ _ _ _ _⟩,⟨Below.refl _ _⟩⟩
  case round =>
    obtain ⟨k,hk,rfl,HO,HW⟩:=hrel
    by_cases hlt : k < 5
    · have HT:=As (OP hlt)
      have HLN : Ac (((List.replicate 5 newP).take k).length = k):=⟨by simp;omega⟩
      have hki : (k : Int) < 5:=by omega
      go_wp2_with (first | (go_at_call 117;refine (Ll _).mono ?_;rintro e w2 ⟨v,rfl,ho,hb2⟩;have HOv:=As ho;have HW2:=As hb2;have HO2:=As (Kd.Ep HO.out HW2.out);clear ho hb2) | (at_builtin;refine Gi (p:=newP) rfl (.tmp 4) (.tmp 6) rfl rfl rfl HOv.out HO2.out (bj HW.out HW2.out) (by have:=HLN.out;omega) HW.out.size ?_;intro v1 w3 hR hb3;have HR3:=As hR;have HW3:=As hb3;clear hR hb3))
      go_roundw
      case rel => exact ⟨k + 1,by omega,by go_num,⟨by rw [HT.out];exact HR3.out⟩,HW3⟩
      case measure => simp [intOf];omega
    · have hke : k = 5:=by omega
      subst hke
      go_wp2
      go_ret
      exact ⟨_,rfl,HO.out,HW.out⟩
set_option maxRecDepth 100000 in
set_option maxHeartbeats 8000000 in
theorem MZ (w : World) : Calls Tryz.prog 31 #[] w (RV w newE):=by
  go_enter Tryz.func31,Tryz.ntmps31
  go_wp2_with (first
    | (refine Aw (vd:=.slice none 0 0) (vm:=.slice none 0 0) (vl:=.slice none 0 0) zE ?_;intro w1 hb1 hz1 hq1;clear hz1;have HB:=As hb1;have HP:=As hq1;clear hb1 hq1)
    | (go_at_call 59;refine (Jg w1).mono ?_;rintro x w2 ⟨vd,rfl,ho,hb2⟩;obtain ⟨Dd,kd,rfl, -, -⟩:=Kd.CJ ho;have HD : Ac (EA w2 w1.heap.size (.slice Dd 5 kd) (List.replicate 5 newP)):=⟨ho⟩;have HB2:=As hb2;clear ho hb2)
    | (go_at_call 59;refine (Jg w2).mono ?_;rintro x w3 ⟨vm,rfl,ho,hb2⟩;obtain ⟨Dm,km,rfl, -, -⟩:=Kd.CJ ho;have HM : Ac (EA w3 w2.heap.size (.slice Dm 5 km) (List.replicate 5 newP)):=⟨ho⟩;have HB3:=As hb2;have hp:=(HP.out.up HB2.out).up hb2;have HP3:=As hp;have y0:=hp.c0;have y1:=hp.c1;have y2:=hp.c2;have y3:=hp.c3;have y4:=hp.c4;have f0:=hp.frz 0;have f1:=hp.frz 1;have f2:=hp.frz 2;have f3:=hp.frz 3;have f4:=hp.frz 4;clear hp ho hb2))
  have hO : AU w3 w1.heap.size (.slice Dd 5 kd) (.slice Dm 5 km) (.slice none 0 0) newE:=AU.mk2 (w0:=w2) HD.out HM.out HB3.out HB2.out.size (Sq _ _)
  have hy:=HP3.out.Az ⟨[], [], [],0,false⟩ (.slice Dd 5 kd) (.slice Dm 5 km) (.slice none 0 0)
  have h1:=hO.Az (f:=⟨[], [], [],0,false⟩) (xd:=.slice Dd 5 kd) (xm:=.slice Dm 5 km) (xl:=.slice none 0 0) HP3.out
  have h2:=Ak (g:=w.heap.size) (bj HB.out (bj HB2.out HB3.out)) (Nat.le_refl _) ⟨[], [], [],0,false⟩ (.slice Dd 5 kd) (.slice Dm 5 km) (.slice none 0 0)
  have hs:=HB.out.size
  have z0:=hy.c0
  have z1:=hy.c1
  have z2:=hy.c2
  have z3:=hy.c3
  have z4:=hy.c4
  simp only at z3 z4
  exact bodyPost_ret (v:=.agg #[.slice Dd 5 kd, .slice Dm 5 km, .slice none 0 0, .int .i64 0, .bool false]) (by simp [results,Tryz.results31,go_sem,z0,z1,z2,z3,z4]) rfl ⟨.slice Dd 5 kd, .slice Dm 5 km, .slice none 0 0,rfl,h1.lower hs,h2⟩
structure Xa (w : World) (a : Addr) (v : Evt) (A : Option Addr) (c : Nat) : Prop where
  c0 : w.cell? a = some (.int .i64 v.kind)
  c1 : w.cell? ⟨a.block,a.off + 1,none⟩ = some (.int .i64 v.tx)
  c2 : w.cell? ⟨a.block,a.off + 2,none⟩ = some (.int .i64 v.page)
  c3 : w.cell? ⟨a.block,a.off + 3,none⟩ = some (.int .i64 v.slot)
  c4 : w.cell? ⟨a.block,a.off + 4,none⟩ = some (.int .i64 v.n)
  c5 : w.cell? ⟨a.block,a.off + 5,none⟩ = some (.slice A v.vals.length c)
theorem RL {w : World} {A : Option Addr} {n : Nat} {xs : List Evt} (h : Kd.C kEvt w A n xs) (i : Nat) (h1 : i < n) : ∃ ad A2 c2,A = some ad ∧ Xa w (ad.add (i * 6)) (ev xs i) A2 c2 ∧ (ev xs i).vals.length ≤ c2 ∧ (Kd.int .i64).C w A2 (ev xs i).vals.length (ev xs i).vals:=by
  obtain ⟨ad,c,e,_,hK,hc0⟩:=Kd.R7 h v0 (i : Int) (by omega) (by omega)
  have hc : ∀ j u,c[j]? = some u → w.cell? (ad.add (i * 6 + j)) = some u:=hc0
  obtain ⟨A2,c2,rfl,l2,g2⟩:=TV hK
  exact ⟨ad,A2,c2,e,⟨hc 0 _ rfl,by rw [← D8 _ _ 1 (by omega)];exact hc 1 _ rfl,by rw [← D8 _ _ 2 (by omega)];exact hc 2 _ rfl,by rw [← D8 _ _ 3 (by omega)];exact hc 3 _ rfl,by rw [← D8 _ _ 4 (by omega)];exact hc 4 _ rfl,by rw [← D8 _ _ 5 (by omega)];exact hc 5 _ rfl⟩,l2,g2⟩
theorem Ic : ∀ (vs : List Evt) (e : Eng) (v : Evt),runE e (vs ++ [v]) = BN (runE e vs) v
  | [],_,_ => rfl
  | u :: vs,e,v => Ic vs (BN e u) v
theorem Pp {vs : List Evt} {k : Nat} (h : k < vs.length) : vs.take (k + 1) = vs.take k ++ [ev vs k]:=by
  rw [List.take_succ_eq_append_getElem h,ev,List.getD_eq_getElem?_getD,List.getElem?_eq_getElem h]
  rfl
theorem Pm (vs : List Evt) (k : Nat) (hk : k ≤ 40) : ∃ C,Inv (runE newE (vs.take k)) C (3 * 40):=by
  have h1 : (vs.take k).length ≤ k:=by rw [List.length_take];omega
  exact ⟨_,(Inv.run Vv (vs:=vs.take k) (by omega)).mono (by omega) (by omega)⟩
def LZ (vs : List Evt) : Eng × Bool:=if 40 < vs.length then (zE,false) else (runE newE vs,true)
set_option maxRecDepth 100000 in
set_option maxHeartbeats 16000000 in
theorem I9 {w0 w : World} {A : Option Addr} {c : Nat} {vs : List Evt} (hb : Below w0.heap.size w0 w) (hr : Kd.C kEvt w0 A vs.length vs) : Calls Tryz.prog 8 #[.slice A vs.length c] w (CQ w (LZ vs).1 (LZ vs).2):=by
  have HR:=As (BM hr hb)
  have hmx:=(D5 hr).2
  clear hr hb
  by_cases h40 : 40 < vs.length
  · rw [LZ,if_pos h40]
    go_enter Tryz.func8,Tryz.ntmps8
    go_wp2_with (refine Aw (vd:=.slice none 0 0) (vm:=.slice none 0 0) (vl:=.slice none 0 0) zE ?_;intro w1 hb1 hz1 hq1;clear hz1;have HB:=As hb1;have HP:=As hq1;have y0:=hq1.c0;have y1:=hq1.c1;have y2:=hq1.c2;have y3:=hq1.c3;have y4:=hq1.c4;have f0:=hq1.frz 0;have f1:=hq1.frz 1;have f2:=hq1.frz 2;have f3:=hq1.frz 3;have f4:=hq1.frz 4;clear hb1 hq1)
    obtain ⟨z0,z1,z2,z3,z4⟩:=HP.out.empty
    exact bodyPost_ret (v:=.tuple #[zEv, .bool false]) (by simp [results,Tryz.results8,go_sem,z0,z1,z2,z3,z4]) rfl ⟨_,_,_,rfl,I6 _ _,Ak (g:=w.heap.size) HB.out (Nat.le_refl _) zE _ _ _⟩
  · rw [LZ,if_neg h40]
    have hn40 : ¬ (40 : Int) < (vs.length : Int):=by omega
    have HONE : True:=trivial
    go_enter Tryz.func8,Tryz.ntmps8
    go_wp2_with (first
      | (refine Aw (vd:=.slice none 0 0) (vm:=.slice none 0 0) (vl:=.slice none 0 0) zE ?_;clear HONE;intro w1 hb1 hz1 hq1;clear hz1;have HB:=As hb1;have HP:=As hq1;clear hb1 hq1)
      | (go_at_call 31;refine (MZ w1).mono ?_;rintro x w2 ⟨vd,vm,vl,rfl,ho,hb2⟩;obtain ⟨Ed,n1,Em,n2,El,n3,rfl,rfl,rfl, -, -⟩:=ho.reads;have HO:=As ho;have HX:=As hb2;clear hb2 ho)
      | (refine Aw (vd:=.slice Ed newE.disk.length n1) (vm:=.slice Em newE.mem.length n2) (vl:=.slice El newE.log.length n3) newE ?_;intro w3 hb3 hz3 hq3;clear hz3;have HEG : Ac (BO w1 w3 w2.heap.size newE):=⟨⟨⟨_,_,_,hq3,HO.out.below hb3⟩,bj HX.out hb3,HX.out.size⟩⟩;clear hb3 hq3))
    go_loopw [14] (fun i wr => ∃ k : Nat,k ≤ vs.length ∧ i = .int .i64 (k : Int) ∧ Ac (BO w1 wr w2.heap.size (runE newE (vs.take k)))) (fun i _ => (vs.length - intOf i).toNat)
    case atStart => exact ⟨0,Nat.zero_le _,rfl,HEG⟩
    case round =>
      obtain ⟨k,hk,rfl,HE⟩:=hrel
      obtain ⟨⟨vd,vm,vl,hq,ho⟩, -, -⟩:=HE.out
      obtain ⟨Ed',m1,Em',m2,El',m3,rfl,rfl,rfl,hcl,hrd⟩:=ho.reads
      have HRD:=As hrd
      have HQ:=As hq
      have HO:=As ho
      have x0:=hq.c0
      have x1:=hq.c1
      have x2:=hq.c2
      have x3:=hq.c3
      have x4:=hq.c4
      by_cases hlt : k < vs.length
      · obtain ⟨ad,A2,c2,rfl,QV, -,hv⟩:=RL (BM HR.out (bj HB.out HE.out.bel)) k hlt
        obtain ⟨z0,z1,z2,z3,z4,z5⟩:=QV
        have HV:=As hv
        have HT:=As (show runE newE (vs.take (k + 1)) = BN (runE newE (vs.take k)) (ev vs k) by rw [Pp hlt,Ic])
        have HINV:=As (Pm vs k (by omega))
        obtain ⟨X,hX⟩ : ∃ X,runE newE (vs.take k) = X:=⟨_,rfl⟩
        obtain ⟨v,hvv⟩ : ∃ v,ev vs k = v:=⟨_,rfl⟩
        rw [hX] at HRD HQ HO x0 x1 x2 x3 x4 HT HINV HE hcl
        rw [hvv] at z0 z1 z2 z3 z4 z5 HV HT
        have HCL:=As hcl
        obtain ⟨X1,hX1⟩ : ∃ X1,BN X v = X1:=⟨_,rfl⟩
        rw [hX1] at HT
        have HX1:=As hX1
        clear hq ho hrd hv hX hvv hcl hX1
        go_wp2_with (first
          | (with_reducible refine Er (A:=A2) (c:=c2) v ?_;intro w4 hb4 hz4 hq4;clear hz4;have HB4:=As hb4;replace x0:=bc hb4 x0;replace x1:=bc hb4 x1;replace x2:=bc hb4 x2;replace x3:=bc hb4 x3;replace x4:=bc hb4 x4;have v0:=hq4.c0;have v1:=hq4.c1;have v2:=hq4.c2;have v3:=hq4.c3;have v4:=hq4.c4;have v5:=hq4.c5;clear z0 z1 z2 z3 z4 z5 hb4 hq4)
          | (go_at_call 11;obtain ⟨C,hi⟩:=HINV.out;go_loud (refine (LD (w0:=wr) (cd:=m1) (cm:=m2) (cl:=m3) (c:=c2) v hi (by omega) HCL.out HB4.out HRD.out HV.out).mono ?_);rw [HX1.out];rintro x w5 ⟨ud,um,ul,rfl,ho,hb5⟩;obtain ⟨Fd,k1,Fm,k2,Fl,k3,rfl,rfl,rfl, -, -⟩:=ho.reads;have hb45:=bj HB4.out hb5;have hq5:=HQ.out.up hb45;have HQ5:=As hq5;have HO5:=As (ho.lower (b':=w1.heap.size) (by have:=HE.out.bel.size;have:=HB4.out.size;omega));have HB5:=As (bj HE.out.bel hb45);clear x0 x1 x2 x3 x4 v0 v1 v2 v3 v4 v5;have y0:=hq5.c0;have y1:=hq5.c1;have y2:=hq5.c2;have y3:=hq5.c3;have y4:=hq5.c4;have f0:=hq5.frz 0;have f1:=hq5.frz 1;have f2:=hq5.frz 2;have f3:=hq5.frz 3;have f4:=hq5.frz 4;clear ho hb5 hb45 hq5 hi))
        go_roundw
        case rel => exact ⟨k + 1,by omega,by go_num,⟨by rw [HT.out];exact ⟨⟨_,_,_,HQ5.out.Az X1 _ _ _,HO5.out.Az (f:=X1) HQ5.out⟩,Ak HB5.out HE.out.ge X1 _ _ _,HE.out.ge⟩⟩⟩
        case measure => simp [intOf];omega
      · have hke : vs.take k = vs:=List.take_of_length_le (by omega)
        have HT:=As (show runE newE (vs.take k) = runE newE vs by rw [hke])
        have HBr:=As HE.out.bel
        obtain ⟨X,hX⟩ : ∃ X,runE newE (vs.take k) = X:=⟨_,rfl⟩
        rw [hX] at HO x0 x1 x2 x3 x4 HT
        have hp:=HP.out.up HE.out.bel
        have HP2:=As hp
        have y0:=hp.c0
        have y1:=hp.c1
        have y2:=hp.c2
        have y3:=hp.c3
        have y4:=hp.c4
        have f0:=hp.frz 0
        have f1:=hp.frz 1
        have f2:=hp.frz 2
        have f3:=hp.frz 3
        have f4:=hp.frz 4
        clear hq ho hrd hcl hX hp hke
        go_wp2
        have hy:=HP2.out.Az X (.slice Ed' X.disk.length m1) (.slice Em' X.mem.length m2) (.slice El' X.log.length m3)
        have h1:=HO.out.Az (f:=X) (xd:=.slice Ed' X.disk.length m1) (xm:=.slice Em' X.mem.length m2) (xl:=.slice El' X.log.length m3) HP2.out
        have h2:=Ak (g:=w.heap.size) (bj HB.out HBr.out) (Nat.le_refl _) X (.slice Ed' X.disk.length m1) (.slice Em' X.mem.length m2) (.slice El' X.log.length m3)
        have hs:=HB.out.size
        have z0:=hy.c0
        have z1:=hy.c1
        have z2:=hy.c2
        have z3:=hy.c3
        have z4:=hy.c4
        exact bodyPost_ret (v:=.tuple #[X.ag (.slice Ed' X.disk.length m1) (.slice Em' X.mem.length m2) (.slice El' X.log.length m3), .bool true]) (by simp [results,Tryz.results8,go_sem,z0,z1,z2,z3,z4]) rfl (by rw [← HT.out];exact ⟨_,_,_,rfl,h1.lower hs,h2⟩)
abbrev Evt.own (v : Evt) (u : Value) : Value:=.agg #[.int .i64 v.kind, .int .i64 v.tx, .int .i64 v.page, .int .i64 v.slot, .int .i64 v.n,u]
def EvB (w : World) (g : Nat) (v : Evt) (u : Value) : Prop:=w.heap[g]? = some (.cells #[.int .i64 v.kind, .int .i64 v.tx, .int .i64 v.page, .int .i64 v.slot, .int .i64 v.n,u] 35 (0,0))
section
variable {w w1 : World} {g : Nat} {v : Evt} {u : Value}
theorem EvB.c0 (h : EvB w g v u) : w.cell? ⟨g,0,none⟩ = some (.int .i64 v.kind):=by unfold EvB at h;simp [World.cell?,h]
theorem EvB.c1 (h : EvB w g v u) : w.cell? ⟨g,1,none⟩ = some (.int .i64 v.tx):=by unfold EvB at h;simp [World.cell?,h]
theorem EvB.c2 (h : EvB w g v u) : w.cell? ⟨g,2,none⟩ = some (.int .i64 v.page):=by unfold EvB at h;simp [World.cell?,h]
theorem EvB.c3 (h : EvB w g v u) : w.cell? ⟨g,3,none⟩ = some (.int .i64 v.slot):=by unfold EvB at h;simp [World.cell?,h]
theorem EvB.c4 (h : EvB w g v u) : w.cell? ⟨g,4,none⟩ = some (.int .i64 v.n):=by unfold EvB at h;simp [World.cell?,h]
theorem EvB.c5 (h : EvB w g v u) : w.cell? ⟨g,5,none⟩ = some u:=by unfold EvB at h;simp [World.cell?,h]
theorem EvB.frz (h : EvB w g v u) (k : Nat) : w.frozen? ⟨g,k,none⟩ = false:=by unfold EvB at h;simp [World.frozen?,h]
theorem EvB.lt (h : EvB w g v u) : g < w.heap.size:=(Array.getElem?_eq_some_iff.1 h).1
theorem EvB.up (h : EvB w g v u) (hb : Below w.heap.size w w1) : EvB w1 g v u:=(hb.block g h.lt).trans h
theorem EvB.far {b : Nat} (h : EvB w g v u) (hne : b ≠ g) (j : Nat) (x : Value) : EvB (w.setCell ⟨b,j,none⟩ x) g v u:=(Below.heap_setCell w ⟨b,j,none⟩ x g (Ne.symm hne)).trans h
theorem EvB.set0 (h : EvB w g v u) (x : Int) : EvB (w.setCell ⟨g,0,none⟩ (.int .i64 x)) g ⟨x,v.tx,v.page,v.slot,v.n,v.vals⟩ u:=heap_setCell_same h _
theorem EvB.set1 (h : EvB w g v u) (x : Int) : EvB (w.setCell ⟨g,1,none⟩ (.int .i64 x)) g ⟨v.kind,x,v.page,v.slot,v.n,v.vals⟩ u:=heap_setCell_same h _
theorem EvB.set2 (h : EvB w g v u) (x : Int) : EvB (w.setCell ⟨g,2,none⟩ (.int .i64 x)) g ⟨v.kind,v.tx,x,v.slot,v.n,v.vals⟩ u:=heap_setCell_same h _
theorem EvB.Cu (h : EvB w g v u) (x : Int) : EvB (w.setCell ⟨g,3,none⟩ (.int .i64 x)) g ⟨v.kind,v.tx,v.page,x,v.n,v.vals⟩ u:=heap_setCell_same h _
theorem EvB.Wh (h : EvB w g v u) (x : Int) : EvB (w.setCell ⟨g,4,none⟩ (.int .i64 x)) g ⟨v.kind,v.tx,v.page,v.slot,x,v.vals⟩ u:=heap_setCell_same h _
theorem EvB.Xb (h : EvB w g v u) (x : Value) : EvB (w.setCell ⟨g,5,none⟩ x) g v x:=heap_setCell_same h _
end
theorem EvB.mk1 (w : World) (v : Evt) (u : Value) : EvB (w.alloc (.cells #[.int .i64 v.kind, .int .i64 v.tx, .int .i64 v.page, .int .i64 v.slot, .int .i64 v.n,u] 35)) w.heap.size v u:=by
  show (w.heap.push _)[w.heap.size]? = _
  simp
abbrev EY (w : World) (g : Nat) (p : Evt) (u : Value) : World:=(((((w.setCell ⟨g,0,none⟩ (.int .i64 p.kind)).setCell ⟨g,1,none⟩ (.int .i64 p.tx)).setCell ⟨g,2,none⟩ (.int .i64 p.page)).setCell ⟨g,3,none⟩ (.int .i64 p.slot)).setCell ⟨g,4,none⟩ (.int .i64 p.n)).setCell ⟨g,5,none⟩ u
theorem EvB.EY {w : World} {g : Nat} {q : Evt} {u : Value} (h : EvB w g q u) (p : Evt) (v : Value) : EvB (EY w g p v) g p v:=(((((h.set0 p.kind).set1 p.tx).set2 p.page).Cu p.slot).Wh p.n).Xb v
theorem AR.EY {w : World} {b g : Nat} {v : Value} {xs : List Int} (h : AR w b v xs) (hg : g < b) (p : Evt) (u : Value) : AR (Go.Proofs.YtpjmlpmhgfghbaaGreat.EY w g p u) b v xs:=(((((h.set hg _ _).set hg _ _).set hg _ _).set hg _ _).set hg _ _).set hg _ _
theorem UH (w : World) (base : Nat) (ok : Nat → Prop) (x : Evt) {v : Value} (g2 : (Kd.int .i64).R 3 w base ok v x.vals) : kEvt.M w base ok x [.int .i64 x.kind, .int .i64 x.tx, .int .i64 x.page, .int .i64 x.slot, .int .i64 x.n,v]:=⟨[.int .i64 x.kind], [.int .i64 x.tx, .int .i64 x.page, .int .i64 x.slot, .int .i64 x.n,v],rfl,rfl,⟨[.int .i64 x.tx], [.int .i64 x.page, .int .i64 x.slot, .int .i64 x.n,v],rfl,rfl,⟨[.int .i64 x.page], [.int .i64 x.slot, .int .i64 x.n,v],rfl,rfl,⟨[.int .i64 x.slot], [.int .i64 x.n,v],rfl,rfl,⟨[.int .i64 x.n], [v],rfl,rfl,⟨v,rfl,g2⟩⟩⟩⟩⟩⟩
abbrev Tm (w : World) (base : Nat) (ok : Nat → Prop) (v : Value) (vs : List Evt) : Prop:=Kd.S kEvt 35 w base ok v vs
abbrev Hz (w : World) (base : Nat) (v : Value) (vs : List Evt) : Prop:=Tm w base (fun _ => True) v vs
theorem UK : (Tryz.prog.info? 35).map (fun i => (i.zero,i.size,i.bytes)) = some (some (.agg #[.int .i64 0, .int .i64 0, .int .i64 0, .int .i64 0, .int .i64 0, .slice none 0 0]),6,64):=by kernel_rfl
theorem Ra : Tryz.prog.underlying 23 = some (.slice 35):=Tryz.underlying23
theorem Uc {w : World} {base : Nat} {ok : Nat → Prop} {v : Value} {ps : List Evt} (h : Tm w base ok v ps) : ∀ k,v.ownBlock = some k → ok k:=by
  obtain ⟨f,h0,_⟩:=h
  exact h0
section
variable {ops : Array Oper} {rest : List Oper} {o : Oper} {a : Act} {Q : Exit → Act → World → Prop}
end
end Go.Proofs.YtpjmlpmhgfghbaaGreat
namespace Go.Proofs.YtpjmlpmhgfghbaaGreat
open Go.RowKit Go.Proofs.YtpjmlpmhgfghbaaGreatW.PrintWords Go.Proofs.YtpjmlpmhgfghbaaGreatW.PrintLast Go.Proofs.YtpjmlpmhgfghbaaGreatW.PrintMore
set_option maxRecDepth 100000 in
set_option maxHeartbeats 4000000 in
theorem EQ {w0 w : World} {A : Option Addr} {c : Nat} {p : Page} {b : Bool} (hv : EK p.vals = b) (hb : Below w0.heap.size w0 w) (hr : Kd.C (Kd.int .i64) w0 A p.vals.length p.vals) : Calls Tryz.prog 126 #[p.val A c] w fun x w' => x = .returned (.bool b) ∧ Below w.heap.size w w':=by
  have HR:=As (BM hr hb)
  have HV:=As hv
  have hmx:=(D5 hr).2
  clear hr hb hv
  obtain ⟨w1,hw1⟩ : ∃ w1,w.alloc (Obj.cells #[Value.int IntKind.i64 p.lsn,Value.int IntKind.i64 p.owner,Value.slice A p.vals.length c] 81) = w1:=⟨_,rfl⟩
  have HB : Ac (Below w.heap.size w w1):=⟨by rw [← hw1];exact Ah (Below.refl _ _) _⟩
  have hq1 : AY w1 w.heap.size p (.slice A p.vals.length c):=by rw [← hw1];exact AY.mk1 _ _ _
  have x2:=hq1.c2
  have HW1:=As hw1
  clear hw1 hq1
  go_enter Tryz.func126,Tryz.ntmps126
  go_wp2
  rw [HW1.out]
  go_loop [3] (fun i => ∃ k : Nat,k ≤ p.vals.length ∧ i = .int .i64 (k : Int) ∧ Ac (∀ j,j < k → iv p.vals j = 0)) (fun i => (p.vals.length - intOf i).toNat)
  case atStart => exact ⟨0,Nat.zero_le _,rfl,⟨fun j hj => by omega⟩⟩
  case round =>
    obtain ⟨k,hk,rfl,HK⟩:=hrel
    by_cases hlt : k < p.vals.length
    · obtain ⟨ad,rfl,g0⟩:=Dk HR.out k hlt
      replace g0:=bc HB.out g0
      rcases BS (iv p.vals k) 0 with ⟨e1,b1,c1⟩ | ⟨e1,b1,c1⟩
      · go_wp2
        go_round
        case rel => exact ⟨k + 1,by omega,by go_num,⟨fun j hj => by
          rcases Nat.lt_succ_iff_lt_or_eq.1 hj with h | h
          · exact HK.out j h
          · rw [h];exact e1.out⟩⟩
        case measure => simp [intOf];omega
      · go_wp2
        go_ret
        exact ⟨AJ (by
          rw [← HV.out]
          cases hz : EK p.vals
          · rfl
          · exact absurd (JJ.1 hz _ (by rw [iv,List.getD_eq_getElem?_getD,List.getElem?_eq_getElem hlt];exact List.getElem_mem hlt)) e1.out),HB.out⟩
    · have hke : k = p.vals.length:=by omega
      go_wp2
      go_ret
      exact ⟨AJ (by
        rw [← HV.out]
        refine (JJ.2 (fun x hx => ?_)).symm
        obtain ⟨j,hj,rfl⟩:=List.getElem_of_mem hx
        have:=HK.out j (by omega)
        rwa [iv,List.getD_eq_getElem?_getD,List.getElem?_eq_getElem hj] at this),HB.out⟩
def FZ (l : List Rec) (p : Int) : Int:=if has l 1 l.length p = true then 1 else if has l 2 l.length p = true then 2 else if has l 3 l.length p = true then 3 else 0
theorem Qq {l : List Rec} {p : Int} {j : Nat} (h1 : 1 ≤ j) (h3 : j ≤ 3) (hp : ∀ t : Nat,1 ≤ t → t < j → has l (t : Int) l.length p = false) (hj : has l (j : Int) l.length p = true) : FZ l p = j:=by
  have h : j = 1 ∨ j = 2 ∨ j = 3:=by omega
  rcases h with rfl | rfl | rfl
  · rw [FZ,if_pos (by exact hj)];rfl
  · rw [FZ,if_neg (by rw [show has l 1 l.length p = false from hp 1 (by omega) (by omega)];simp),if_pos (by exact hj)];rfl
  · rw [FZ,if_neg (by rw [show has l 1 l.length p = false from hp 1 (by omega) (by omega)];simp),if_neg (by rw [show has l 2 l.length p = false from hp 2 (by omega) (by omega)];simp),if_pos (by exact hj)];rfl
theorem Qp {l : List Rec} {p : Int} (hp : ∀ t : Nat,1 ≤ t → t < 4 → has l (t : Int) l.length p = false) : FZ l p = 0:=by
  rw [FZ,if_neg (by rw [show has l 1 l.length p = false from hp 1 (by omega) (by omega)];simp),if_neg (by rw [show has l 2 l.length p = false from hp 2 (by omega) (by omega)];simp),if_neg (by rw [show has l 3 l.length p = false from hp 3 (by omega) (by omega)];simp)]
theorem Core.FZ {e : Eng} {C : Nat → Page} {B : Nat} (h : Core e C B) (p : Int) : Go.Proofs.YtpjmlpmhgfghbaaGreat.FZ e.log p = lk e.log p:=by
  have hone:=h.JP p
  obtain ⟨-,hl | hl⟩:=Ru hone
  · rw [hl.1]
    exact Qp (fun t h1 h4 => hl.2 t (by omega))
  · obtain ⟨j,hj⟩ : ∃ j : Nat,lk e.log p = (j : Int):=⟨(lk e.log p).toNat,by omega⟩
    rw [hj] at hl ⊢
    exact Qq (by omega) (by omega) (fun t h1 h2 => hone (j : Int) (t : Int) (by omega) hl.2) hl.2
set_option maxRecDepth 100000 in
set_option maxHeartbeats 4000000 in
theorem ER {w0 w : World} {e : Eng} {Ad Am Al : Option Addr} {cd cm cl : Nat} (page : Int) (hlog : AP e.log = true) (hb : Below w0.heap.size w0 w) (hr : DF w0 e Ad Am Al) : Calls Tryz.prog 123 #[e.val Ad Am Al cd cm cl, .int .i64 page] w fun x w' => x = .returned (.int .i64 (FZ e.log page)) ∧ Below w.heap.size w w':=by
  have HR:=As (hr.up hb)
  have HL:=As hlog
  clear hr hb hlog
  obtain ⟨w1,hw1⟩ : ∃ w1,w.alloc (Obj.cells #[Value.slice Ad e.disk.length cd,Value.slice Am e.mem.length cm,Value.slice Al e.log.length cl,Value.int IntKind.i64 e.safe,Value.bool e.down] 28) = w1:=⟨_,rfl⟩
  have HB : Ac (Below w.heap.size w w1):=⟨by rw [← hw1];exact Ah (Below.refl _ _) _⟩
  have hq1 : Ai w1 w.heap.size e (.slice Ad e.disk.length cd) (.slice Am e.mem.length cm) (.slice Al e.log.length cl):=by rw [← hw1];exact Ai.mk1 _ _ _ _ _
  have x2:=hq1.c2
  have HW1:=As hw1
  clear hw1 hq1
  go_enter Tryz.func123,Tryz.ntmps123
  go_wp2
  rw [HW1.out]
  go_loop [5] (fun i => ∃ j : Nat,1 ≤ j ∧ j ≤ 4 ∧ i = .int .i64 (j : Int) ∧ Ac (∀ t : Nat,1 ≤ t → t < j → has e.log (t : Int) e.log.length page = false)) (fun i => (5 - intOf i).toNat)
  case atStart => exact ⟨1,by omega,by omega,rfl,⟨fun t h1 h2 => by omega⟩⟩
  case round =>
    obtain ⟨j,hj1,hj4,rfl,HJ⟩:=hrel
    by_cases hlt : j ≤ 3
    · have hlt3 : (j : Int) ≤ 3:=by omega
      cases hh : has e.log (j : Int) e.log.length page
      all_goals
        have HH:=As hh
        clear hh
        go_wp2_with (go_at_call 56;refine (QB (c:=cl) HH.out HB.out HR.out.l HL.out).mono ?_;rintro x w' ⟨rfl,rfl⟩)
      · go_round
        case rel => exact ⟨j + 1,by omega,by omega,by go_num,⟨fun t h1 h2 => by
          rcases Nat.lt_succ_iff_lt_or_eq.1 h2 with h | h
          · exact HJ.out t h1 h
          · rw [h];exact HH.out⟩⟩
        case measure => simp [intOf];omega
      · go_ret
        exact ⟨by rw [Qq hj1 hlt HJ.out HH.out];rfl,HB.out⟩
    · have hj : j = 4:=by omega
      subst hj
      go_wp2
      go_ret
      exact ⟨by rw [Qp HJ.out];rfl,HB.out⟩
theorem AR.kept {w w1 : World} {b : Nat} {v : Value} {xs : List Int} {S : Nat → Prop} (h : AR w b v xs) (hk : Kept w w1 S) (hS : ∀ k,S k → k < b) : AR w1 b v xs:=by
  have h1 : RI w b (fun k => b ≤ k) v xs:=Kd.Ez h (fun k hk => Cc h k hk)
  have h2 : RI w1 b (fun k => b ≤ k) v xs:=Kd.KN h1 hk (fun k hb hs => by have:=hS k hs;omega)
  exact Kd.Ih h2
theorem Qg (W : World) (a b c : Int) : AR (W.alloc (.cells #[.int .i64 a, .int .i64 b, .int .i64 c] 3)) W.heap.size (.slice (some ⟨W.heap.size,0,none⟩) 3 3) [a,b,c]:=⟨rfl, .inr ⟨W.heap.size,3,#[.int .i64 a, .int .i64 b, .int .i64 c],rfl,Nat.le_refl _,(by show (W.heap.push _)[W.heap.size]? = _;simp),Nat.le_refl _,(by decide),rfl,rfl⟩⟩
theorem PS {P : Program} {ops : Array Oper} {l : List Oper} {Q : Exit → Act → World → Prop} {act : Act} {W : World} (a b c : Int) (h : ∀ w1,Below W.heap.size W w1 → AR w1 W.heap.size (.slice (some ⟨W.heap.size,0,none⟩) 3 3) [a,b,c] → wpList P ops Q l act w1) : wpList P ops Q l act (W.alloc (.cells #[.int .i64 a, .int .i64 b, .int .i64 c] 3)):=
  h _ ((Below.refl _ _).alloc (Nat.le_refl _) _) ⟨rfl, .inr ⟨W.heap.size,3,#[.int .i64 a, .int .i64 b, .int .i64 c],rfl,Nat.le_refl _,(by show (W.heap.push _)[W.heap.size]? = _;simp),Nat.le_refl _,(by decide),rfl,rfl⟩⟩
theorem EvB.all {w : World} {g : Nat} {v : Evt} {u : Value} (h : EvB w g v u) : w.cell? ⟨g,0,none⟩ = some (.int .i64 v.kind) ∧ w.cell? ⟨g,1,none⟩ = some (.int .i64 v.tx) ∧ w.cell? ⟨g,2,none⟩ = some (.int .i64 v.page) ∧ w.cell? ⟨g,3,none⟩ = some (.int .i64 v.slot) ∧ w.cell? ⟨g,4,none⟩ = some (.int .i64 v.n) ∧ w.cell? ⟨g,5,none⟩ = some u:=⟨h.c0,h.c1,h.c2,h.c3,h.c4,h.c5⟩
structure Dr (wB w wk : World) (g b : Nat) (A : Option Addr) (n c : Nat) (p : Int) (e : Eng) (vd vm vl : Value) : Prop where
  rd : CR wk g A n c p
  eg : Ai wk w.heap.size e vd vm vl
  ev : EvB wk (w.heap.size + 1) v0 (.slice none 0 0)
  own : AU wk b vd vm vl e
  bel : Below wB.heap.size wB wk
  wr : Wrote w wk (fun j => j = g)
  hgb : g < b
  hBg : wB.heap.size ≤ g
  hgw : g < w.heap.size
section
variable {wB w wk w1 : World} {g b n c : Nat} {A : Option Addr} {p : Int} {e : Eng} {vd vm vl : Value}
theorem Dr.facts (h : Dr wB w wk g b A n c p e vd vm vl) : wk.cell? ⟨w.heap.size,0,none⟩ = some vd ∧ wk.cell? ⟨w.heap.size,1,none⟩ = some vm ∧ wk.cell? ⟨w.heap.size,2,none⟩ = some vl ∧ wk.cell? ⟨w.heap.size,3,none⟩ = some (.int .i64 e.safe) ∧ wk.cell? ⟨w.heap.size,4,none⟩ = some (.bool e.down) ∧ wk.cell? ⟨w.heap.size + 1,0,none⟩ = some (.int .i64 v0.kind) ∧ wk.cell? ⟨w.heap.size + 1,1,none⟩ = some (.int .i64 v0.tx) ∧ wk.cell? ⟨w.heap.size + 1,2,none⟩ = some (.int .i64 v0.page) ∧ wk.cell? ⟨w.heap.size + 1,3,none⟩ = some (.int .i64 v0.slot) ∧ wk.cell? ⟨w.heap.size + 1,4,none⟩ = some (.int .i64 v0.n) ∧ wk.cell? ⟨w.heap.size + 1,5,none⟩ = some (.slice none 0 0) ∧ wk.frozen? ⟨w.heap.size + 1,0,none⟩ = false ∧ wk.frozen? ⟨w.heap.size + 1,1,none⟩ = false ∧ wk.frozen? ⟨w.heap.size + 1,2,none⟩ = false ∧ wk.frozen? ⟨w.heap.size + 1,3,none⟩ = false ∧ wk.frozen? ⟨w.heap.size + 1,4,none⟩ = false ∧ wk.frozen? ⟨w.heap.size + 1,5,none⟩ = false:=⟨h.eg.c0,h.eg.c1,h.eg.c2,h.eg.c3,h.eg.c4,h.ev.c0,h.ev.c1,h.ev.c2,h.ev.c3,h.ev.c4,h.ev.c5,h.ev.frz 0,h.ev.frz 1,h.ev.frz 2,h.ev.frz 3,h.ev.frz 4,h.ev.frz 5⟩
theorem Dr.below (h : Dr wB w wk g b A n c p e vd vm vl) (hb : Below wk.heap.size wk w1) : Dr wB w w1 g b A n c p e vd vm vl:=
  ⟨h.rd.up hb,h.eg.up hb,h.ev.up hb,h.own.below hb,bj h.bel hb,h.wr.CG (Wrote.of_below hb (fun j => j = g)) (fun _ h => .inl h),h.hgb,h.hBg,h.hgw⟩
theorem Dr.pick {p' : Int} (h : Dr wB w wk g b A n c p e vd vm vl) (hr : CR w1 g A n c p') (hw : Wrote wk w1 (fun j => j = g)) : Dr wB w w1 g b A n c p' e vd vm vl:=by
  have hgw:=h.hgw
  have h1 : Below wB.heap.size wB w1:=h.bel.trans (hw.bel (fun k hk => by have:=h.hBg;omega) h.bel.size)
  exact ⟨hr,(hw.kept.2 _ h.eg.lt (by omega)).trans h.eg,(hw.kept.2 _ h.ev.lt (by omega)).trans h.ev,(h.own.toK.kept hw.kept (fun k hk e => by have:=h.hgb;omega)).E,h1,h.wr.CG hw (fun _ h => .inl h),h.hgb,h.hBg,h.hgw⟩
theorem Dr.call {xs : List Int} {q m : Int} (h : Dr wB w wk g b A xs.length c p e vd vm vl) (hc : (0 ≤ q ∧ q ≤ 900000) ∧ xs.length ≤ 2000 ∧ Bytes xs ∧ Kd.C (Kd.int .u8) wB A xs.length xs) (hq : q ≤ p ∧ p ≤ q + 12) (hm : 1 ≤ m ∧ m ≤ 1000) : Calls Tryz.prog 30 #[.pointer (some ⟨g,0,none⟩), .int .i64 m] wk fun x w' => ∃ k : Nat,x = .returned (.int .i64 (k : Int)) ∧ (k : Int) < m ∧ Dr wB w w' g b A xs.length c (p + 1) e vd vm vl ∧ Wrote wk w' (fun j => j = g):=by
  refine (IJ (wB:=wB) (by omega) (by omega) hm.1 hm.2 hc.2.1 hc.2.2.1 h.bel h.hBg hc.2.2.2 h.rd).mono ?_
  rintro x w' ⟨k,rfl,hk,hrd,hw⟩
  obtain ⟨hk0,hk1⟩:=hk hm.1
  obtain ⟨k,rfl⟩:=Int.eq_ofNat_of_zero_le hk0
  exact ⟨k,rfl,hk1,h.pick hrd hw,hw⟩
def V9 (w : World) (g : Nat) (A : Option Addr) (n c : Nat) (p : Int) (x : Ending) (w' : World) : Prop := ∃ (v : Evt) (u : Value),x = .returned (v.own u) ∧ AR w' w.heap.size u v.vals ∧ v.vals.length ≤ 3 ∧ (∃ p',p ≤ p' ∧ p' ≤ p + 12 ∧ CR w' g A n c p') ∧ Wrote w w' (fun j => j = g)
theorem Dr.size (h : Dr wB w wk g b A n c p e vd vm vl) : w.heap.size + 2 ≤ wk.heap.size:=h.ev.lt
theorem Dr.mem {ad : Addr} {cm m : Nat} {ud ul : Value} {j : Nat} (h : Dr wB w wk g b A n c p e ud (.slice (some ad) m cm) ul) (hj : j < e.mem.length) : wk.cell? ⟨(ad.add (j * 3)).block,(ad.add (j * 3)).off + 1,none⟩ = some (.int .i64 (pg e.mem j).owner):=by
  obtain ⟨_,_,Am,_,_,_, -,h2, -, -,hc⟩:=h.own.reads
  injection h2 with h2
  subst h2
  obtain ⟨_,_,_,h3,hP, -⟩:=Fz hc.m j hj
  injection h3 with h3
  subst h3
  exact hP.c1
theorem Wrote.EY {w W : World} {S : Nat → Prop} {h : Nat} (hw : Wrote w W S) (hp : S h ∨ w.heap.size ≤ h) (v : Evt) (u : Value) : Wrote w (Go.Proofs.YtpjmlpmhgfghbaaGreat.EY W h v u) S:=(((((hw.setCell (p:=⟨h,0,none⟩) hp _).setCell (p:=⟨h,1,none⟩) hp _).setCell (p:=⟨h,2,none⟩) hp _).setCell (p:=⟨h,3,none⟩) hp _).setCell (p:=⟨h,4,none⟩) hp _).setCell (p:=⟨h,5,none⟩) hp _
theorem CR.far {h : Nat} (hq : CR wk g A n c p) (hne : g ≠ h) (j : Nat) (u : Value) : CR (wk.setCell ⟨h,j,none⟩ u) g A n c p:=(Below.heap_setCell wk ⟨h,j,none⟩ u g hne).trans hq
theorem CR.EY {h : Nat} (hq : CR wk g A n c p) (hne : g ≠ h) (v : Evt) (u : Value) : CR (Go.Proofs.YtpjmlpmhgfghbaaGreat.EY wk h v u) g A n c p:=(((((hq.far hne _ _).far hne _ _).far hne _ _).far hne _ _).far hne _ _).far hne _ _
theorem Dr.done {q : Int} (h : Dr wB w wk g b A n c p e vd vm vl) (v : Evt) {u : Value} (hu : AR wk (w.heap.size + 2) u v.vals) (hl : v.vals.length ≤ 3) (h0 : q ≤ p) (h1 : p ≤ q + 12) : V9 w g A n c q (.returned (v.own u)) (Go.Proofs.YtpjmlpmhgfghbaaGreat.EY wk (w.heap.size + 1) v u):=by
  have hgw:=h.hgw
  exact ⟨v,u,rfl,(hu.EY (by omega) v u).lower (by omega),hl,⟨p,h0,h1,h.rd.EY (by omega) v u⟩,h.wr.EY (.inr (by omega)) v u⟩
end
def Cd (wB w : World) (g b : Nat) (A : Option Addr) (n c : Nat) (p Q : Int) (e : Eng) (vd vm vl : Value) (wx : World) : Prop := ∃ q,p ≤ q ∧ q ≤ Q ∧ Dr wB w wx g b A n c q e vd vm vl
section
variable {wB w wk w1 : World} {g b n c : Nat} {A : Option Addr} {p Q Q' : Int} {e : Eng} {vd vm vl : Value}
theorem Cd.below (h : Cd wB w g b A n c p Q e vd vm vl wk) (hb : Below wk.heap.size wk w1) : Cd wB w g b A n c p Q e vd vm vl w1:=by
  obtain ⟨q,h0,h1,h2⟩:=h
  exact ⟨q,h0,h1,h2.below hb⟩
theorem Cd.mono (h : Cd wB w g b A n c p Q e vd vm vl wk) (hq : Q ≤ Q') : Cd wB w g b A n c p Q' e vd vm vl wk:=by
  obtain ⟨q,h0,h1,h2⟩:=h
  exact ⟨q,h0,by omega,h2⟩
theorem Cd.call {xs : List Int} {m : Int} (h : Cd wB w g b A xs.length c p Q e vd vm vl wk) (hp : 0 ≤ p ∧ Q ≤ 1000000) (hm0 : 1 ≤ m) (hm1 : m ≤ 1000) (hn : xs.length ≤ 2000) (hx : Bytes xs) (hr : Kd.C (Kd.int .u8) wB A xs.length xs) : Calls Tryz.prog 30 #[.pointer (some ⟨g,0,none⟩), .int .i64 m] wk fun x w' => ∃ k : Nat,x = .returned (.int .i64 (k : Int)) ∧ (k : Int) < m ∧ Cd wB w g b A xs.length c p (Q + 1) e vd vm vl w' ∧ Wrote wk w' (fun j => j = g):=by
  obtain ⟨q,h0,h1,h2⟩:=h
  refine (IJ (wB:=wB) (by omega) (by omega) hm0 hm1 hn hx h2.bel h2.hBg hr h2.rd).mono ?_
  rintro x w' ⟨k,rfl,hk,hrd,hw⟩
  obtain ⟨hk0,hk1⟩:=hk hm0
  obtain ⟨k,rfl⟩:=Int.eq_ofNat_of_zero_le hk0
  exact ⟨k,rfl,hk1,⟨q + 1,by omega,by omega,h2.pick hrd hw⟩,hw⟩
end
set_option maxRecDepth 100000 in
set_option maxHeartbeats 16000000 in
theorem NE {wB w : World} {g b c : Nat} {A : Option Addr} {xs : List Int} {p : Int} {e : Eng} {vd vm vl : Value} (hp0 : 0 ≤ p) (hp1 : p ≤ 900000) (hn : xs.length ≤ 2000) (hx : Bytes xs) (hb : Below wB.heap.size wB w) (hg : wB.heap.size ≤ g) (hr : Kd.C (Kd.int .u8) wB A xs.length xs) (hq : CR w g A xs.length c p) (ho : AU w b vd vm vl e) (hgb : g < b) (hm : e.mem.length = 5) (hlog : AP e.log = true) : Calls Tryz.prog 66 #[.pointer (some ⟨g,0,none⟩),e.ag vd vm vl] w (V9 w g A xs.length c p):=by
  have HP:=As (And.intro hp0 hp1)
  have HC:=As (And.intro (And.intro hp0 hp1) (And.intro hn (And.intro hx hr)))
  have HN:=As hn
  have HXS:=As hx
  have HR:=As hr
  have HM:=As hm
  have HLOG:=As hlog
  obtain ⟨Ad,cd,Am,cm,Al,cl,rfl,rfl,rfl, -,hrd⟩:=ho.reads
  obtain ⟨ad, -, -,rfl, -⟩:=Fz hrd.m 0 (by omega)
  obtain ⟨w1,hw1⟩ : ∃ w1,w.alloc (e.obox (.slice Ad e.disk.length cd) (.slice (some ad) e.mem.length cm) (.slice Al e.log.length cl)) = w1:=⟨_,rfl⟩
  obtain ⟨w2,hw2⟩ : ∃ w2,w1.alloc (Obj.cells #[.int .i64 0, .int .i64 0, .int .i64 0, .int .i64 0, .int .i64 0, .slice none 0 0] 35) = w2:=⟨_,rfl⟩
  have HW2 : Ac ((w.alloc (e.obox (.slice Ad e.disk.length cd) (.slice (some ad) e.mem.length cm) (.slice Al e.log.length cl))).alloc (Obj.cells #[.int .i64 0, .int .i64 0, .int .i64 0, .int .i64 0, .int .i64 0, .slice none 0 0] 35) = w2):=⟨by rw [hw1,hw2]⟩
  have hb1 : Below w.heap.size w w1:=by rw [← hw1];exact Ah (Below.refl _ _) _
  have hb2 : Below w1.heap.size w1 w2:=by rw [← hw2];exact Ah (Below.refl _ _) _
  have hz1 : w1.heap.size = w.heap.size + 1:=by rw [← hw1,BA]
  have hb12:=bj hb1 hb2
  have hq1 : Ai w2 w.heap.size e (.slice Ad e.disk.length cd) (.slice (some ad) e.mem.length cm) (.slice Al e.log.length cl):=(show Ai w1 w.heap.size e _ _ _ by rw [← hw1];exact Ai.mk1 _ _ _ _ _).up hb2
  have hv1 : EvB w2 (w.heap.size + 1) v0 (.slice none 0 0):=by rw [← hw2, ← hz1];exact EvB.mk1 w1 v0 (.slice none 0 0)
  have HS : Ac (Dr wB w w2 g b A xs.length c p e (.slice Ad e.disk.length cd) (.slice (some ad) e.mem.length cm) (.slice Al e.log.length cl)):=⟨⟨hq.up hb12,hq1,hv1,ho.below hb12,bj hb hb12,Wrote.of_below hb12 _,hgb,hg,hq.lt⟩⟩
  obtain ⟨x0,x1,x2,x3,x4,y0,y1,y2,y3,y4,y5,f0,f1,f2,f3,f4,f5⟩:=HS.out.facts
  clear hn hx hr hm hlog hrd hw1 hw2 hb1 hb2 hz1 hb12 hq1 hv1 hb hq ho
  have H1 : True:=trivial
  have H2 : True:=trivial
  have H3 : True:=trivial
  have H4 : True:=trivial
  have H5 : True:=trivial
  cases hd : e.down
  all_goals
    have HD:=As hd
    clear hd
  rotate_left
  · go_enter Tryz.func66,Tryz.ntmps66
    go_wp2_with (first | (clear H1;rw [HW2.out];go_at_call 30;refine (HS.out.call HC.out (by omega) (by decide)).mono ?_;rintro x wk ⟨tx,rfl,hk1,hs,hw⟩;have HS:=As hs;clear hs hw;clear x0 x1 x2 x3 x4 y0 y1 y2 y3 y4 y5 f0 f1 f2 f3 f4 f5;obtain ⟨x0,x1,x2,x3,x4,y0,y1,y2,y3,y4,y5,f0,f1,f2,f3,f4,f5⟩:=HS.out.facts) | (clear H2;go_at_call 30;refine (HS.out.call HC.out (by omega) (by decide)).mono ?_;rintro x wk ⟨j,rfl,hk1,hs,hw⟩;have HS:=As hs;clear hs hw;clear x0 x1 x2 x3 x4 y0 y1 y2 y3 y4 y5 f0 f1 f2 f3 f4 f5;obtain ⟨x0,x1,x2,x3,x4,y0,y1,y2,y3,y4,y5,f0,f1,f2,f3,f4,f5⟩:=HS.out.facts;have hj : j < e.mem.length:=(by have:=HM.out;omega);have hjm : (j : Int) < (e.mem.length : Int):=(by omega);have p1:=HS.out.mem hj;rw [HD.out] at x4) | (clear H4;go_at_call 30;refine (HS.out.call HC.out (by omega) (by decide)).mono ?_;rintro x wk ⟨k2,rfl,hk1,hs,hw⟩;have HROW:=As (HROW.out.kept hw.kept (fun m hm => by have hm : m = g:=hm;have:=HRN.out;have:=HS.out.hgw;omega));have HS:=As hs;clear hs hw;clear x0 x1 x2 x3 x4 y0 y1 y2 y3 y4 y5 f0 f1 f2 f3 f4 f5;obtain ⟨x0,x1,x2,x3,x4,y0,y1,y2,y3,y4,y5,f0,f1,f2,f3,f4,f5⟩:=HS.out.facts;clear p1;have p1:=HS.out.mem hj;have hc0:=(HROW.out.at ((k2 : Nat) : Int) (by omega) (by show ((k2 : Nat) : Int) < 3;omega)).1;rw [Int.toNat_natCast] at hc0;have hc:=(Exists.intro (p:=fun z => wk.cell? ⟨_,k2,none⟩ = some (.int .i64 z)) _ hc0);clear hc0;obtain ⟨zz,hc⟩:=hc) | (with_reducible refine PS 99 99 _ ?_;intro wz hbz hoz;have HROW:=As hoz;have HRN:=As HS.out.size;have HS:=As (HS.out.below hbz);clear hbz hoz;clear x0 x1 x2 x3 x4 y0 y1 y2 y3 y4 y5 f0 f1 f2 f3 f4 f5;obtain ⟨x0,x1,x2,x3,x4,y0,y1,y2,y3,y4,y5,f0,f1,f2,f3,f4,f5⟩:=HS.out.facts;clear p1;have p1:=HS.out.mem hj) | (clear H3;go_at_call 30;refine (HS.out.call HC.out (by omega) (by decide)).mono ?_;rintro x wk ⟨k1,rfl,hk1,hs,hw⟩;have HS:=As hs;clear hs hw;clear x0 x1 x2 x3 x4 y0 y1 y2 y3 y4 y5 f0 f1 f2 f3 f4 f5;obtain ⟨x0,x1,x2,x3,x4,y0,y1,y2,y3,y4,y5,f0,f1,f2,f3,f4,f5⟩:=HS.out.facts;clear p1;have p1:=HS.out.mem hj))
    obtain ⟨z0,z1,z2,z3,z4,z5⟩:=(HS.out.ev.EY ⟨9,0,0,0,zz, []⟩ (.slice none 0 0)).all
    exact bodyPost_ret (v:=Evt.own ⟨9,0,0,0,zz, []⟩ (.slice none 0 0)) (by simp [results,Tryz.results66,go_sem,z0,z1,z2,z3,z4,z5]) rfl (HS.out.done (q:=p) _ (AR.nil _ _) (by simp) (by omega) (by omega))
  · go_enter Tryz.func66,Tryz.ntmps66
    go_wp2_with (first | (clear H1;rw [HW2.out];go_at_call 30;refine (HS.out.call HC.out (by omega) (by decide)).mono ?_;rintro x wk ⟨tx,rfl,hk1,hs,hw⟩;have HS:=As hs;clear hs hw;clear x0 x1 x2 x3 x4 y0 y1 y2 y3 y4 y5 f0 f1 f2 f3 f4 f5;obtain ⟨x0,x1,x2,x3,x4,y0,y1,y2,y3,y4,y5,f0,f1,f2,f3,f4,f5⟩:=HS.out.facts) | (clear H2;go_at_call 30;refine (HS.out.call HC.out (by omega) (by decide)).mono ?_;rintro x wk ⟨j,rfl,hk1,hs,hw⟩;have HS:=As hs;clear hs hw;clear x0 x1 x2 x3 x4 y0 y1 y2 y3 y4 y5 f0 f1 f2 f3 f4 f5;obtain ⟨x0,x1,x2,x3,x4,y0,y1,y2,y3,y4,y5,f0,f1,f2,f3,f4,f5⟩:=HS.out.facts;have hj : j < e.mem.length:=(by have:=HM.out;omega);have hjm : (j : Int) < (e.mem.length : Int):=(by omega);have p1:=HS.out.mem hj;rw [HD.out] at x4))
    go_at_call 30
    refine (HS.out.call HC.out (by omega) (by decide)).mono ?_
    rintro x wk ⟨s,rfl,hk1,hs,hw⟩
    have HS:=As hs
    clear hs hw
    clear x0 x1 x2 x3 x4 y0 y1 y2 y3 y4 y5 f0 f1 f2 f3 f4 f5
    obtain ⟨x0,x1,x2,x3,x4,y0,y1,y2,y3,y4,y5,f0,f1,f2,f3,f4,f5⟩:=HS.out.facts
    clear p1
    have p1:=HS.out.mem hj
    obtain ⟨s,hs⟩ : ∃ s0 : Int,s0 = (s : Int):=⟨_,rfl⟩
    rw [← hs]
    have hs0 : 0 ≤ s:=by omega
    have hs1 : s < 16:=by omega
    clear hs hk1
    have hcs : s = 0 ∨ s = 1 ∨ s = 2 ∨ s = 3 ∨ s = 4 ∨ s = 5 ∨ s = 6 ∨ s = 7 ∨ s = 8 ∨ s = 9 ∨ 10 ≤ s:=by omega
    clear hs0 hs1
    rcases hcs with rfl | rfl | rfl | rfl | rfl | rfl | rfl | rfl | rfl | rfl | hs
    rotate_right
    ·
      have n0 : (s == 0) = false:=by rw [beq_eq_false_iff_ne];omega
      have n1 : (s == 1) = false:=by rw [beq_eq_false_iff_ne];omega
      have n2 : (s == 2) = false:=by rw [beq_eq_false_iff_ne];omega
      have n3 : (s == 3) = false:=by rw [beq_eq_false_iff_ne];omega
      have n4 : (s == 4) = false:=by rw [beq_eq_false_iff_ne];omega
      have n5 : (s == 5) = false:=by rw [beq_eq_false_iff_ne];omega
      have n6 : (s == 6) = false:=by rw [beq_eq_false_iff_ne];omega
      have n7 : (s == 7) = false:=by rw [beq_eq_false_iff_ne];omega
      have n8 : (s == 8) = false:=by rw [beq_eq_false_iff_ne];omega
      have n9 : (s == 9) = false:=by rw [beq_eq_false_iff_ne];omega
      go_wp2
      go_loopw [8,6] (fun i pv wr => ∃ (k j : Nat) (q : Int),k ≤ 4 ∧ i = .int .i64 (k : Int) ∧ j < e.mem.length ∧ pv = .int .i64 (j : Int) ∧ p ≤ q ∧ q ≤ p + 3 + k ∧ Ac (Dr wB w wr g b A xs.length c q e (.slice Ad e.disk.length cd) (.slice (some ad) e.mem.length cm) (.slice Al e.log.length cl))) (fun i _ _ => (4 - intOf i).toNat)
      case atStart => exact ⟨0,j,p + 1 + 1 + 1,by decide,rfl,hj,rfl,by omega,by omega,HS⟩
      case round =>
        clear p1 hj hjm x0 x1 x2 x3 x4 y0 y1 y2 y3 y4 y5 f0 f1 f2 f3 f4 f5 HS
        obtain ⟨k,j,q,hk,rfl,hj,rfl,hq0,hq1,HS⟩:=hrel
        obtain ⟨x0,x1,x2,x3,x4,y0,y1,y2,y3,y4,y5,f0,f1,f2,f3,f4,f5⟩:=HS.out.facts
        have p1:=HS.out.mem hj
        have hjm : (j : Int) < (e.mem.length : Int):=by omega
        by_cases hlt : k < 4
        rotate_left
        have hki : ¬ (k : Int) < 4:=by omega
        rotate_left
        have hki : (k : Int) < 4:=by omega
        rcases BS (pg e.mem j).owner 0 with ⟨e9,b9,c9⟩ | ⟨e9,b9,c9⟩
        · go_wp2_with (first | (go_at_call 30;refine (HS.out.call HC.out (by omega) (by decide)).mono ?_;rintro x wk ⟨jn,rfl,hk1,hs,hw⟩;have HS:=As hs;clear hs hw;clear x0 x1 x2 x3 x4 y0 y1 y2 y3 y4 y5 f0 f1 f2 f3 f4 f5;obtain ⟨x0,x1,x2,x3,x4,y0,y1,y2,y3,y4,y5,f0,f1,f2,f3,f4,f5⟩:=HS.out.facts;clear p1;have p1:=HS.out.mem hj))
          go_roundw
          case rel => exact ⟨k + 1,jn,q + 1,by omega,by go_num,by (have:=HM.out;omega),rfl,by omega,by omega,HS⟩
          case measure => simp [intOf];omega
        all_goals
          rcases lts 0 (FZ e.log (j : Int)) with ⟨e8,b8,c8⟩ | ⟨e8,b8,c8⟩
          · go_wp2_with (first | (go_at_call 123;refine (ER (cd:=cd) (cm:=cm) (cl:=cl) (j : Int) HLOG.out (Below.refl _ _) (AU.reads' HS.out.own)).mono ?_;rintro x wk ⟨rfl,hb⟩;have HS:=As (HS.out.below hb);clear hb;clear x0 x1 x2 x3 x4 y0 y1 y2 y3 y4 y5 f0 f1 f2 f3 f4 f5;obtain ⟨x0,x1,x2,x3,x4,y0,y1,y2,y3,y4,y5,f0,f1,f2,f3,f4,f5⟩:=HS.out.facts;clear p1;have p1:=HS.out.mem hj))
            go_at_call 30
            refine (HS.out.call HC.out (by omega) (by decide)).mono ?_
            rintro x wk ⟨k8,rfl,hk1,hs,hw⟩
            have HS:=As hs
            clear hs hw
            clear x0 x1 x2 x3 x4 y0 y1 y2 y3 y4 y5 f0 f1 f2 f3 f4 f5
            obtain ⟨x0,x1,x2,x3,x4,y0,y1,y2,y3,y4,y5,f0,f1,f2,f3,f4,f5⟩:=HS.out.facts
            clear p1
            have p1:=HS.out.mem hj
            obtain ⟨k8,hk8⟩ : ∃ z : Int,z = (k8 : Int):=⟨_,rfl⟩
            rw [← hk8]
            clear hk8
            rcases lts 0 k8 with ⟨e10,b10,c10⟩ | ⟨e10,b10,c10⟩
            · go_wp2_with (first | (go_at_call 123;refine (ER (cd:=cd) (cm:=cm) (cl:=cl) (j : Int) HLOG.out (Below.refl _ _) (AU.reads' HS.out.own)).mono ?_;rintro x wk ⟨rfl,hb⟩;have HS:=As (HS.out.below hb);clear hb;clear x0 x1 x2 x3 x4 y0 y1 y2 y3 y4 y5 f0 f1 f2 f3 f4 f5;obtain ⟨x0,x1,x2,x3,x4,y0,y1,y2,y3,y4,y5,f0,f1,f2,f3,f4,f5⟩:=HS.out.facts;clear p1;have p1:=HS.out.mem hj) | (clear H3;go_at_call 30;refine (HS.out.call HC.out (by omega) (by decide)).mono ?_;rintro x wk ⟨ka,rfl,hk1,hs,hw⟩;have HS:=As hs;clear hs hw;clear x0 x1 x2 x3 x4 y0 y1 y2 y3 y4 y5 f0 f1 f2 f3 f4 f5;obtain ⟨x0,x1,x2,x3,x4,y0,y1,y2,y3,y4,y5,f0,f1,f2,f3,f4,f5⟩:=HS.out.facts;clear p1;have p1:=HS.out.mem hj) | (clear H4;go_at_call 30;refine (HS.out.call HC.out (by omega) (by decide)).mono ?_;rintro x wk ⟨kb,rfl,hk1,hs,hw⟩;have HS:=As hs;clear hs hw;clear x0 x1 x2 x3 x4 y0 y1 y2 y3 y4 y5 f0 f1 f2 f3 f4 f5;obtain ⟨x0,x1,x2,x3,x4,y0,y1,y2,y3,y4,y5,f0,f1,f2,f3,f4,f5⟩:=HS.out.facts;clear p1;have p1:=HS.out.mem hj) | (clear H5;go_at_call 30;refine (HS.out.call HC.out (by omega) (by decide)).mono ?_;rintro x wk ⟨kc,rfl,hk1,hs,hw⟩;have HS:=As hs;clear hs hw;clear x0 x1 x2 x3 x4 y0 y1 y2 y3 y4 y5 f0 f1 f2 f3 f4 f5;obtain ⟨x0,x1,x2,x3,x4,y0,y1,y2,y3,y4,y5,f0,f1,f2,f3,f4,f5⟩:=HS.out.facts;clear p1;have p1:=HS.out.mem hj))
              obtain ⟨z0,z1,z2,z3,z4,z5⟩:=(HS.out.ev.EY ⟨1,FZ e.log (j : Int),(j : Int),(ka : Int),(wrap64 ((wrap64 ((kb : Int) * ((kc : Int) + 2))).tdiv 4)).tmod 10, []⟩ (.slice none 0 0)).all
              exact bodyPost_ret (v:=Evt.own ⟨1,FZ e.log (j : Int),(j : Int),(ka : Int),(wrap64 ((wrap64 ((kb : Int) * ((kc : Int) + 2))).tdiv 4)).tmod 10, []⟩ (.slice none 0 0)) (by simp [results,Tryz.results66,go_sem,z0,z1,z2,z3,z4,z5]) rfl (HS.out.done (q:=p) _ (AR.nil _ _) (by simp) (by omega) (by omega))
            · go_wp2_with (first | (clear H3;go_at_call 30;refine (HS.out.call HC.out (by omega) (by decide)).mono ?_;rintro x wk ⟨ka,rfl,hk1,hs,hw⟩;have HS:=As hs;clear hs hw;clear x0 x1 x2 x3 x4 y0 y1 y2 y3 y4 y5 f0 f1 f2 f3 f4 f5;obtain ⟨x0,x1,x2,x3,x4,y0,y1,y2,y3,y4,y5,f0,f1,f2,f3,f4,f5⟩:=HS.out.facts;clear p1;have p1:=HS.out.mem hj) | (clear H4;go_at_call 30;refine (HS.out.call HC.out (by omega) (by decide)).mono ?_;rintro x wk ⟨kb,rfl,hk1,hs,hw⟩;have HS:=As hs;clear hs hw;clear x0 x1 x2 x3 x4 y0 y1 y2 y3 y4 y5 f0 f1 f2 f3 f4 f5;obtain ⟨x0,x1,x2,x3,x4,y0,y1,y2,y3,y4,y5,f0,f1,f2,f3,f4,f5⟩:=HS.out.facts;clear p1;have p1:=HS.out.mem hj) | (clear H5;go_at_call 30;refine (HS.out.call HC.out (by omega) (by decide)).mono ?_;rintro x wk ⟨kc,rfl,hk1,hs,hw⟩;have HS:=As hs;clear hs hw;clear x0 x1 x2 x3 x4 y0 y1 y2 y3 y4 y5 f0 f1 f2 f3 f4 f5;obtain ⟨x0,x1,x2,x3,x4,y0,y1,y2,y3,y4,y5,f0,f1,f2,f3,f4,f5⟩:=HS.out.facts;clear p1;have p1:=HS.out.mem hj))
              obtain ⟨z0,z1,z2,z3,z4,z5⟩:=(HS.out.ev.EY ⟨1,1 + (tx : Int),(j : Int),(ka : Int),(wrap64 ((wrap64 ((kb : Int) * ((kc : Int) + 2))).tdiv 4)).tmod 10, []⟩ (.slice none 0 0)).all
              exact bodyPost_ret (v:=Evt.own ⟨1,1 + (tx : Int),(j : Int),(ka : Int),(wrap64 ((wrap64 ((kb : Int) * ((kc : Int) + 2))).tdiv 4)).tmod 10, []⟩ (.slice none 0 0)) (by simp [results,Tryz.results66,go_sem,z0,z1,z2,z3,z4,z5]) rfl (HS.out.done (q:=p) _ (AR.nil _ _) (by simp) (by omega) (by omega))
          · go_wp2_with (first | (go_at_call 123;refine (ER (cd:=cd) (cm:=cm) (cl:=cl) (j : Int) HLOG.out (Below.refl _ _) (AU.reads' HS.out.own)).mono ?_;rintro x wk ⟨rfl,hb⟩;have HS:=As (HS.out.below hb);clear hb;clear x0 x1 x2 x3 x4 y0 y1 y2 y3 y4 y5 f0 f1 f2 f3 f4 f5;obtain ⟨x0,x1,x2,x3,x4,y0,y1,y2,y3,y4,y5,f0,f1,f2,f3,f4,f5⟩:=HS.out.facts;clear p1;have p1:=HS.out.mem hj) | (clear H3;go_at_call 30;refine (HS.out.call HC.out (by omega) (by decide)).mono ?_;rintro x wk ⟨ka,rfl,hk1,hs,hw⟩;have HS:=As hs;clear hs hw;clear x0 x1 x2 x3 x4 y0 y1 y2 y3 y4 y5 f0 f1 f2 f3 f4 f5;obtain ⟨x0,x1,x2,x3,x4,y0,y1,y2,y3,y4,y5,f0,f1,f2,f3,f4,f5⟩:=HS.out.facts;clear p1;have p1:=HS.out.mem hj) | (clear H4;go_at_call 30;refine (HS.out.call HC.out (by omega) (by decide)).mono ?_;rintro x wk ⟨kb,rfl,hk1,hs,hw⟩;have HS:=As hs;clear hs hw;clear x0 x1 x2 x3 x4 y0 y1 y2 y3 y4 y5 f0 f1 f2 f3 f4 f5;obtain ⟨x0,x1,x2,x3,x4,y0,y1,y2,y3,y4,y5,f0,f1,f2,f3,f4,f5⟩:=HS.out.facts;clear p1;have p1:=HS.out.mem hj) | (clear H5;go_at_call 30;refine (HS.out.call HC.out (by omega) (by decide)).mono ?_;rintro x wk ⟨kc,rfl,hk1,hs,hw⟩;have HS:=As hs;clear hs hw;clear x0 x1 x2 x3 x4 y0 y1 y2 y3 y4 y5 f0 f1 f2 f3 f4 f5;obtain ⟨x0,x1,x2,x3,x4,y0,y1,y2,y3,y4,y5,f0,f1,f2,f3,f4,f5⟩:=HS.out.facts;clear p1;have p1:=HS.out.mem hj))
            obtain ⟨z0,z1,z2,z3,z4,z5⟩:=(HS.out.ev.EY ⟨1,1 + (tx : Int),(j : Int),(ka : Int),(wrap64 ((wrap64 ((kb : Int) * ((kc : Int) + 2))).tdiv 4)).tmod 10, []⟩ (.slice none 0 0)).all
            exact bodyPost_ret (v:=Evt.own ⟨1,1 + (tx : Int),(j : Int),(ka : Int),(wrap64 ((wrap64 ((kb : Int) * ((kc : Int) + 2))).tdiv 4)).tmod 10, []⟩ (.slice none 0 0)) (by simp [results,Tryz.results66,go_sem,z0,z1,z2,z3,z4,z5]) rfl (HS.out.done (q:=p) _ (AR.nil _ _) (by simp) (by omega) (by omega))
    rotate_left 3
    ·
      go_wp2_with (first | (go_at_call 123;refine (ER (cd:=cd) (cm:=cm) (cl:=cl) (j : Int) HLOG.out (Below.refl _ _) (AU.reads' HS.out.own)).mono ?_;rintro x wk ⟨rfl,hb⟩;have HS:=As (HS.out.below hb);clear hb;clear x0 x1 x2 x3 x4 y0 y1 y2 y3 y4 y5 f0 f1 f2 f3 f4 f5;obtain ⟨x0,x1,x2,x3,x4,y0,y1,y2,y3,y4,y5,f0,f1,f2,f3,f4,f5⟩:=HS.out.facts;clear p1;have p1:=HS.out.mem hj) | (with_reducible refine PS _ _ _ ?_;intro wz hbz hoz;have HROW:=As hoz;have HRN:=As HS.out.size;have HS:=As (HS.out.below hbz);clear hbz hoz;clear x0 x1 x2 x3 x4 y0 y1 y2 y3 y4 y5 f0 f1 f2 f3 f4 f5;obtain ⟨x0,x1,x2,x3,x4,y0,y1,y2,y3,y4,y5,f0,f1,f2,f3,f4,f5⟩:=HS.out.facts;clear p1;have p1:=HS.out.mem hj) | (clear H3;go_at_call 30;refine (HS.out.call HC.out (by omega) (by decide)).mono ?_;rintro x wk ⟨ka,rfl,hk1,hs,hw⟩;have HS:=As hs;clear hs hw;clear x0 x1 x2 x3 x4 y0 y1 y2 y3 y4 y5 f0 f1 f2 f3 f4 f5;obtain ⟨x0,x1,x2,x3,x4,y0,y1,y2,y3,y4,y5,f0,f1,f2,f3,f4,f5⟩:=HS.out.facts;clear p1;have p1:=HS.out.mem hj) | (clear H4;go_at_call 30;refine (HS.out.call HC.out (by omega) (by decide)).mono ?_;rintro x wk ⟨kb,rfl,hk1,hs,hw⟩;have HS:=As hs;clear hs hw;clear x0 x1 x2 x3 x4 y0 y1 y2 y3 y4 y5 f0 f1 f2 f3 f4 f5;obtain ⟨x0,x1,x2,x3,x4,y0,y1,y2,y3,y4,y5,f0,f1,f2,f3,f4,f5⟩:=HS.out.facts;clear p1;have p1:=HS.out.mem hj) | (clear H5;go_at_call 30;refine (HS.out.call HC.out (by omega) (by decide)).mono ?_;rintro x wk ⟨kc,rfl,hk1,hs,hw⟩;have HS:=As hs;clear hs hw;clear x0 x1 x2 x3 x4 y0 y1 y2 y3 y4 y5 f0 f1 f2 f3 f4 f5;obtain ⟨x0,x1,x2,x3,x4,y0,y1,y2,y3,y4,y5,f0,f1,f2,f3,f4,f5⟩:=HS.out.facts;clear p1;have p1:=HS.out.mem hj))
      obtain ⟨z0,z1,z2,z3,z4,z5⟩:=(HS.out.ev.EY ⟨3,max (FZ e.log (j : Int)) 1,(j : Int),0,0, [1 + (ka : Int),(kb : Int),(kc : Int)]⟩ (.slice (some ⟨wk.heap.size,0,none⟩) 3 3)).all
      exact bodyPost_ret (v:=Evt.own ⟨3,max (FZ e.log (j : Int)) 1,(j : Int),0,0, [1 + (ka : Int),(kb : Int),(kc : Int)]⟩ (.slice (some ⟨wk.heap.size,0,none⟩) 3 3)) (by simp [results,Tryz.results66,go_sem,z0,z1,z2,z3,z4,z5]) rfl (HS.out.done (q:=p) _ (DY HROW.out HRN.out) (by simp) (by omega) (by omega))
    ·
      go_wp2
      obtain ⟨z0,z1,z2,z3,z4,z5⟩:=(HS.out.ev.EY ⟨4,1 + (tx : Int),0,0,0, []⟩ (.slice none 0 0)).all
      exact bodyPost_ret (v:=Evt.own ⟨4,1 + (tx : Int),0,0,0, []⟩ (.slice none 0 0)) (by simp [results,Tryz.results66,go_sem,z0,z1,z2,z3,z4,z5]) rfl (HS.out.done (q:=p) _ (AR.nil _ _) (by simp) (by omega) (by omega))
    ·
      go_wp2
      obtain ⟨z0,z1,z2,z3,z4,z5⟩:=(HS.out.ev.EY ⟨4,1 + (tx : Int),0,0,0, []⟩ (.slice none 0 0)).all
      exact bodyPost_ret (v:=Evt.own ⟨4,1 + (tx : Int),0,0,0, []⟩ (.slice none 0 0)) (by simp [results,Tryz.results66,go_sem,z0,z1,z2,z3,z4,z5]) rfl (HS.out.done (q:=p) _ (AR.nil _ _) (by simp) (by omega) (by omega))
    ·
      go_wp2
      obtain ⟨z0,z1,z2,z3,z4,z5⟩:=(HS.out.ev.EY ⟨5,1 + (tx : Int),0,0,0, []⟩ (.slice none 0 0)).all
      exact bodyPost_ret (v:=Evt.own ⟨5,1 + (tx : Int),0,0,0, []⟩ (.slice none 0 0)) (by simp [results,Tryz.results66,go_sem,z0,z1,z2,z3,z4,z5]) rfl (HS.out.done (q:=p) _ (AR.nil _ _) (by simp) (by omega) (by omega))
    ·
      go_wp2
      obtain ⟨z0,z1,z2,z3,z4,z5⟩:=(HS.out.ev.EY ⟨6,0,(j : Int),0,0, []⟩ (.slice none 0 0)).all
      exact bodyPost_ret (v:=Evt.own ⟨6,0,(j : Int),0,0, []⟩ (.slice none 0 0)) (by simp [results,Tryz.results66,go_sem,z0,z1,z2,z3,z4,z5]) rfl (HS.out.done (q:=p) _ (AR.nil _ _) (by simp) (by omega) (by omega))
    ·
      go_wp2
      obtain ⟨z0,z1,z2,z3,z4,z5⟩:=(HS.out.ev.EY ⟨6,0,(j : Int),0,0, []⟩ (.slice none 0 0)).all
      exact bodyPost_ret (v:=Evt.own ⟨6,0,(j : Int),0,0, []⟩ (.slice none 0 0)) (by simp [results,Tryz.results66,go_sem,z0,z1,z2,z3,z4,z5]) rfl (HS.out.done (q:=p) _ (AR.nil _ _) (by simp) (by omega) (by omega))
    ·
      go_wp2_with fail
      go_at_call 30
      refine (HS.out.call HC.out (by omega) (by decide)).mono ?_
      rintro x wk ⟨k9,rfl,hk1,hs,hw⟩
      have HS:=As hs
      clear hs hw
      clear x0 x1 x2 x3 x4 y0 y1 y2 y3 y4 y5 f0 f1 f2 f3 f4 f5
      obtain ⟨x0,x1,x2,x3,x4,y0,y1,y2,y3,y4,y5,f0,f1,f2,f3,f4,f5⟩:=HS.out.facts
      clear p1
      have p1:=HS.out.mem hj
      rcases BS (k9 : Int) 0 with ⟨e9,b9,c9⟩ | ⟨e9,b9,c9⟩
      · go_wp2
        obtain ⟨z0,z1,z2,z3,z4,z5⟩:=(HS.out.ev.EY ⟨7,0,0,0,0, []⟩ (.slice none 0 0)).all
        exact bodyPost_ret (v:=Evt.own ⟨7,0,0,0,0, []⟩ (.slice none 0 0)) (by simp [results,Tryz.results66,go_sem,z0,z1,z2,z3,z4,z5]) rfl (HS.out.done (q:=p) _ (AR.nil _ _) (by simp) (by omega) (by omega))
      · have HCD : Ac (Cd wB w g b A xs.length c p (p + 4) e (.slice Ad e.disk.length cd) (.slice (some ad) e.mem.length cm) (.slice Al e.log.length cl) wk):=⟨⟨_,by omega,by omega,HS.out⟩⟩
        clear x0 x1 x2 x3 x4 y0 y1 y2 y3 y4 y5 f0 f1 f2 f3 f4 f5 p1
        go_wp2
        refine AX (fun lx a wx => Cd wB w g b A xs.length c p (p + 6) e (.slice Ad e.disk.length cd) (.slice (some ad) e.mem.length cm) (.slice Al e.log.length cl) wx ∧ (Un 9 (Cd wB w g b A xs.length c p (p + 5) e (.slice Ad e.disk.length cd) (.slice (some ad) e.mem.length cm) (.slice Al e.log.length cl)) lx a wx ∧ (Un 4 (Cd wB w g b A xs.length c p (p + 4) e (.slice Ad e.disk.length cd) (.slice (some ad) e.mem.length cm) (.slice Al e.log.length cl)) lx a wx ∧ Sl 7 92 (fun v wx => ∃ (B : Nat) (z : Int),v = .slice (some ⟨B,0,none⟩) 3 3 ∧ w.heap.size + 2 ≤ B ∧ AR wx B v [0,99,z]) lx a wx))) 13 rfl (by kernel_rfl) (⟨(HCD.out.below (Aj (Below.refl _ _))).mono (by omega),fun _ => (HCD.out.below (Aj (Below.refl _ _))).mono (by omega),fun _ => HCD.out.below (Aj (Below.refl _ _)),AZ⟩) (fun HT => ?_)
        refine Ae (i:=0) (v:=?_) HT rfl (by kernel_rfl) rfl (kA Aa (kA (Af rfl) (kA (Af rfl) (Ab rfl rfl)))) (by rfl) (fun _ _ _ h => h) (fun lx ax wx hS => ?_) ?_;rotate_left;(obtain ⟨q, -, -,HD⟩:=hS.1;have x2:=HD.eg.c2;go_simp;with_reducible rfl);rotate_left;simp only [sc0,sc1]
        refine Ae (i:=1) (v:=?_) HT rfl (by kernel_rfl) rfl (kA Aa (kA (Af rfl) (kA (Af rfl) (Ab rfl rfl)))) (by rfl) (fun _ _ _ h => h) (fun lx ax wx hS => ?_) ?_;rotate_left;(obtain ⟨q, -, -,HD⟩:=hS.1;have x2:=HD.eg.c2;go_simp;with_reducible rfl);rotate_left;simp only [sc0,sc1]
        refine Ae (i:=2) (v:=?_) HT rfl (by kernel_rfl) rfl (kA Aa (kA (Af rfl) (kA (Af rfl) (Ab rfl rfl)))) (by rfl) (fun _ _ _ h => h) (fun lx ax wx hS => ?_) ?_;rotate_left;(obtain ⟨q, -, -,HD⟩:=hS.1;have x2:=HD.eg.c2;go_simp;with_reducible rfl);rotate_left;simp only [sc0,sc1]
        refine Ae (i:=3) (v:=?_) HT rfl (by kernel_rfl) rfl (kA Aa (kA (Af rfl) (kA (Af rfl) (Ab rfl rfl)))) (by rfl) (fun _ _ _ h => h) (fun lx ax wx hS => ?_) ?_;rotate_left;(obtain ⟨q, -, -,HD⟩:=hS.1;have x2:=HD.eg.c2;go_simp;with_reducible rfl);rotate_left;simp only [sc0,sc1]
        refine Ae (i:=8) (v:=?_) HT rfl (by kernel_rfl) rfl (kA Aa (kA (Af rfl) (kA (Af rfl) (Ab rfl rfl)))) (by rfl) (fun _ _ _ h => h) (fun lx ax wx hS => ?_) ?_;rotate_left;(obtain ⟨q, -, -,HD⟩:=hS.1;have x2:=HD.eg.c2;go_simp;with_reducible rfl);rotate_left;simp only [sc0,sc1]
        refine BR (i:=4) (f:=30) (args:=#[.pointer (some ⟨g,0,none⟩), .int .i64 4]) (fun v => ∃ k : Nat,v = .int .i64 (k : Int) ∧ (k : Int) < 4) rfl (by kernel_rfl) rfl Tryz.func30 (by kernel_rfl) rfl rfl (by rfl) (by simp only [List.map_toArray,List.map_cons,List.map_nil];rfl) (fun wx hS => (Cd.call (hS.2.2.1 (by kernel_rfl)) (by have:=HP.out;omega) (by decide) (by decide) HN.out HXS.out HR.out).mono (by rintro y w6 ⟨k,rfl,hk,hc,hw⟩;exact ⟨_,rfl,⟨k,rfl,hk⟩,hc.mono (by omega),fun _ => hc.mono (by omega),fun h => (AA (by kernel_rfl) h).elim,fun h => (AA h (by kernel_rfl)).elim⟩)) (fun vx hg => ?_);simp only [sc0,sc1]
        obtain ⟨k4,rfl,hk4⟩:=hg
        refine Ae (i:=5) (v:=?_) HT rfl (by kernel_rfl) rfl (kA Aa (kA (Af rfl) (kA (Af rfl) (Ab rfl rfl)))) (by rfl) (fun _ _ _ h => h) (fun lx ax wx hS => ?_) ?_;rotate_left;(go_simp;with_reducible rfl);rotate_left;simp only [sc0,sc1]
        refine Ae (i:=6) (v:=?_) HT rfl (by kernel_rfl) rfl (kA Aa (kA (Af rfl) (kA (Af rfl) (Ab rfl rfl)))) (by rfl) (fun _ _ _ h => h) (fun lx ax wx hS => ?_) ?_;rotate_left;(go_simp;with_reducible rfl);rotate_left;simp only [sc0,sc1]
        refine AQ [7,9] (by kernel_rfl) (fun i hi w4 hS => ?_)
        rcases List.mem_cons.1 hi with rfl | hi
        · clear hi
          refine Bw (w1:=?_) (.slice (some ⟨w4.heap.size,0,none⟩) 3 3) rfl rfl (by rfl) ?_ ?_
          rotate_left
          · go_simp
            with_reducible rfl
          refine ⟨⟨hS.1.below (Ah (Below.refl _ _) _),fun _ => (hS.2.1 (by kernel_rfl)).below (Ah (Below.refl _ _) _),fun h => (AA (by kernel_rfl) h).elim,fun _ => ⟨w4.heap.size,_,rfl,(by obtain ⟨q, -, -,HD⟩:=hS.1;exact HD.size),Qg _ _ _ _⟩⟩,?_⟩
          simp only [sc0,sc1]
          refine AQ [9] (by kernel_rfl) (fun i hi w5 hS => ?_)
          obtain rfl:=List.mem_singleton.1 hi
          refine CV (f:=30) (args:=#[.pointer (some ⟨g,0,none⟩), .int .i64 3]) rfl rfl Tryz.func30 (by kernel_rfl) rfl rfl (by rfl) (by simp only [List.map_toArray,List.map_cons,List.map_nil];rfl) ((Cd.call (hS.2.1 (by kernel_rfl)) (by have:=HP.out;omega) (by decide) (by decide) HN.out HXS.out HR.out).mono ?_)
          rintro y w6 ⟨k,rfl,hk,hc,hw⟩
          refine ⟨_,rfl,⟨hc.mono (by omega),fun h => (AA (by kernel_rfl) h).elim,fun h => (AA (by kernel_rfl) h).elim,fun _ => ?_⟩,?_⟩
          · obtain ⟨B,z,hB,hBn,hown⟩:=hS.2.2.2 (by kernel_rfl)
            obtain ⟨q, -, -,HD⟩:=hS.1
            exact ⟨B,z,hB,hBn,hown.kept hw.kept (fun m hm => by have hm : m = g:=hm;have:=HD.hgw;omega)⟩
          simp only [sc0,sc1]
          refine Ae (i:=10) (v:=?_) HT rfl (by kernel_rfl) rfl (kA Aa (kA (Af rfl) (kA (Af rfl) (Ab rfl rfl)))) (by rfl) (fun _ _ _ h => h) (fun lx ax wx hS => ?_) ?_;rotate_left;(go_simp;with_reducible rfl);rotate_left;simp only [sc0,sc1]
          refine AQ [11] (by kernel_rfl) (fun i hi w7 hS => ?_)
          obtain rfl:=List.mem_singleton.1 hi
          obtain ⟨B,z,hB,hBn,hown⟩:=hS.2.2.2 (by kernel_rfl)
          have hB : Value.slice (some ⟨w4.heap.size,0,none⟩) 3 3 = .slice (some ⟨B,0,none⟩) 3 3:=hB
          injection hB with hB
          injection hB with hB
          injection hB with hB
          subst hB
          have hc0:=(hown.at (k : Int) (by omega) (by show (k : Int) < 3;exact hk)).1
          rw [Int.toNat_natCast] at hc0
          have hc:=(Exists.intro (p:=fun z => w7.cell? ⟨w4.heap.size,k,none⟩ = some (.int .i64 z)) _ hc0)
          clear hc0 hown
          obtain ⟨zz,hc⟩:=hc
          refine Bw (w1:=?_) (.int .i64 zz) rfl rfl (by rfl) ?_ ?_
          rotate_left
          · go_simp
            with_reducible rfl
          refine ⟨⟨hS.1,fun h => (AA (by kernel_rfl) h).elim,fun h => (AA (by kernel_rfl) h).elim,fun _ => hS.2.2.2 (by kernel_rfl)⟩,?_⟩
          simp only [sc0,sc1]
          refine Ae (i:=12) (v:=?_) HT rfl (by kernel_rfl) rfl (kA Aa (kA (Af rfl) (kA (Af rfl) (Ab rfl rfl)))) (by rfl) (fun _ _ _ h => h) (fun lx ax wx hS => ?_) ?_;rotate_left;(go_simp;with_reducible rfl);rotate_left;simp only [sc0,sc1]
          refine BQ (i:=13) (by kernel_rfl) rfl (fun w8 hS => ?_)
          obtain ⟨q,hq0,hq1,HD⟩:=hS.1
          have HS:=As HD
          obtain ⟨-, -, -, -, -,y0,y1,y2,y3,y4,y5,f0,f1,f2,f3,f4,f5⟩:=HS.out.facts
          clear hS hc HD
          refine Bh (w1:=?_) rfl (by rfl) ?_ ?_
          rotate_left
          · go_simp
            with_reducible rfl
          refine BB (by kernel_rfl) ?_
          go_wp2
          obtain ⟨z0,z1,z2,z3,z4,z5⟩:=(HS.out.ev.EY ⟨8,0,0,0,zz, []⟩ (.slice none 0 0)).all
          exact bodyPost_ret (v:=Evt.own ⟨8,0,0,0,zz, []⟩ (.slice none 0 0)) (by simp [results,Tryz.results66,go_sem,z0,z1,z2,z3,z4,z5]) rfl (HS.out.done (q:=p) _ (AR.nil _ _) (by simp) (by omega) (by omega))
        · obtain rfl:=List.mem_singleton.1 hi
          refine CV (f:=30) (args:=#[.pointer (some ⟨g,0,none⟩), .int .i64 3]) rfl rfl Tryz.func30 (by kernel_rfl) rfl rfl (by rfl) (by simp only [List.map_toArray,List.map_cons,List.map_nil];rfl) ((Cd.call (hS.2.1 (by kernel_rfl)) (by have:=HP.out;omega) (by decide) (by decide) HN.out HXS.out HR.out).mono ?_)
          rintro y w6 ⟨k,rfl,hk,hc,hw⟩
          refine ⟨_,rfl,⟨hc.mono (by omega),fun h => (AA (by kernel_rfl) h).elim,fun h => (AA (by kernel_rfl) h).elim,fun h => (AA h (by kernel_rfl)).elim⟩,?_⟩
          simp only [sc0,sc1]
          refine AQ [7] (by kernel_rfl) (fun i hi w5 hS => ?_)
          obtain rfl:=List.mem_singleton.1 hi
          refine Bw (w1:=?_) (.slice (some ⟨w5.heap.size,0,none⟩) 3 3) rfl rfl (by rfl) ?_ ?_
          rotate_left
          · go_simp
            with_reducible rfl
          refine ⟨⟨hS.1.below (Ah (Below.refl _ _) _),fun h => (AA (by kernel_rfl) h).elim,fun h => (AA (by kernel_rfl) h).elim,fun _ => ⟨w5.heap.size,_,rfl,(by obtain ⟨q, -, -,HD⟩:=hS.1;exact HD.size),Qg _ _ _ _⟩⟩,?_⟩
          simp only [sc0,sc1]
          refine Ae (i:=10) (v:=?_) HT rfl (by kernel_rfl) rfl (kA Aa (kA (Af rfl) (kA (Af rfl) (Ab rfl rfl)))) (by rfl) (fun _ _ _ h => h) (fun lx ax wx hS => ?_) ?_;rotate_left;(go_simp;with_reducible rfl);rotate_left;simp only [sc0,sc1]
          refine AQ [11] (by kernel_rfl) (fun i hi w7 hS => ?_)
          obtain rfl:=List.mem_singleton.1 hi
          obtain ⟨B,z,hB,hBn,hown⟩:=hS.2.2.2 (by kernel_rfl)
          have hB : Value.slice (some ⟨w5.heap.size,0,none⟩) 3 3 = .slice (some ⟨B,0,none⟩) 3 3:=hB
          injection hB with hB
          injection hB with hB
          injection hB with hB
          subst hB
          have hc0:=(hown.at (k : Int) (by omega) (by show (k : Int) < 3;exact hk)).1
          rw [Int.toNat_natCast] at hc0
          have hc:=(Exists.intro (p:=fun z => w7.cell? ⟨w5.heap.size,k,none⟩ = some (.int .i64 z)) _ hc0)
          clear hc0 hown
          obtain ⟨zz,hc⟩:=hc
          refine Bw (w1:=?_) (.int .i64 zz) rfl rfl (by rfl) ?_ ?_
          rotate_left
          · go_simp
            with_reducible rfl
          refine ⟨⟨hS.1,fun h => (AA (by kernel_rfl) h).elim,fun h => (AA (by kernel_rfl) h).elim,fun _ => hS.2.2.2 (by kernel_rfl)⟩,?_⟩
          simp only [sc0,sc1]
          refine Ae (i:=12) (v:=?_) HT rfl (by kernel_rfl) rfl (kA Aa (kA (Af rfl) (kA (Af rfl) (Ab rfl rfl)))) (by rfl) (fun _ _ _ h => h) (fun lx ax wx hS => ?_) ?_;rotate_left;(go_simp;with_reducible rfl);rotate_left;simp only [sc0,sc1]
          refine BQ (i:=13) (by kernel_rfl) rfl (fun w8 hS => ?_)
          obtain ⟨q,hq0,hq1,HD⟩:=hS.1
          have HS:=As HD
          obtain ⟨-, -, -, -, -,y0,y1,y2,y3,y4,y5,f0,f1,f2,f3,f4,f5⟩:=HS.out.facts
          clear hS hc HD
          refine Bh (w1:=?_) rfl (by rfl) ?_ ?_
          rotate_left
          · go_simp
            with_reducible rfl
          refine BB (by kernel_rfl) ?_
          go_wp2
          obtain ⟨z0,z1,z2,z3,z4,z5⟩:=(HS.out.ev.EY ⟨8,0,0,0,zz, []⟩ (.slice none 0 0)).all
          exact bodyPost_ret (v:=Evt.own ⟨8,0,0,0,zz, []⟩ (.slice none 0 0)) (by simp [results,Tryz.results66,go_sem,z0,z1,z2,z3,z4,z5]) rfl (HS.out.done (q:=p) _ (AR.nil _ _) (by simp) (by omega) (by omega))
    all_goals
      go_wp2_with fail
      go_at_call 30
      refine (HS.out.call HC.out (by omega) (by decide)).mono ?_
      rintro x wk ⟨k7,rfl,hk1,hs,hw⟩
      have HS:=As hs
      clear hs hw
      clear x0 x1 x2 x3 x4 y0 y1 y2 y3 y4 y5 f0 f1 f2 f3 f4 f5
      obtain ⟨x0,x1,x2,x3,x4,y0,y1,y2,y3,y4,y5,f0,f1,f2,f3,f4,f5⟩:=HS.out.facts
      clear p1
      have p1:=HS.out.mem hj
      rcases lts 0 (pg e.mem j).owner with ⟨e9,b9,c9⟩ | ⟨e9,b9,c9⟩
      · go_wp2_with fail
        go_at_call 30
        refine (HS.out.call HC.out (by omega) (by decide)).mono ?_
        rintro x wk ⟨k8,rfl,hk1,hs,hw⟩
        have HS:=As hs
        clear hs hw
        clear x0 x1 x2 x3 x4 y0 y1 y2 y3 y4 y5 f0 f1 f2 f3 f4 f5
        obtain ⟨x0,x1,x2,x3,x4,y0,y1,y2,y3,y4,y5,f0,f1,f2,f3,f4,f5⟩:=HS.out.facts
        clear p1
        have p1:=HS.out.mem hj
        obtain ⟨k8,hk8⟩ : ∃ z : Int,z = (k8 : Int):=⟨_,rfl⟩
        rw [← hk8]
        clear hk8
        rcases lts 0 k8 with ⟨e10,b10,c10⟩ | ⟨e10,b10,c10⟩
        · go_wp2
          obtain ⟨z0,z1,z2,z3,z4,z5⟩:=(HS.out.ev.EY ⟨2,1 + (tx : Int),(j : Int),0,0, []⟩ (.slice none 0 0)).all
          exact bodyPost_ret (v:=Evt.own ⟨2,1 + (tx : Int),(j : Int),0,0, []⟩ (.slice none 0 0)) (by simp [results,Tryz.results66,go_sem,z0,z1,z2,z3,z4,z5]) rfl (HS.out.done (q:=p) _ (AR.nil _ _) (by simp) (by omega) (by omega))
        · go_wp2
          obtain ⟨z0,z1,z2,z3,z4,z5⟩:=(HS.out.ev.EY ⟨2,1 + (tx : Int),(j : Int),0,1 + (k7 : Int), []⟩ (.slice none 0 0)).all
          exact bodyPost_ret (v:=Evt.own ⟨2,1 + (tx : Int),(j : Int),0,1 + (k7 : Int), []⟩ (.slice none 0 0)) (by simp [results,Tryz.results66,go_sem,z0,z1,z2,z3,z4,z5]) rfl (HS.out.done (q:=p) _ (AR.nil _ _) (by simp) (by omega) (by omega))
      · go_wp2
        obtain ⟨z0,z1,z2,z3,z4,z5⟩:=(HS.out.ev.EY ⟨2,1 + (tx : Int),(j : Int),0,1 + (k7 : Int), []⟩ (.slice none 0 0)).all
        exact bodyPost_ret (v:=Evt.own ⟨2,1 + (tx : Int),(j : Int),0,1 + (k7 : Int), []⟩ (.slice none 0 0)) (by simp [results,Tryz.results66,go_sem,z0,z1,z2,z3,z4,z5]) rfl (HS.out.done (q:=p) _ (AR.nil _ _) (by simp) (by omega) (by omega))
end Go.Proofs.YtpjmlpmhgfghbaaGreat
namespace Go.Proofs.YtpjmlpmhgfghbaaGreat
open Go.RowKit Go.Proofs.YtpjmlpmhgfghbaaGreatW.PrintWords Go.Proofs.YtpjmlpmhgfghbaaGreatW.PrintLast Go.Proofs.YtpjmlpmhgfghbaaGreatW.PrintMore
def OkI (w2 w : World) (ok : Nat → Prop) : Prop := ∀ k,ok k → k < w2.heap.size ∨ ∃ cells,w.heap[k]? = some (.cells cells 3 (0,0))
structure PtA (w w2 wr : World) (gO cap g : Nat) (vd vm vl : Value) (e : Eng) (ps : List Page) : Prop where
  box : Ai wr g e vd vm vl
  own : AU wr w2.heap.size vd vm vl e
  out : ∃ ok : Nat → Prop,OkI w2 wr ok ∧ CB wr w.heap.size ok (.slice (some ⟨gO,0,none⟩) 5 cap) ps
  bel : Below w.heap.size w wr
  lo : gO < w2.heap.size
  hi : w.heap.size ≤ gO
  ge : w2.heap.size ≤ g
section
variable {w w2 wr w1 : World} {gO cap g : Nat} {vd vm vl : Value} {e : Eng} {ps qs : List Page}
theorem Ww {k : Nat} {cells : Array Value} {t : TypeId} (h : wr.heap[k]? = some (.cells cells t (0,0))) (hb : Below wr.heap.size wr w1) : w1.heap[k]? = some (.cells cells t (0,0)):=(hb.block k (Array.getElem?_eq_some_iff.1 h).1).trans h
theorem OkI.up {ok : Nat → Prop} (h : OkI w2 wr ok) (hb : Below wr.heap.size wr w1) : OkI w2 w1 ok:=fun k hk => (h k hk).imp id fun ⟨c,hc⟩ => ⟨c,Ww hc hb⟩
theorem OkI.keep {ok : Nat → Prop} (h : OkI w2 wr ok) (hk : Kept wr w1 (fun k => k = gO)) (hlo : gO < w2.heap.size) : OkI w2 w1 ok:=fun k ho => by
  rcases h k ho with h1 | ⟨c,hc⟩
  · exact .inl h1
  · by_cases e : k = gO
    · exact .inl (by omega)
    · exact .inr ⟨c,(hk.2 k (Array.getElem?_eq_some_iff.1 hc).1 e).trans hc⟩
theorem PtA.below (h : PtA w w2 wr gO cap g vd vm vl e ps) (hb : Below wr.heap.size wr w1) : PtA w w2 w1 gO cap g vd vm vl e ps:=by
  obtain ⟨ok,h1,h2⟩:=h.out
  exact ⟨h.box.up hb,h.own.below hb,⟨ok,h1.up hb,Kd.Bu h2 hb⟩,bj h.bel hb,h.lo,h.hi,h.ge⟩
theorem PtA.row (h : PtA w w2 wr gO cap g vd vm vl e ps) (hO : ∃ ok : Nat → Prop,OkI w2 w1 ok ∧ CB w1 w.heap.size ok (.slice (some ⟨gO,0,none⟩) 5 cap) qs) (hb : Below w.heap.size w w1) (hk : Kept wr w1 (fun k => k = gO)) : PtA w w2 w1 gO cap g vd vm vl e qs:=by
  have h1:=h.lo
  have h2:=h.ge
  exact ⟨(hk.2 g h.box.lt (by omega)).trans h.box,(h.own.toK.kept hk (fun k hk e => by omega)).E,hO,hb,h.lo,h.hi,h.ge⟩
theorem PtA.size (h : PtA w w2 wr gO cap g vd vm vl e ps) : gO < wr.heap.size:=Nat.lt_trans (Nat.lt_of_lt_of_le h.lo h.ge) h.box.lt
theorem NH (w : World) (g j : Nat) (u : Value) : Kept w (w.setCell ⟨g,j,none⟩ u) (fun k => k = g):=⟨by rw [World.size_setCell];exact Nat.le_refl _,fun k _ hk => Below.heap_setCell w ⟨g,j,none⟩ u k hk⟩
theorem Md (h : wr.grownBy w1 (some gO)) : Kept wr w1 (fun k => k = gO):=Kept.GJ h (Kept.refl _ _) (fun k e => .inl (by injection e with e;exact e.symm))
theorem PtA.zero (h : PtA w w2 wr gO cap g vd vm vl e ps) {i : Nat} (hi : i < 5) : PtA w w2 (wr.setCell ⟨gO,i * 3,none⟩ (.int .i64 0)) gO cap g vd vm vl e (ps.set i { pg ps i with lsn:=0 }):=by
  obtain ⟨ok,h1,h2⟩:=h.out
  exact h.row ⟨ok,h1.keep (NH _ _ _ _) h.lo,Wm h2 hi 0⟩ (h.bel.setCell (p:=⟨gO,i * 3,none⟩) h.hi _) (NH _ _ _ _)
theorem PtA.stored (h : PtA w w2 wr gO cap g vd vm vl e ps) {N : Nat} {v : Value} {xs : List Int} (hu : AR wr N v xs) (hN : gO < N) {ok : Nat → Prop} (hok : OkI w2 wr ok) (hO : CB w1 w.heap.size (fun k => ok k ∨ some k = v.ownBlock) (.slice (some ⟨gO,0,none⟩) 5 cap) qs) (hb : Below w.heap.size w w1) (hg : wr.grownBy w1 (some gO)) : PtA w w2 w1 gO cap g vd vm vl e qs:=
  h.row ⟨_,fun k hk => by
    rcases hk with hk | hk
    · exact hok.keep (Md hg) h.lo k hk
    · obtain ⟨c,hc⟩:=Df hu k hk.symm
      have:=Cc hu k hk.symm
      exact .inr ⟨c,((Md hg).2 k (Array.getElem?_eq_some_iff.1 hc).1 (by omega)).trans hc⟩,hO⟩ hb (Md hg)
theorem Vp {b : Nat} {ok : Nat → Prop} {v ud um ul : Value} {q : Eng} (h : CB wr b ok v ps) (hq : Ai wr g q ud um ul) (f : Eng) (xd xm xl : Value) : CB (Go.Proofs.YtpjmlpmhgfghbaaGreat.Az wr g f xd xm xl) b ok v ps:=
  FX (FX (FX (FX (FX h hq 0 xd) (hq.set0 xd) 1 xm) ((hq.set0 xd).set1 xm) 2 xl) (((hq.set0 xd).set1 xm).set2 xl) 3 (.int .i64 f.safe)) ((((hq.set0 xd).set1 xm).set2 xl).Cu f.safe) 4 (.bool f.down)
theorem UZ {q f : Eng} {ud um ul xd xm xl : Value} {k : Nat} {c : Array Value} (hq : Ai wr g q ud um ul) (h : wr.heap[k]? = some (.cells c 3 (0,0))) : (Go.Proofs.YtpjmlpmhgfghbaaGreat.Az wr g f xd xm xl).heap[k]? = some (.cells c 3 (0,0)):=by
  have hne : k ≠ g:=fun e => by
    subst e
    rw [hq.blk] at h
    injection h with h
    injection h with _ h
    exact absurd h (by decide)
  unfold Go.Proofs.YtpjmlpmhgfghbaaGreat.Az
  rw [Below.heap_setCell _ _ _ k hne,Below.heap_setCell _ _ _ k hne,Below.heap_setCell _ _ _ k hne,Below.heap_setCell _ _ _ k hne,Below.heap_setCell _ _ _ k hne]
  exact h
theorem PtA.put (h : PtA w w2 wr gO cap g vd vm vl e ps) {xd xm xl : Value} {f : Eng} (ho : AU wr w2.heap.size xd xm xl f) : PtA w w2 (Go.Proofs.YtpjmlpmhgfghbaaGreat.Az wr g f xd xm xl) gO cap g xd xm xl f ps:=by
  obtain ⟨ok,h1,h2⟩:=h.out
  exact ⟨h.box.Az f xd xm xl,ho.Az (f:=f) h.box,⟨ok,fun k hk => (h1 k hk).imp id fun ⟨c,hc⟩ => ⟨c,UZ h.box hc⟩,Vp h2 h.box f xd xm xl⟩,Ak h.bel (by have:=h.lo;have:=h.hi;have:=h.ge;omega) f xd xm xl,h.lo,h.hi,h.ge⟩
theorem EvBox.kept {b c : Nat} {v : Evt} {A : Option Addr} (h : EvBox wr b v A c) (hk : Kept wr w1 (fun k => k = gO)) (hne : b ≠ gO) : EvBox w1 b v A c:=(hk.2 b h.lt hne).trans h
end
end Go.Proofs.YtpjmlpmhgfghbaaGreat
namespace Go.Proofs.YtpjmlpmhgfghbaaGreat
open Go.RowKit Go.Proofs.YtpjmlpmhgfghbaaGreatW.PrintWords Go.Proofs.YtpjmlpmhgfghbaaGreatW.PrintLast Go.Proofs.YtpjmlpmhgfghbaaGreatW.PrintMore
theorem Pk {w0 w : World} {e : Eng} {b : Bool} {Ad Am Al : Option Addr} {cd cm cl : Nat} (page : Int) (hd : e.down = b) (hlog : AP e.log = true) (hb : Below w0.heap.size w0 w) (hr : DF w0 e Ad Am Al) : Calls Tryz.prog 123 #[.agg #[.slice Ad e.disk.length cd, .slice Am e.mem.length cm, .slice Al e.log.length cl, .int .i64 e.safe, .bool b], .int .i64 page] w fun x w' => x = .returned (.int .i64 (FZ e.log page)) ∧ Below w.heap.size w w':=by
  subst hd
  exact ER page hlog hb hr
set_option maxRecDepth 100000 in
set_option maxHeartbeats 8000000 in
theorem BP {w0 w : World} {e : Eng} {C : Nat → Page} {B : Nat} {Ad Am Al : Option Addr} {cd cm cl : Nat} (tx page : Int) {m : Bool} (hm : DL e tx page = m) (hi : Core e C B) (hb : Below w0.heap.size w0 w) (hr : DF w0 e Ad Am Al) : Calls Tryz.prog 124 #[e.val Ad Am Al cd cm cl, .int .i64 tx, .int .i64 page] w fun x w' => x = .returned (.bool m) ∧ Below w.heap.size w w':=by
  have HR:=As (hr.up hb)
  have HL:=As hi.log
  have HM:=As hm
  obtain ⟨by_,hby⟩ : ∃ k,lk e.log page = k:=⟨_,rfl⟩
  have HLK : Ac (FZ e.log page = by_):=⟨by rw [hi.FZ,hby]⟩
  have HBY:=As hby
  clear hr hb hi hm hby
  cases hd : e.down
  rotate_left
  · have HD:=As hd
    have hmf : m = false:=by rw [← HM.out,DL,hd];rfl
    subst hmf
    clear hd
    go_enter Tryz.func124,Tryz.ntmps124
    go_wp2_with (first
      | (with_reducible refine Aw (vd:=.slice Ad e.disk.length cd) (vm:=.slice Am e.mem.length cm) (vl:=.slice Al e.log.length cl) e ?_;intro w1 hb1 hz1 hq1;clear hz1;have HB:=As hb1;have x0:=hq1.c0;have x1:=hq1.c1;have x2:=hq1.c2;have x3:=hq1.c3;have x4:=hq1.c4;rw [HD.out] at x4;clear hb1 hq1))
    go_ret
    exact ⟨rfl,HB.out⟩
  have HD:=As hd
  clear hd
  cases h1 : inB tx 1 3
  · have H1:=As h1
    have hmf : m = false:=by rw [← HM.out,DL,HD.out,h1];rfl
    subst hmf
    clear h1
    go_enter Tryz.func124,Tryz.ntmps124
    go_wp2_with (first
      | (with_reducible refine Aw (vd:=.slice Ad e.disk.length cd) (vm:=.slice Am e.mem.length cm) (vl:=.slice Al e.log.length cl) e ?_;intro w1 hb1 hz1 hq1;clear hz1;have HB:=As hb1;have x0:=hq1.c0;have x1:=hq1.c1;have x2:=hq1.c2;have x3:=hq1.c3;have x4:=hq1.c4;rw [HD.out] at x4;clear hb1 hq1)
      | (go_at_call 55;refine (BZ tx 1 3 _).mono ?_;rw [H1.out];rintro x w' ⟨rfl,rfl⟩))
    go_ret
    exact ⟨rfl,HB.out⟩
  have H1:=As h1
  clear h1
  cases h2 : inB page 0 4
  · have H2:=As h2
    have hmf : m = false:=by rw [← HM.out,DL,HD.out,H1.out,h2];rfl
    subst hmf
    clear h2
    go_enter Tryz.func124,Tryz.ntmps124
    go_wp2_with (first
      | (with_reducible refine Aw (vd:=.slice Ad e.disk.length cd) (vm:=.slice Am e.mem.length cm) (vl:=.slice Al e.log.length cl) e ?_;intro w1 hb1 hz1 hq1;clear hz1;have HB:=As hb1;have x0:=hq1.c0;have x1:=hq1.c1;have x2:=hq1.c2;have x3:=hq1.c3;have x4:=hq1.c4;rw [HD.out] at x4;clear hb1 hq1)
      | (go_at_call 55;refine (BZ _ _ _ _).mono ?_;(first | rw [H1.out] | rw [H2.out]);rintro x w' ⟨rfl,rfl⟩))
    go_ret
    exact ⟨rfl,HB.out⟩
  have H2:=As h2
  clear h2
  rcases BS by_ 0 with ⟨e1,b1,c1⟩ | ⟨e1,b1,c1⟩
  all_goals rcases BS by_ tx with ⟨e2,b2,c2⟩ | ⟨e2,b2,c2⟩
  all_goals
    go_enter Tryz.func124,Tryz.ntmps124
    go_wp2_with (first
      | (with_reducible refine Aw (vd:=.slice Ad e.disk.length cd) (vm:=.slice Am e.mem.length cm) (vl:=.slice Al e.log.length cl) e ?_;intro w1 hb1 hz1 hq1;clear hz1;have HB:=As hb1;have x0:=hq1.c0;have x1:=hq1.c1;have x2:=hq1.c2;have x3:=hq1.c3;have x4:=hq1.c4;rw [HD.out] at x4;clear hb1 hq1)
      | (go_at_call 55;refine (BZ _ _ _ _).mono ?_;(first | rw [H1.out] | rw [H2.out]);rintro x w' ⟨rfl,rfl⟩)
      | (go_at_call 123;refine (Pk (cd:=cd) (cm:=cm) (cl:=cl) page HD.out HL.out HB.out HR.out).mono ?_;rw [HLK.out];rintro x w2 ⟨rfl,hb2⟩;have HB2:=As (bj HB.out hb2);clear hb2))
    go_ret
    exact ⟨AJ (by rw [← HM.out,DL,HD.out,H1.out,H2.out,HBY.out];simp [b1,b2]),HB2.out⟩
end Go.Proofs.YtpjmlpmhgfghbaaGreat
