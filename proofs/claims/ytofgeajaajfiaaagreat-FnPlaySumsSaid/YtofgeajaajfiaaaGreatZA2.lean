/- A part of the proof: what the last text of the claim says leans on this one. -/
import Derived.Test.YtofgeajaajfiaaaGreatZA1
import Derived.Sort.OwnSortedInts
import Derived.IntWalk
set_option linter.unusedVariables false
set_option linter.unusedSimpArgs false
namespace Go.Proofs.YtofgeajaajfiaaaGreat
open Go.RowKit Go.Proofs.YtofgeajaajfiaaaGreatW.PrintWords Go.Proofs.YtofgeajaajfiaaaGreatW.PrintLast Go.Proofs.YtofgeajaajfiaaaGreatW.PrintMore
set_option maxHeartbeats 2000000 in
theorem Jv {w0 w : World} {A : Option Addr} {c n : Nat} {l : List Rec} (hn : n ≤ l.length) (hb : Below w0.heap.size w0 w) (hr : Kd.C Ca w0 A l.length l) (hl : AB l = true) : Calls Tryz.prog 153 #[.slice A l.length c, .int .i64 n] w fun e w' => e = .returned (.int .i64 (Br l n)) ∧ Below w0.heap.size w0 w':=by
 have HR:=As hr
 have HB:=As hb
 have HL:=As hl
 have hm:=(Cg hr).2
 clear hr hb hl
 go_enter Tryz.func153,Tryz.ntmps153
 go_wp2
 go_loopw [1] (fun i wr => ∃ k : Nat,k ≤ l.length ∧ i = .int .i64 (k : Int) ∧ Aa (Br l n = Br l k) ∧ Aa (Below w0.heap.size w0 wr)) (fun i _ => (intOf i).toNat)
 case atStart => exact ⟨n,hn,rfl,⟨rfl⟩,HB⟩
 case round =>
  obtain ⟨k,hk,rfl,HK,HW⟩:=hrel
  rcases k with _ | k
  ·go_wp2
   go_ret
   exact ⟨EF (by rw [HK.out,Qb];rfl),HW.out⟩
  ·have F:=Aq HL.out (k:=k) (by omega)
   obtain ⟨ad,rfl,QR⟩:=CS HR.out k (by omega)
   have QW:=QR.up HW.out
   obtain ⟨g0,g1,g2,g3,g4,g5,g6,g7⟩:=QW
   have hle:=F.prev_le
   have hle2:=F.next_le
   rw [F.prev] at g6
   rw [F.next] at g7
   clear F QR
   rcases BQ (rc l k).kind 1 with ⟨e1,b1,c1⟩ | ⟨e1,b1,c1⟩
   ·go_wp2
    go_ret
    exact ⟨EF (by rw [HK.out,IA (.inl e1.out) hle]),DX HW.out _⟩
   ·rcases BQ (rc l k).kind 2 with ⟨e2,b2,c2⟩ | ⟨e2,b2,c2⟩
    ·go_wp2
     go_ret
     exact ⟨EF (by rw [HK.out,IA (.inr e2.out) hle]),DX HW.out _⟩
    ·rcases BQ (rc l k).kind 6 with ⟨e3,b3,c3⟩ | ⟨e3,b3,c3⟩
     ·go_wp2
      go_roundw
      case rel => exact ⟨F6 l (k + 1),by omega,rfl,⟨by rw [HK.out,Mg e3.out hle2]⟩,⟨DX HW.out _⟩⟩
      case measure => simp [intOf];omega
     ·go_wp2
      go_roundw
      case rel => exact ⟨BP l (k + 1),by omega,rfl,⟨by rw [HK.out,Mh e1.out e2.out e3.out hle]⟩,⟨DX HW.out _⟩⟩
      case measure => simp [intOf];omega
def ints (l : List Nat) : List Int:=l.map fun n : Nat => (n : Int)
theorem Ql (l : List Nat) (n : Nat) : ints l ++ [(n : Int)] = ints (l ++ [n]):=by simp [ints]
theorem Ip {l : List Rec} (n : Nat) : (BD l n).length ≤ n:=by
 induction n using Nat.strongRecOn with
 | _ n ih =>
  match n with
  | 0 => rw [Cs];simp
  | n + 1 =>
   rw [BD]
   split
   ·have:=ih (BP l (n + 1)) (by omega);simp;omega
   ·simp
set_option maxHeartbeats 4000000 in
theorem II {w0 w : World} {A : Option Addr} {c : Nat} {l : List Rec} (tx : Int) (hb : Below w0.heap.size w0 w) (hr : Kd.C Ca w0 A l.length l) (hl : AB l = true) : Calls Tryz.prog 97 #[.slice A l.length c, .int .i64 tx] w (VK w (ints (BD l (Ai l tx l.length)))):=by
 have HR:=As hr
 have HB:=As hb
 have HL:=As hl
 have hm:=Bo hl
 clear hr hb hl
 go_enter Tryz.func97,Tryz.ntmps97
 go_wp2_with (go_at_call 82;refine (JD tx HB.out HR.out).mono ?_;rintro e w1 ⟨rfl,hb1⟩;have HX:=As hb1;clear hb1)
 go_loopw [5,6] (fun v i wr => ∃ (k : Nat) (pre : List Nat),k ≤ l.length ∧ i = .int .i64 (k : Int) ∧ Aa (AL wr w.heap.size v (ints pre)) ∧ Aa (pre ++ BD l k = BD l (Ai l tx l.length)) ∧ Aa (Below w.heap.size w wr)) (fun _ i _ => (intOf i).toNat)
 case atStart => exact ⟨Ai l tx l.length, [],Bc _ _ _,rfl,⟨(AL.nil _ _ : AL _ _ _ [])⟩,⟨rfl⟩,HX⟩
 case round =>
  obtain ⟨k,pre,hk,rfl,HO,HK,HW⟩:=hrel
  have HW0:=As (bj HB.out HW.out)
  rcases k with _ | k
  ·go_wp2
   go_ret
   exact ⟨_,rfl,by have:=HK.out;rw [Cs,List.append_nil] at this;rw [← this];exact HO.out,HW.out⟩
  ·have F:=Aq HL.out (k:=k) (by omega)
   obtain ⟨ad,rfl,QR⟩:=CS HR.out k (by omega)
   obtain ⟨g0,g1,g2,g3,g4,g5,g6,g7⟩:=QR.up HW0.out
   have hle:=F.prev_le
   have HC:=As (Eh F.prev_le)
   have hpl : (ints pre).length ≤ 150:=by
    have:=congrArg List.length HK.out
    rw [List.length_append] at this
    have h2:=Ip (l:=l) (Ai l tx l.length)
    have h3:=Bc l tx l.length
    simp only [ints,List.length_map]
    omega
   have HPL:=As hpl
   have HPR:=As F.prev
   have HQR:=As QR
   clear F QR hpl g0 g1 g2 g3 g4 g5 g6 g7
   go_wp2_with (at_builtin;(refine Dx w.heap.size rfl (.tmp 18) (.tmp 20) 32 3 .i64 8 rfl Ei FX (by omega) _ (ints pre) ((k : Int) + 1) rfl rfl HO.out HW.out HW.out.size (by have:=HPL.out;omega) ?_;intro v1 w1 hown1 hb1 _ _;have HO1:=As hown1;have HW1:=As hb1;obtain ⟨y0,y1,y2,y3,y4,y5,y6,y7⟩:=HQR.out.up (bj HB.out hb1);rw [HPR.out] at y6;clear hown1 hb1))
   go_roundw
   case rel => exact ⟨BP l (k + 1),pre ++ [k + 1],by omega,rfl,⟨by have:=HO1.out;rwa [show ((k : Int) + 1) = ((k + 1 : Nat) : Int) from rfl,Ql] at this⟩,⟨by rw [← HK.out,HC.out];simp⟩,HW1⟩
   case measure => simp [intOf];omega
theorem Me {l : List Rec} (n : Nat) : (D8 l n).length ≤ n:=by
 induction n using Nat.strongRecOn with
 | _ n ih =>
  match n with
  | 0 => rw [Db];simp
  | n + 1 =>
   rw [D8]
   split
   ·split
    ·have:=ih (BP l (n + 1)) (by omega);simp;omega
    ·simp
   ·split
    ·split
     ·have:=ih (F6 l (n + 1)) (by omega);omega
     ·simp
    ·split
     ·have:=ih (BP l (n + 1)) (by omega);omega
     ·simp
set_option maxHeartbeats 4000000 in
theorem Lv {w0 w : World} {A : Option Addr} {c : Nat} {l : List Rec} (hb : Below w0.heap.size w0 w) (hr : Kd.C Ca w0 A l.length l) (hl : AB l = true) : Calls Tryz.prog 141 #[.slice A l.length c] w fun e w' => e = .returned (.int .i64 (need l)) ∧ Below w0.heap.size w0 w':=by
 have HR:=As hr
 have HB:=As hb
 have HL:=As hl
 have hm:=Bo hl
 clear hr hb hl
 go_enter Tryz.func141,Tryz.ntmps141
 go_wp2
 go_loopw [3,4] (fun n i wr => ∃ (j a : Nat),j ≤ 3 ∧ i = .int .i64 (4 - j : Int) ∧ n = .int .i64 (a : Int) ∧ a ≤ 200 * (3 - j) ∧ Aa (a + J8 l j = need l) ∧ Aa (Below w0.heap.size w0 wr)) (fun _ i _ => (4 - intOf i).toNat)
 case atStart => exact ⟨3,0,by omega,rfl,rfl,by omega,⟨by simp [need]⟩,HB⟩
 case round =>
  obtain ⟨j,a,hj,rfl,rfl,ha,HK,HW⟩:=hrel
  rcases j with _ | j
  ·go_wp2
   go_ret
   exact ⟨EF (by rw [← HK.out];simp [J8]),HW.out⟩
  ·have hw : (4 - ((j + 1 : Nat) : Int)) = 3 - (j : Int):=by omega
   rw [hw]
   have h1 : (3 - (j : Int)) ≤ 3:=by omega
   have h2 : 1 ≤ (3 - (j : Int)):=by omega
   obtain ⟨n0,hn0⟩ : ∃ n0,Ai l (3 - (j : Int)) l.length = n0:=⟨_,rfl⟩
   have hle:=Bc l (3 - (j : Int)) l.length
   rw [hn0] at hle
   have hlen:=Me (l:=l) n0
   have HN:=As hn0
   clear hw hn0
   rcases n0 with _ | n0
   all_goals
    go_wp2_with (first | (go_at_call 109;refine (DW HN.out HW.out HR.out).mono ?_;rintro e w' ⟨rfl,rfl⟩) | (go_at_call 144;refine (Gr (by omega) HW.out HR.out HL.out).mono ?_;rintro e w1 ⟨rfl,hb1⟩;have HX:=As hb1;clear hb1))
   ·skip
    go_loopw [3,5] (fun n i wr => ∃ (k b : Nat),k ≤ l.length ∧ i = .int .i64 (Br l k : Int) ∧ n = .int .i64 (b : Int) ∧ b ≤ 350 + 200 * (2 - j) ∧ Aa (b + (D8 l k).length = a + (D8 l (0)).length) ∧ Aa (Below w0.heap.size w0 wr)) (fun _ i _ => (intOf i).toNat)
    case atStart => exact ⟨0,a,by omega,rfl,by go_num,by omega,⟨rfl⟩,HX⟩
    case round =>
     obtain ⟨k,b,hk,rfl,rfl,hb,HQ,HY⟩:=hrel
     obtain ⟨m,hm'⟩ : ∃ m,Br l k = m:=⟨_,rfl⟩
     rw [hm']
     rcases m with _ | m
     ·have HZ:=As (GN hm')
      clear hm'
      go_wp2
      go_roundw
      case rel => exact ⟨j,b,by omega,by go_num,rfl,by have:=HQ.out;rw [HZ.out] at this;simp at this;omega,⟨by rw [← HK.out,J8,HN.out];have:=HQ.out;rw [HZ.out] at this;simp at this ⊢;omega⟩,HY⟩
      case measure => simp [intOf];omega
     ·obtain ⟨h3,h4,h5,h6⟩:=Nj HL.out hk hm'
      have F:=Aq HL.out h4
      obtain ⟨ad,rfl,QR⟩:=CS HR.out m h4
      obtain ⟨g0,g1,g2,g3,g4,g5,g6,g7⟩:=QR.up HY.out
      have HS:=As h3
      have hpl:=I5 (l:=l) (n:=BP l (m + 1))
      have hbl : b + 1 ≤ 350 + 200 * (2 - j):=by have:=HQ.out;rw [h3] at this;simp at this;omega
      rw [F.prev] at g6
      clear h3 h6 F QR hm'
      go_wp2_with (go_at_call 144;refine (Gr (by omega) HY.out HR.out HL.out).mono ?_;rintro e w2 ⟨rfl,hb2⟩;have HX2:=As hb2;clear hb2)
      go_roundw
      case rel => exact ⟨BP l (m + 1),b + 1,by omega,rfl,by go_num,hbl,⟨by rw [← HQ.out,HS.out];simp;omega⟩,HX2⟩
      case measure => simp [intOf];omega
   ·skip
    go_loopw [3,5] (fun n i wr => ∃ (k b : Nat),k ≤ l.length ∧ i = .int .i64 (Br l k : Int) ∧ n = .int .i64 (b : Int) ∧ b ≤ 350 + 200 * (2 - j) ∧ Aa (b + (D8 l k).length = a + 1 + (D8 l (n0 + 1)).length) ∧ Aa (Below w0.heap.size w0 wr)) (fun _ i _ => (intOf i).toNat)
    case atStart => exact ⟨n0 + 1,a + 1,by omega,rfl,by go_num,by omega,⟨rfl⟩,HX⟩
    case round =>
     obtain ⟨k,b,hk,rfl,rfl,hb,HQ,HY⟩:=hrel
     obtain ⟨m,hm'⟩ : ∃ m,Br l k = m:=⟨_,rfl⟩
     rw [hm']
     rcases m with _ | m
     ·have HZ:=As (GN hm')
      clear hm'
      go_wp2
      go_roundw
      case rel => exact ⟨j,b,by omega,by go_num,rfl,by have:=HQ.out;rw [HZ.out] at this;simp at this;omega,⟨by rw [← HK.out,J8,HN.out];have:=HQ.out;rw [HZ.out] at this;simp at this ⊢;omega⟩,HY⟩
      case measure => simp [intOf];omega
     ·obtain ⟨h3,h4,h5,h6⟩:=Nj HL.out hk hm'
      have F:=Aq HL.out h4
      obtain ⟨ad,rfl,QR⟩:=CS HR.out m h4
      obtain ⟨g0,g1,g2,g3,g4,g5,g6,g7⟩:=QR.up HY.out
      have HS:=As h3
      have hpl:=I5 (l:=l) (n:=BP l (m + 1))
      have hbl : b + 1 ≤ 350 + 200 * (2 - j):=by have:=HQ.out;rw [h3] at this;simp at this;omega
      rw [F.prev] at g6
      clear h3 h6 F QR hm'
      go_wp2_with (go_at_call 144;refine (Gr (by omega) HY.out HR.out HL.out).mono ?_;rintro e w2 ⟨rfl,hb2⟩;have HX2:=As hb2;clear hb2)
      go_roundw
      case rel => exact ⟨BP l (m + 1),b + 1,by omega,rfl,by go_num,hbl,⟨by rw [← HQ.out,HS.out];simp;omega⟩,HX2⟩
      case measure => simp [intOf];omega
set_option maxHeartbeats 4000000 in
theorem NM {w0 w : World} {A : Option Addr} {c : Nat} {l : List Rec} (tx : Int) (hb : Below w0.heap.size w0 w) (hr : Kd.C Ca w0 A l.length l) (hl : AB l = true) : Calls Tryz.prog 148 #[.slice A l.length c, .int .i64 tx] w (VK w (ints (D8 l (Ai l tx l.length)))):=by
 have HR:=As hr
 have HB:=As hb
 have HL:=As hl
 have hm:=Bo hl
 have hnl:=Bc l tx l.length
 clear hr hb hl
 go_enter Tryz.func148,Tryz.ntmps148
 go_wp2_with (first | (go_at_call 82;refine (JD tx HB.out HR.out).mono ?_;rintro e w1 ⟨rfl,hb1⟩;have HX:=As hb1;clear hb1) | (go_at_call 153;refine (Jv hnl (Below.refl _ _) (BA HR.out (bj HB.out HX.out)) HL.out).mono ?_;rintro e w2 ⟨rfl,hb2⟩;have HX2:=As (bj HX.out hb2);clear hb2))
 go_loopw [5,6] (fun v i wr => ∃ (k : Nat) (pre : List Nat),k ≤ l.length ∧ i = .int .i64 (Br l k : Int) ∧ Aa (AL wr w.heap.size v (ints pre)) ∧ Aa (pre ++ D8 l k = D8 l (Ai l tx l.length)) ∧ Aa (Below w.heap.size w wr)) (fun _ i _ => (intOf i).toNat)
 case atStart => exact ⟨Ai l tx l.length, [],Bc _ _ _,rfl,⟨(AL.nil _ _ : AL _ _ _ [])⟩,⟨rfl⟩,HX2⟩
 case round =>
  obtain ⟨k,pre,hk,rfl,HO,HK,HW⟩:=hrel
  have HW0:=As (bj HB.out HW.out)
  obtain ⟨m,hm'⟩ : ∃ m,Br l k = m:=⟨_,rfl⟩
  rw [hm']
  rcases m with _ | m
  ·have HZ:=As (GN hm')
   clear hm'
   go_wp2
   go_ret
   exact ⟨_,rfl,by have:=HK.out;rw [HZ.out,List.append_nil] at this;rw [← this];exact HO.out,HW.out⟩
  ·obtain ⟨h3,h4,h5,h6⟩:=Nj HL.out hk hm'
   have F:=Aq HL.out h4
   obtain ⟨ad,rfl,QR⟩:=CS HR.out m h4
   have HS:=As h3
   have hpl : (ints pre).length ≤ 150:=by
    have:=congrArg List.length HK.out
    rw [List.length_append] at this
    have h2:=Me (l:=l) (Ai l tx l.length)
    simp only [ints,List.length_map]
    omega
   have HPL:=As hpl
   have HPR:=As F.prev
   have HQR:=As QR
   have hpl2:=I5 (l:=l) (n:=BP l (m + 1))
   clear h3 h6 F QR hm' hpl
   go_wp2_with (first | (at_builtin;(refine Dx w.heap.size rfl (.tmp 22) (.tmp 24) 32 3 .i64 8 rfl Ei FX (by omega) _ (ints pre) ((m : Int) + 1) rfl rfl HO.out HW.out HW.out.size (by have:=HPL.out;omega) ?_;intro v1 w1 hown1 hb1 _ _;have HO1:=As hown1;have HW1:=As hb1;obtain ⟨y0,y1,y2,y3,y4,y5,y6,y7⟩:=HQR.out.up (bj HB.out hb1);rw [HPR.out] at y6;clear hown1 hb1)) | (go_at_call 153;refine (Jv (n:=BP l (m + 1)) (by omega) (Below.refl _ _) (BA HR.out (bj HB.out HW1.out)) HL.out).mono ?_;rintro e w2 ⟨rfl,hb2⟩;have HX3:=As (bj HW1.out hb2);have HO3:=As (AL.below HO1.out hb2);clear hb2))
   go_roundw
   case rel => exact ⟨BP l (m + 1),pre ++ [m + 1],by omega,rfl,⟨by have:=HO3.out;rwa [show ((m : Int) + 1) = ((m + 1 : Nat) : Int) from rfl,Ql] at this⟩,⟨by rw [← HK.out,HS.out];simp⟩,HX3⟩
   case measure => simp [intOf];omega
def BX (l : List Rec) : Nat → List Int
 | 0 => []
 | j + 1 => (if Ai l (3 - j : Int) l.length = 0 then [] else [3 - (j : Int)]) ++ BX l j
set_option maxHeartbeats 4000000 in
theorem FD {w0 w : World} {A : Option Addr} {c : Nat} {l : List Rec} (hb : Below w0.heap.size w0 w) (hr : Kd.C Ca w0 A l.length l) : Calls Tryz.prog 42 #[.slice A l.length c] w (VK w (BX l 3)):=by
 have HR:=As hr
 have HB:=As hb
 clear hr hb
 go_enter Tryz.func42,Tryz.ntmps42
 go_wp2
 go_loopw [3,4] (fun v i wr => ∃ (j : Nat) (pre : List Int),j ≤ 3 ∧ i = .int .i64 (4 - j : Int) ∧ Aa (pre.length ≤ 3 - j) ∧ Aa (AL wr w.heap.size v pre) ∧ Aa (pre ++ BX l j = BX l 3) ∧ Aa (Below w.heap.size w wr)) (fun _ i _ => (4 - intOf i).toNat)
 case atStart => exact ⟨3, [],by omega,rfl,⟨by simp⟩,⟨(AL.nil _ _ : AL _ _ _ [])⟩,⟨rfl⟩,⟨Below.refl _ _⟩⟩
 case round =>
  obtain ⟨j,pre,hj,rfl,HP,HO,HK,HW⟩:=hrel
  rcases j with _ | j
  ·go_wp2
   go_ret
   exact ⟨_,rfl,by have:=HK.out;rw [BX,List.append_nil] at this;rw [← this];exact HO.out,HW.out⟩
  ·have hw : (4 - ((j + 1 : Nat) : Int)) = 3 - (j : Int):=by omega
   rw [hw]
   have h1 : (3 - (j : Int)) ≤ 3:=by omega
   have h2 : 1 ≤ (3 - (j : Int)):=by omega
   obtain ⟨n0,hn0⟩ : ∃ n0,Ai l (3 - (j : Int)) l.length = n0:=⟨_,rfl⟩
   have hnb:=Bc l (3 - (j : Int)) l.length
   have hm:=(Cg HR.out).2
   rw [hn0] at hnb
   have HN:=As hn0
   clear hw hn0
   rcases n0 with _ | n0
   ·go_wp2_with (go_at_call 82;refine (GZ HN.out (bj HB.out HW.out) HR.out).mono ?_;rintro e w1 ⟨rfl,hb1⟩;have HX:=As (bj HW.out hb1);have HO1:=As (AL.below HO.out hb1);clear hb1)
    go_roundw
    case rel => exact ⟨j,pre,by omega,by go_num,⟨by have:=HP.out;omega⟩,HO1,⟨by rw [← HK.out,BX,HN.out,if_pos rfl,List.nil_append]⟩,HX⟩
    case measure => simp [intOf];omega
   ·go_wp2_with (first | (go_at_call 82;refine (GZ HN.out (bj HB.out HW.out) HR.out).mono ?_;rintro e w1 ⟨rfl,hb1⟩;have HX:=As (bj HW.out hb1);have HO1:=As (AL.below HO.out hb1);clear hb1) | (at_builtin;(refine Dx w.heap.size rfl (.tmp 13) (.tmp 15) 32 3 .i64 8 rfl Ei FX (by omega) _ pre (3 - (j : Int)) rfl rfl HO1.out HX.out HX.out.size (by have:=HP.out;omega) ?_;intro v1 w2 hown1 hb1 _ _;have HO2:=As hown1;have HW2:=As hb1;clear hown1 hb1)))
    go_roundw
    case rel => exact ⟨j,pre ++ [3 - (j : Int)],by omega,by go_num,⟨by have:=HP.out;simp;omega⟩,HO2,⟨by rw [← HK.out,BX,HN.out,if_neg (by omega)];simp⟩,HW2⟩
    case measure => simp [intOf];omega
def O7 (l : List Rec) (txs : List Int) : Nat:=(txs.map fun tx => (D8 l (Ai l tx l.length)).length + 1).sum
theorem NC (l : List Rec) : ∀ j,O7 l (BX l j) = J8 l j
 | 0 => rfl
 | j + 1 => by
  have ih:=NC l j
  unfold BX J8
  split
  ·rename_i h
   rw [h,Db]
   simp
   exact ih
  ·simp only [O7,List.cons_append,List.nil_append,List.map_cons,List.sum_cons]
   have h2 : ((BX l j).map fun tx => (D8 l (Ai l tx l.length)).length + 1).sum = J8 l j:=ih
   omega
theorem WS {l : List Rec} (hl : l.length ≤ 150) (txs : List Int) : O7 l txs ≤ 151 * txs.length:=by
 induction txs with
 | nil => simp [O7]
 | cons t ts ih =>
  simp only [O7,List.map_cons,List.sum_cons,List.length_cons] at ih ⊢
  have h1:=Me (l:=l) (Ai l t l.length)
  have h2:=Bc l t l.length
  omega
theorem Hr (l : List Rec) : ∀ j,(BX l j).length ≤ j
 | 0 => by simp [BX]
 | j + 1 => by
  have:=Hr l j
  unfold BX
  split <;> simp <;> omega
set_option maxHeartbeats 4000000 in
theorem TR {w0 w : World} {A : Option Addr} {c : Nat} {l : List Rec} (hb : Below w0.heap.size w0 w) (hr : Kd.C Ca w0 A l.length l) (hl : AB l = true) : Calls Tryz.prog 123 #[.slice A l.length c] w fun e w' => e = .returned (.int .i64 (need l)) ∧ Below w.heap.size w w':=by
 have HR:=As hr
 have HB:=As hb
 have HL:=As hl
 have hm:=Bo hl
 have hol:=Hr l 3
 obtain ⟨xs,hxs⟩ : ∃ xs,BX l 3 = xs:=⟨_,rfl⟩
 rw [hxs] at hol
 have HXS:=As hxs
 clear hr hb hl hxs
 go_enter Tryz.func123,Tryz.ntmps123
 go_wp2_with (go_at_call 42;refine (FD HB.out HR.out).mono ?_;rintro e w1 ⟨v,rfl,ho,hb1⟩;rw [HXS.out] at ho;obtain ⟨A1,c1,rfl, -,hC⟩:=ho.reads;have HX:=As hb1;have HC:=As hC;clear ho hb1 hC)
 go_loopw [3,9] (fun a i wr => ∃ (k b : Nat),k ≤ xs.length ∧ i = .int .i64 (k : Int) ∧ a = .int .i64 (b : Int) ∧ b ≤ 151 * k ∧ Aa (b + O7 l (xs.drop k) = need l) ∧ Aa (Below w1.heap.size w1 wr)) (fun _ i _ => (xs.length - intOf i).toNat)
 case atStart => exact ⟨0,0,by omega,rfl,rfl,by omega,⟨by rw [List.drop_zero,Nat.zero_add, ← HXS.out];exact NC l 3⟩,⟨Below.refl _ _⟩⟩
 case round =>
  obtain ⟨k,b,hk,rfl,rfl,hbk,HK,HW⟩:=hrel
  have HW0:=As (bj HX.out HW.out)
  have HW1:=As (bj HB.out HW0.out)
  by_cases hlt : k < xs.length
  ·obtain ⟨ad,rfl,g0⟩:=Dj HC.out k hlt
   replace g0:=bc HW.out g0
   have hu:=Me (l:=l) (Ai l (iv xs k) l.length)
   have hu2:=Bc l (iv xs k) l.length
   have HD:=As (JI hlt)
   go_wp2_with (go_at_call 148;refine (NM (iv xs k) HW1.out HR.out HL.out).mono ?_;rintro e w2 ⟨v,rfl,ho,hb2⟩;obtain ⟨A2,c2,rfl, -, -⟩:=ho.reads;have HX2:=As (bj HW.out hb2);clear ho hb2;simp only [ints,List.length_map])
   go_roundw
   case rel => exact ⟨k + 1,b + ((D8 l (Ai l (iv xs k) l.length)).length + 1),by omega,by go_num,by go_num,by omega,⟨by rw [← HK.out,HD.out];simp [O7];omega⟩,HX2⟩
   case measure => simp [intOf];omega
  ·have hke : k = xs.length:=by omega
   go_wp2
   go_ret
   exact ⟨EF (by rw [← HK.out,hke,List.drop_length];simp [O7]),HW0.out⟩
def Jj (l : List Rec) : Bool:=decide (l.length + need l ≤ 150)
theorem KU {l : List Rec} (hl : l.length ≤ 150) : need l ≤ 453:=by
 have h1:=WS hl (BX l 3)
 have h2:=Hr l 3
 have h3:=NC l 3
 rw [need, ← h3]
 omega
theorem Ep {w0 w : World} {A : Option Addr} {c : Nat} {l : List Rec} (hb : Below w0.heap.size w0 w) (hr : Kd.C Ca w0 A l.length l) (hl : AB l = true) : Calls Tryz.prog 84 #[.slice A l.length c] w fun e w' => e = .returned (.bool (Jj l)) ∧ Below w.heap.size w w':=by
 have HR:=As hr
 have HB:=As hb
 have HL:=As hl
 have hm:=Bo hl
 have hn:=KU hm
 clear hr hb hl
 go_enter Tryz.func84,Tryz.ntmps84
 go_wp2_with (go_at_call 123;refine (TR HB.out HR.out HL.out).mono ?_;rintro e w1 ⟨rfl,hb1⟩)
 go_ret
 exact ⟨Au (by rw [Jj];exact decide_eq_decide.mpr (by omega)),hb1⟩
def FI (l : List Rec) : List Page → List Nat → Bool
 | _, [] => true
 | ps,m :: ms => Bt (Bg (pg ps (rc l (m - 1)).page.toNat) (Bz (rc l (m - 1)) 0)) && FI l (ps.set (rc l (m - 1)).page.toNat (Bg (pg ps (rc l (m - 1)).page.toNat) (Bz (rc l (m - 1)) 0))) ms
def LJ (l : List Rec) (txs : List Int) : List Nat:=txs.flatMap fun tx => D8 l (Ai l tx l.length)
def Js (l : List Rec) (ps : List Page) : Bool:=FI l ps (LJ l (BX l 3))
theorem Uc {l : List Rec} (hl : AB l = true) (n : Nat) : n ≤ l.length → ∀ m ∈ D8 l n,0 < m ∧ m ≤ l.length ∧ ((rc l (m - 1)).kind = 1 ∨ (rc l (m - 1)).kind = 2):=by
 induction n using Nat.strongRecOn with
 | _ n ih =>
  intro hn m hm
  cases e : D8 l n with
  | nil => rw [e] at hm;cases hm
  | cons a t =>
   obtain ⟨h1,h2,h3,h4⟩:=Gf n a t e
   have F:=Aq hl (k:=a - 1) (by omega)
   have h5:=F.prev_le
   rw [show a - 1 + 1 = a by omega] at h5
   rw [e] at hm
   rcases List.mem_cons.1 hm with rfl | hm
   ·exact ⟨h1,by omega,h3⟩
   ·rw [(h4 (by omega)).1] at hm
    exact ih _ (by omega) (by omega) m hm
theorem Iz {l : List Rec} (hl : AB l = true) {m : Nat} (h0 : 0 < m) (hm : m ≤ l.length) (hk : (rc l (m - 1)).kind = 1 ∨ (rc l (m - 1)).kind = 2) : CZ (rc l (m - 1)) = true ∧ 0 ≤ (rc l (m - 1)).page ∧ (rc l (m - 1)).page < 5 ∧ (rc l (m - 1)).slot < 3:=by
 have h:=(Aq hl (k:=m - 1) (by omega)).ok
 refine ⟨h,?_⟩
 rw [Dc] at h
 omega
theorem Vo {w : World} {b b' g n cap : Nat} {v : Value} {xs : List Int} {ps : List Page} (h : AL w b v xs) (hp : LD w b' (.slice (some ⟨g,0,none⟩) n cap) ps) : v.ownBlock = none ∨ v.ownBlock ≠ some g:=by
 refine .inr fun e => ?_
 obtain ⟨cells,hc1⟩:=Dy h g e
 obtain ⟨inner,ho2⟩:=Kd.LC hp
 obtain ⟨cells2,hc2⟩:=Dy ho2 g rfl
 rw [hc1] at hc2
 injection hc2 with h1
 injection h1 with _ h2
 exact absurd h2 (by decide)
theorem Mv {w w1 : World} {b b' g n cap : Nat} {v : Value} {xs : List Int} {ps : List Page} (h : AL w b v xs) (hp : LD w b' (.slice (some ⟨g,0,none⟩) n cap) ps) (hg : w.grownBy w1 (some g)) : AL w1 b v xs:=Vn h hg (Vo h hp)
theorem Qf {w : World} {b n c : Nat} {A : Option Addr} {xs : List Int} (h : AL w b (.slice A n c) xs) : Kd.C (Kd.int .i64) w A xs.length xs:=by
 obtain ⟨A1,c1,e,_,hC⟩:=h.reads
 injection e with e1
 subst e1
 exact hC
set_option maxHeartbeats 2000000 in
theorem QI (r : Rec) (n : Int) (w : World) : Calls Tryz.prog 145 #[r.val, .int .i64 n] w fun e w' => e = .returned (Bz r n).val ∧ Below w.heap.size w w':=by
 go_enter Tryz.func145,Tryz.ntmps145
 go_wp2
 exact bodyPost_ret (v:=(Bz r n).val) (by simp [results,Tryz.results145,go_sem,Bz]) rfl ⟨rfl,by go_grown⟩
theorem Ro {P : Program} {c : Code} {Q : Exit → Act → World → Prop} {a : Act} {w : World} (r : Rec) (h : ∀ w1,Below w.heap.size w w1 → w1.heap.size = w.heap.size + 1 → GA w1 ⟨w.heap.size,0,none⟩ r → c.wp P Q a w1) : c.wp P Q a (w.alloc (.cells #[.int .i64 r.kind, .int .i64 r.tx, .int .i64 r.page, .int .i64 r.slot, .int .i64 r.old, .int .i64 r.new, .int .i64 r.prev, .int .i64 r.next] 73)):=
 h _ ((Below.refl _ _).alloc (Nat.le_refl _) _) (BJ _ _) (GR w r)
theorem MG {ms : List Nat} {j : Nat} (h : j < ms.length) : iv (ints ms) j = (ms[j] : Int):=by
 simp [iv,ints,List.getD_eq_getElem?_getD,h]
set_option maxRecDepth 100000 in
set_option maxHeartbeats 4000000 in
theorem Qr {w0 w : World} {B : Option Addr} {d g cap : Nat} {ps : List Page} {l : List Rec} {b : Bool} (hv : Js l ps = b) (hg : geo ps) (hl : AB l = true) (hO : LD w w0.heap.size (.slice (some ⟨g,0,none⟩) 5 cap) ps) (hb : Below w0.heap.size w0 w) (hr2 : Kd.C Ca w0 B l.length l) : Calls Tryz.prog 124 #[.slice (some ⟨g,0,none⟩) 5 cap, .slice B l.length d] w fun e w' => e = .returned (.bool b) ∧ Below w0.heap.size w0 w':=by
 have HR2:=As hr2
 have HB0:=As hb
 have HG:=As hg
 have HL:=As hl
 have HO0:=As hO
 have HVV:=As hv
 have hm:=Bo hl
 have hgb : w0.heap.size ≤ g:=by
  obtain ⟨inner,ho⟩:=Kd.LC hO
  exact Ck ho g rfl
 obtain ⟨xs,hxs⟩ : ∃ xs,BX l 3 = xs:=⟨_,rfl⟩
 have hol:=Hr l 3
 rw [hxs] at hol
 have HXS:=As hxs
 clear hr2 hb hl hg hO hv hxs
 go_enter Tryz.func124,Tryz.ntmps124
 go_wp2_with (go_at_call 42;refine (FD HB0.out HR2.out).mono ?_;rintro e w1 ⟨v,rfl,ho,hb1⟩;rw [HXS.out] at ho;obtain ⟨A1,c1,rfl, -, -⟩:=ho.reads;have HXO:=As (ho.lower HB0.out.size);have HB1:=As (bj HB0.out hb1);have HO1:=As (Kd.Ct HO0.out hb1);clear ho hb1)
 go_loopw [14] (fun i wr => ∃ (k : Nat) (psk : List Page),k ≤ xs.length ∧ i = .int .i64 (k : Int) ∧ Aa (geo psk) ∧ Aa (LD wr w0.heap.size (.slice (some ⟨g,0,none⟩) 5 cap) psk) ∧ Aa (Js l ps = FI l psk (LJ l (xs.drop k))) ∧ Aa (AL wr w0.heap.size (.slice A1 xs.length c1) xs) ∧ Aa (Below w0.heap.size w0 wr)) (fun i _ => (xs.length - intOf i).toNat)
 case atStart => exact ⟨0,ps,by omega,rfl,HG,HO1,⟨by rw [List.drop_zero, ← HXS.out];rfl⟩,HXO,HB1⟩
 case round =>
  obtain ⟨k,psk,hk,rfl,HGp,HOp,HT,HXp,HW⟩:=hrel
  by_cases hlt : k < xs.length
  ·obtain ⟨ad,rfl,g0⟩:=Dj (Qf HXp.out) k hlt
   have HD:=As (JI hlt)
   obtain ⟨ms,hms⟩ : ∃ ms,D8 l (Ai l (iv xs k) l.length) = ms:=⟨_,rfl⟩
   have hml:=Me (l:=l) (Ai l (iv xs k) l.length)
   have hll:=Bc l (iv xs k) l.length
   rw [hms] at hml
   have HMM:=As (Uc HL.out _ hll)
   rw [hms] at HMM
   have HMN:=As hms
   clear hms
   go_wp2_with (go_at_call 148;refine (NM (iv xs k) HW.out HR2.out HL.out).mono ?_;rintro e w2 ⟨v,rfl,ho,hb2⟩;rw [HMN.out] at ho;obtain ⟨A2,c2,rfl, -, -⟩:=ho.reads;have HMO:=As (ho.lower HW.out.size);have HB2:=As (bj HW.out hb2);have HO2:=As (Kd.Ct HOp.out hb2);have HX2:=As (HXp.out.below hb2);clear ho hb2;simp only [ints,List.length_map])
   go_loopw [22] (fun i wi => ∃ (j : Nat) (cur : List Page),j ≤ ms.length ∧ i = .int .i64 (j : Int) ∧ Aa (geo cur) ∧ Aa (LD wi w0.heap.size (.slice (some ⟨g,0,none⟩) 5 cap) cur) ∧ Aa (Js l ps = FI l cur (ms.drop j ++ LJ l (xs.drop (k + 1)))) ∧ Aa (AL wi w0.heap.size (.slice (some ad) xs.length c1) xs) ∧ Aa (AL wi w0.heap.size (.slice A2 (ints ms).length c2) (ints ms)) ∧ Aa (Below w0.heap.size w0 wi)) (fun i _ => (ms.length - intOf i).toNat)
   case atStart => exact ⟨0,psk,by omega,rfl,HGp,HO2,⟨by rw [HT.out,HD.out,List.drop_zero,LJ,List.flatMap_cons,HMN.out];rfl⟩,HX2,HMO,HB2⟩
   case round =>
    obtain ⟨j,cur,hj,rfl,HGk,HOi,HU2,HXi,HMi,HWi⟩:=hrel
    by_cases hjt : j < ms.length
    ·obtain ⟨ad2,rfl,g1⟩:=Dj (Qf HMi.out) j (by simpa [ints] using hjt)
     rw [MG hjt] at g1
     obtain ⟨n,hn⟩ : ∃ n,ms[j] = n:=⟨_,rfl⟩
     obtain ⟨hn0,hnl,hnk⟩:=HMM.out n (hn ▸ List.getElem_mem hjt)
     have HMS:=As (show ms.drop j = n :: ms.drop (j + 1) by rw [List.drop_eq_getElem_cons hjt,hn])
     rw [hn] at g1
     obtain ⟨hrok,hp0,hp5,hs3⟩:=Iz HL.out hn0 hnl hnk
     obtain ⟨m,rfl⟩ : ∃ m,n = m + 1:=⟨n - 1,by omega⟩
     obtain ⟨ad3,rfl,QR⟩:=CS (BA HR2.out HWi.out) m (by omega)
     obtain ⟨z0,z1,z2,z3,z4,z5,z6,z7⟩:=QR
     rw [show ((m + 1 : Nat) : Int) = (m : Int) + 1 from rfl] at g1
     rw [Nat.add_sub_cancel] at hrok hp0 hp5 hs3
     obtain ⟨rb,hrb⟩ : ∃ rb,Bz (rc l m) 0 = rb:=⟨_,rfl⟩
     have hpg : (rc l m).page = rb.page:=by rw [← hrb];rfl
     have hsl : (rc l m).slot = rb.slot:=by rw [← hrb];rfl
     rw [hpg] at hp0 hp5
     rw [hsl] at hs3
     have hpn : rb.page.toNat < 5:=by omega
     have HP:=As hs3
     have HRB : Aa (Bz (rc l (m + 1 - 1)) 0 = rb):=⟨by rw [Nat.add_sub_cancel];exact hrb⟩
     have HPG : Aa ((rc l (m + 1 - 1)).page.toNat = rb.page.toNat):=⟨by rw [Nat.add_sub_cancel,hpg]⟩
     have hback : ∀ w,Calls Tryz.prog 149 #[(rc l m).val, .int .i64 0] w fun e w' => e = .returned rb.val ∧ Below w.heap.size w w':=fun w => hrb ▸ Pn (rc l m) 0 w
     have HBK:=As hback
     have HT2:=HVV
     have hml2 : m < l.length:=by omega
     clear hrb hpg hsl hs3 hrok hback hn hnk hnl hn0
     go_wp2_with (first | (go_at_call 149;refine (HBK.out _).mono ?_;rintro e wb ⟨rfl,hbb⟩;have HWb:=As (bj HWi.out hbb);have HOb:=As (Kd.Ct HOi.out hbb);have HXb:=As (HXi.out.below hbb);have HMb:=As (HMi.out.below hbb);clear hbb))
     refine Ro rb (fun w3 hb2 hz2 hq2 => ?_)
     have HW3:=As (bj HWb.out hb2)
     have HO3:=As (Kd.Ct HOb.out hb2)
     have HXS3:=As (HXb.out.below hb2)
     have HMS3:=As (HMb.out.below hb2)
     have HQ3:=As hq2
     obtain ⟨x0,x1,x2,x3,x4,x5,x6,x7⟩:=hq2
     simp only [Nat.zero_add] at x1 x2 x3 x4 x5 x6 x7
     obtain ⟨A3,c3,p0,p1,p2,pC, -⟩:=XF HO3.out rb.page.toNat hpn
     have HPC:=As pC
     clear hb2 pC
     obtain ⟨q,hq⟩ : ∃ q,Bg (pg cur rb.page.toNat) rb = q:=⟨_,rfl⟩
     have HQ:=As hq
     have hg3:=FZ HGk.out hpn
     have HG3:=As hg3
     have hgw : g < w3.heap.size:=YC HO3.out g rfl
     have hcall : ∀ wx,Below w3.heap.size w3 wx → Calls Tryz.prog 126 #[(pg cur rb.page.toNat).val A3 c3,rb.val] wx (PX wx q):=fun wx hb => HQ.out ▸ LH rb (by rw [HG3.out];decide) (by rw [HG3.out];have:=HP.out;omega) hb HPC.out
     clear hq hg3
     refine AQ (fun lx a wx => (Below w0.heap.size w0 wx ∧ Below w3.heap.size w3 wx) ∧ (Sl 6 38 (fun v wx => ∃ u,v = q.own u ∧ AL wx w3.heap.size u q.vals) lx a wx ∧ Sl 7 10 (fun v wx => ∃ B,v = .pointer (some ⟨B,0,none⟩) ∧ w3.heap.size ≤ B ∧ AU wx B zp (.slice none 0 0)) lx a wx)) 8 rfl (by kernel_rfl) (⟨⟨Af HW3.out,Af (Below.refl _ _)⟩,Bb,Bb⟩) (fun HT => ?_)
     refine AX [0,1,2,3,4,5] ?_
     iterate 6 (refine AR (v:=?_) HT rfl (by kernel_rfl) rfl (kA Ae (kA (Aj rfl rfl) (Aj rfl rfl))) (by rfl) (fun _ _ _ h => h) (fun lx ax wx hS => ?_) ?_;rotate_left;(obtain ⟨⟨-,hbx⟩, -⟩:=hS;obtain ⟨x0,x1,x2,x3,x4,x5,x6,x7⟩:=HQ3.out.up hbx;simp only [Nat.zero_add] at x1 x2 x3 x4 x5 x6 x7;replace p0:=bc hbx p0;replace p1:=bc hbx p1;replace p2:=bc hbx p2;go_simp;with_reducible rfl);rotate_left;simp only [sc0,sc1])
     refine AV ?_
     refine AJ [6,7] (by kernel_rfl) (fun i hi w4 hS => ?_)
     rcases List.mem_cons.1 hi with rfl | hi
     ·refine Da (f:=126) (args:=#[(pg cur rb.page.toNat).val A3 c3,rb.val]) rfl rfl Tryz.func126 (by kernel_rfl) rfl rfl (by rfl) (by simp only [List.map_toArray,List.map_cons,List.map_nil];rfl) ((hcall w4 hS.1.2).mono ?_)
      rintro e w6 ⟨u,rfl,ho,hb⟩
      refine ⟨_,rfl,⟨⟨bj hS.1.1 hb,bj hS.1.2 hb⟩,fun _ => ⟨u,rfl,ho.lower hS.1.2.size⟩,fun h => ?_⟩,?_⟩
      ·exact (Ap h (by kernel_rfl)).elim
      simp only [sc0,sc1]
      refine AJ [7] (by kernel_rfl) (fun i hi w5 hS => ?_)
      obtain rfl:=List.mem_singleton.1 hi
      refine BH (w1:=?_) (.pointer (some ⟨w5.heap.size,0,none⟩)) rfl rfl (by rfl) ?_ ?_
      rotate_left
      ·go_simp
       with_reducible rfl
      refine ⟨⟨⟨Ab hS.1.1 _,Ab hS.1.2 _⟩,fun h => ?_,fun _ => ⟨w5.heap.size,rfl,hS.1.2.size,AU.mk1 w5 zp _⟩⟩,?_⟩
      ·obtain ⟨u1,hu1,ho1⟩:=hS.2.1 (by kernel_rfl)
       exact ⟨u1,hu1,ho1.below (Ab (Below.refl _ _) _)⟩
      simp only [sc0,sc1]
      refine BZ (i:=8) (by kernel_rfl) rfl (fun w7 hS => ?_)
      obtain ⟨⟨h1,h2⟩,h3,h4⟩:=hS
      obtain ⟨u1,hu1,hown⟩:=h3 (by kernel_rfl)
      obtain ⟨B,hB,hBle,hbox⟩:=h4 (by kernel_rfl)
      have hu1 : q.own u = q.own u1:=hu1
      obtain rfl : u = u1:=by simpa using hu1
      obtain rfl : B = w5.heap.size:=by
       have hB : Value.pointer (some ⟨w5.heap.size,0,none⟩) = .pointer (some ⟨B,0,none⟩):=hB
       injection hB with hB
       injection hB with hB
       injection hB with hB
       exact hB.symm
      have H2:=As (Cx h2 hBle q u)
      have H1:=As (Cx (g:=w5.heap.size) h1 (by have:=HW3.out.size;omega) q u)
      have HBX:=As (hbox.CK q u)
      have HU:=As (IC hown (EM hown hbox) q u)
      have HUN:=As (EM hown hbox)
      have b0:=hbox.c0
      have b1:=hbox.c1
      have b2:=hbox.c2
      have d0:=hbox.frz 0
      have d1:=hbox.frz 1
      have d2:=hbox.frz 2
      obtain ⟨A8,c8,rfl, -, -⟩:=hown.reads
      refine Bv (w1:=?_) rfl (by rfl) ?_ ?_
      rotate_left
      ·go_simp
       with_reducible rfl
      refine BM (by kernel_rfl) ?_
      clear hu1 hB h1 h2 h3 h4 hown hbox b0 b1 b2 d0 d1 d2 p0 p1 p2 hcall ho
      obtain ⟨W8,hW8⟩ : ∃ W8,CK w7 w5.heap.size q (.slice A8 q.vals.length c8) = W8:=⟨_,rfl⟩
      rw [hW8] at H1 H2 HBX HU
      have e8:=hW8
      unfold CK at e8
      rw [e8]
      clear e8 hW8
      have b0:=HBX.out.c0
      have b1:=HBX.out.c1
      have b2:=HBX.out.c2
      have d0:=HBX.out.frz 0
      obtain ⟨-, -,x2, -, -, -, -, -⟩:=HQ3.out.up H2.out
      simp only [Nat.zero_add] at x2
      have hne : wb.heap.size ≠ w5.heap.size:=by omega
      have hne2 : w5.heap.size ≠ wb.heap.size:=by omega
      have hne3 : g ≠ w5.heap.size:=by omega
      have HLB:=As hBle
      have HLN:=As hpn
      cases hv : Bt q
      ·have HV:=As hv
       clear hv
       go_wp2_with (go_at_call 101;refine (DZ HV.out (Below.refl _ _) (Qf HU.out)).mono ?_;rintro e wp ⟨rfl,hbp⟩;have H1p:=As (bj H1.out hbp);clear hbp)
       go_ret
       exact ⟨Au (by rw [← HT2.out,HU2.out,HMS.out,List.cons_append,FI,HRB.out,HPG.out,HQ.out,HV.out];rfl),H1p.out⟩
      ·have HV:=As hv
       clear hv
       go_wp2_with (first | (go_at_call 101;refine (DZ HV.out (Below.refl _ _) (Qf HU.out)).mono ?_;rintro e wp ⟨rfl,hbp⟩;have H1p:=As (bj H1.out hbp);have H2p:=As (bj H2.out hbp);have HUp:=As (HU.out.below hbp);have b0':=(HBX.out.up hbp).c0;have b1':=(HBX.out.up hbp).c1;have b2':=(HBX.out.up hbp).c2;obtain ⟨-, -,x2', -, -, -, -, -⟩:=HQ3.out.up H2p.out;simp only [Nat.zero_add] at x2';clear hbp) | (with_reducible refine Ph (.store 41 (.tmp 46) (.tmp 45)) rfl ?_;refine NV (w0:=w0) (N:=w3.heap.size) (q:=q) rb.page.toNat (ML HGk.out) rfl rfl (.tmp 46) (.tmp 45) rfl rfl rfl HUp.out HW3.out.size (Kd.Ct HO3.out H2p.out) HLN.out H1p.out ?_;intro w9 hO9 hB9 hg9;have HX9:=As (Mv (HXS3.out.below H2p.out) (Kd.Ct HO3.out H2p.out) hg9);have HM9:=As (Mv (HMS3.out.below H2p.out) (Kd.Ct HO3.out H2p.out) hg9);have HO9:=As hO9;have HB9:=As hB9;clear hO9 hB9 hg9))
       go_roundw
       case rel => exact ⟨j + 1,cur.set rb.page.toNat q,by omega,by go_num,⟨by rw [← HQ.out];exact MK HGk.out (KQ HG3.out)⟩,HO9,⟨by rw [HU2.out,HMS.out,List.cons_append,FI,HRB.out,HPG.out,HQ.out,HV.out];rfl⟩,HX9,HM9,HB9⟩
       case measure => simp [intOf];omega
     ·obtain rfl:=List.mem_singleton.1 hi
      refine BH (w1:=?_) (.pointer (some ⟨w4.heap.size,0,none⟩)) rfl rfl (by rfl) ?_ ?_
      rotate_left
      ·go_simp
       with_reducible rfl
      refine ⟨⟨⟨Ab hS.1.1 _,Ab hS.1.2 _⟩,fun h => ?_,fun _ => ⟨w4.heap.size,rfl,hS.1.2.size,AU.mk1 w4 zp _⟩⟩,?_⟩
      ·exact (Ap h (by kernel_rfl)).elim
      simp only [sc0,sc1]
      refine AJ [6] (by kernel_rfl) (fun i hi w5 hS => ?_)
      obtain rfl:=List.mem_singleton.1 hi
      refine Da (f:=126) (args:=#[(pg cur rb.page.toNat).val A3 c3,rb.val]) rfl rfl Tryz.func126 (by kernel_rfl) rfl rfl (by rfl) (by simp only [List.map_toArray,List.map_cons,List.map_nil];rfl) ((hcall w5 hS.1.2).mono ?_)
      rintro e w6 ⟨u,rfl,ho,hb⟩
      refine ⟨_,rfl,⟨⟨bj hS.1.1 hb,bj hS.1.2 hb⟩,fun _ => ⟨u,rfl,ho.lower hS.1.2.size⟩,fun h => ?_⟩,?_⟩
      ·obtain ⟨B,hB,hBle,hbox⟩:=hS.2.2 (by kernel_rfl)
       exact ⟨B,hB,hBle,hbox.up hb⟩
      simp only [sc0,sc1]
      refine BZ (i:=8) (by kernel_rfl) rfl (fun w7 hS => ?_)
      obtain ⟨⟨h1,h2⟩,h3,h4⟩:=hS
      obtain ⟨u1,hu1,hown⟩:=h3 (by kernel_rfl)
      obtain ⟨B,hB,hBle,hbox⟩:=h4 (by kernel_rfl)
      have hu1 : q.own u = q.own u1:=hu1
      obtain rfl : u = u1:=by simpa using hu1
      obtain rfl : B = w4.heap.size:=by
       have hB : Value.pointer (some ⟨w4.heap.size,0,none⟩) = .pointer (some ⟨B,0,none⟩):=hB
       injection hB with hB
       injection hB with hB
       injection hB with hB
       exact hB.symm
      have H2:=As (Cx h2 hBle q u)
      have H1:=As (Cx (g:=w4.heap.size) h1 (by have:=HW3.out.size;omega) q u)
      have HBX:=As (hbox.CK q u)
      have HU:=As (IC hown (EM hown hbox) q u)
      have HUN:=As (EM hown hbox)
      have b0:=hbox.c0
      have b1:=hbox.c1
      have b2:=hbox.c2
      have d0:=hbox.frz 0
      have d1:=hbox.frz 1
      have d2:=hbox.frz 2
      obtain ⟨A8,c8,rfl, -, -⟩:=hown.reads
      refine Bv (w1:=?_) rfl (by rfl) ?_ ?_
      rotate_left
      ·go_simp
       with_reducible rfl
      refine BM (by kernel_rfl) ?_
      clear hu1 hB h1 h2 h3 h4 hown hbox b0 b1 b2 d0 d1 d2 p0 p1 p2 hcall ho
      obtain ⟨W8,hW8⟩ : ∃ W8,CK w7 w4.heap.size q (.slice A8 q.vals.length c8) = W8:=⟨_,rfl⟩
      rw [hW8] at H1 H2 HBX HU
      have e8:=hW8
      unfold CK at e8
      rw [e8]
      clear e8 hW8
      have b0:=HBX.out.c0
      have b1:=HBX.out.c1
      have b2:=HBX.out.c2
      have d0:=HBX.out.frz 0
      obtain ⟨-, -,x2, -, -, -, -, -⟩:=HQ3.out.up H2.out
      simp only [Nat.zero_add] at x2
      have hne : wb.heap.size ≠ w4.heap.size:=by omega
      have hne2 : w4.heap.size ≠ wb.heap.size:=by omega
      have hne3 : g ≠ w4.heap.size:=by omega
      have HLB:=As hBle
      have HLN:=As hpn
      cases hv : Bt q
      ·have HV:=As hv
       clear hv
       go_wp2_with (go_at_call 101;refine (DZ HV.out (Below.refl _ _) (Qf HU.out)).mono ?_;rintro e wp ⟨rfl,hbp⟩;have H1p:=As (bj H1.out hbp);clear hbp)
       go_ret
       exact ⟨Au (by rw [← HT2.out,HU2.out,HMS.out,List.cons_append,FI,HRB.out,HPG.out,HQ.out,HV.out];rfl),H1p.out⟩
      ·have HV:=As hv
       clear hv
       go_wp2_with (first | (go_at_call 101;refine (DZ HV.out (Below.refl _ _) (Qf HU.out)).mono ?_;rintro e wp ⟨rfl,hbp⟩;have H1p:=As (bj H1.out hbp);have H2p:=As (bj H2.out hbp);have HUp:=As (HU.out.below hbp);have b0':=(HBX.out.up hbp).c0;have b1':=(HBX.out.up hbp).c1;have b2':=(HBX.out.up hbp).c2;obtain ⟨-, -,x2', -, -, -, -, -⟩:=HQ3.out.up H2p.out;simp only [Nat.zero_add] at x2';clear hbp) | (with_reducible refine Ph (.store 41 (.tmp 46) (.tmp 45)) rfl ?_;refine NV (w0:=w0) (N:=w3.heap.size) (q:=q) rb.page.toNat (ML HGk.out) rfl rfl (.tmp 46) (.tmp 45) rfl rfl rfl HUp.out HW3.out.size (Kd.Ct HO3.out H2p.out) HLN.out H1p.out ?_;intro w9 hO9 hB9 hg9;have HX9:=As (Mv (HXS3.out.below H2p.out) (Kd.Ct HO3.out H2p.out) hg9);have HM9:=As (Mv (HMS3.out.below H2p.out) (Kd.Ct HO3.out H2p.out) hg9);have HO9:=As hO9;have HB9:=As hB9;clear hO9 hB9 hg9))
       go_roundw
       case rel => exact ⟨j + 1,cur.set rb.page.toNat q,by omega,by go_num,⟨by rw [← HQ.out];exact MK HGk.out (KQ HG3.out)⟩,HO9,⟨by rw [HU2.out,HMS.out,List.cons_append,FI,HRB.out,HPG.out,HQ.out,HV.out];rfl⟩,HX9,HM9,HB9⟩
       case measure => simp [intOf];omega
    ·have HJ:=As (show j = ms.length by omega)
     go_wp2
     go_roundw
     case rel => exact ⟨k + 1,cur,by omega,by go_num,HGk,HOi,⟨by rw [HU2.out,HJ.out,List.drop_length,List.nil_append]⟩,HXi,HWi⟩
     case measure => simp [intOf];omega
  ·have HE:=As (show k = xs.length by omega)
   go_wp2
   go_ret
   exact ⟨Au (by rw [← HVV.out,HT.out,HE.out,List.drop_length];rfl),HW.out⟩
def IQ (l : List Rec) : Nat → List Nat
 | 0 => []
 | j + 1 => D8 l (Ai l (3 - j : Int) l.length) ++ IQ l j
theorem Kh (l : List Rec) : ∀ j,LJ l (BX l j) = IQ l j
 | 0 => rfl
 | j + 1 => by
  have ih:=Kh l j
  unfold BX IQ
  split
  ·rename_i h
   rw [h,Db,List.nil_append,List.nil_append,ih]
  ·rw [LJ,List.flatMap_append]
   rw [LJ] at ih
   rw [ih]
   simp
theorem AL.form {w : World} {b : Nat} {v : Value} {xs : List Int} (h : AL w b v xs) : (v = .slice none 0 0 ∧ xs = []) ∨ ∃ g cap cur,v = .slice (some ⟨g,0,none⟩) xs.length cap ∧ b ≤ g ∧ w.heap[g]? = some (.cells cur 3 (0,0)) ∧ xs.length ≤ cap ∧ cap ≤ maxLen ∧ cur.size = cap * 1 ∧ cur.toList.take xs.length = xs.map (Value.int .i64):=by
 rcases h.2 with ⟨h1,h2⟩ | ⟨g,cap,cur,h1,h2,h3,h4,h5,h6,h7⟩
 ·exact .inl ⟨h1,List.eq_nil_of_length_eq_zero h2⟩
 ·exact .inr ⟨g,cap,cur,h1,h2,h3,h4,h5,h6,by rw [Nat.mul_one] at h7;exact h7⟩
def Fa (xs : List Int) : List Int:=xs.mergeSort fun x y => decide (x ≤ y)
theorem LM {w : World} {b : Nat} {v : Value} {xs : List Int} (hl : xs.length ≤ 1000) (h : AL w b v xs) : Calls Tryz.prog 98 #[v] w fun e w' => e = .returned (.tuple #[]) ∧ AL w' b v (Fa xs) ∧ w.grownBy w' v.ownBlock:=by
 rcases h.form with ⟨rfl,rfl⟩ | ⟨g,cap,cur,rfl,h2,h3,h4,h5,h6,h7⟩
 ·refine (Tryz.slices_Sort_int_none none 0 w).mono fun e w' ⟨he,hw⟩ => ⟨he,?_,?_⟩
  ·rw [hw,show Fa [] = [] by simp [Fa]];exact AL.nil _ _
  ·rw [hw];exact ⟨rfl,rfl,rfl,Nat.le_refl _,fun _ _ _ => rfl⟩
 ·have hg : g < w.heap.size:=(Array.getElem?_eq_some_iff.1 h3).1
  refine (Tryz.slices_Sort_int g 0 cap xs w (holds_of_blockI h3 h7) hg (by omega)).mono fun e w' ⟨he,n,os,hw⟩ => ⟨he,?_,?_⟩
  ·rw [hw]
   have hs : (Fa xs).length = xs.length:=List.length_mergeSort _
   have:=ownsRow_sortedI (n:=n) (os:=os) (ts:=Fa xs) hs h2 h3 h4 h5 h6
   rw [← hs] at this
   rw [AL, ← hs]
   exact this
  ·rw [hw];exact grownBy_sortedI _
theorem Wy (d : Array Int) : ∀ n j,j < n → d[j]! ∈ Go.Lib.compactUpTo d n:=by
 intro n
 induction n with
 | zero => intro j hj;omega
 | succ n ih =>
  intro j hj
  rw [Go.Lib.compactUpTo_succ,List.mem_append]
  by_cases e : j < n
  ·exact .inl (ih j e)
  ·obtain rfl : j = n:=by omega
   by_cases hk : Go.Lib.keeps d j = true
   ·exact .inr (by simp [hk])
   ·left
    have h1 : ¬ (j = 0 ∨ d[j]! ≠ d[j - 1]!):=by simpa [Go.Lib.keeps] using hk
    have h2 : d[j]! = d[j - 1]!:=by
     by_cases h : d[j]! = d[j - 1]!
     ·exact h
     ·exact absurd (.inr h) h1
    have h3 : j ≠ 0:=fun h => h1 (.inl h)
    rw [h2]
    exact ih (j - 1) (by omega)
theorem O8 (zs : List Int) (x : Int) : x ∈ Go.Lib.compact zs ↔ x ∈ zs:=by
 constructor
 ·intro h
  unfold Go.Lib.compact Go.Lib.compactUpTo at h
  obtain ⟨j,hj,rfl⟩:=List.mem_map.1 h
  have hj : j < zs.length:=by simpa using (List.mem_filter.1 hj).1
  simp [hj]
 ·intro h
  obtain ⟨j,hj,rfl⟩:=List.getElem_of_mem h
  have:=Wy zs.toArray zs.length j hj
  rw [show zs.toArray[j]! = zs[j] by simp [hj]] at this
  exact this
theorem IX {w : World} {b : Nat} {v : Value} {xs : List Int} (hl : xs.length ≤ 1000) (h : AL w b v xs) : Calls Tryz.prog 100 #[v] w fun e w' => ∃ v',e = .returned v' ∧ AL w' b v' (Go.Lib.compact xs) ∧ w.grownBy w' v.ownBlock:=by
 rcases h.form with ⟨rfl,rfl⟩ | ⟨g,cap,cur,rfl,h2,h3,h4,h5,h6,h7⟩
 ·refine (Tryz.slices_Compact_int_empty none 0 w).mono fun e w' ⟨he,hw⟩ => ⟨_,he,?_,?_⟩
  ·rw [hw];exact AL.nil _ _
  ·rw [hw];exact ⟨rfl,rfl,rfl,Nat.le_refl _,fun _ _ _ => rfl⟩
 ·refine (Tryz.slices_Compact_int g 0 cap xs w (holds_of_blockI h3 h7) (by omega) h4).mono fun e w' ⟨he,n,hw⟩ => ⟨_,he,?_,?_⟩
  ·have hc:=Go.Lib.compact_length_le xs
   obtain ⟨ys,hys⟩ : ∃ ys,Go.Lib.compact xs ++ List.replicate (xs.length - (Go.Lib.compact xs).length) (0 : Int) = ys:=⟨_,rfl⟩
   have hyl : ys.length = xs.length:=by rw [← hys];simp;omega
   have:=ownsRow_sortedI (n:=n) (os:=#[]) (ts:=ys) hyl h2 h3 h4 h5 h6
   rw [Go.Sort.grow_empty] at this
   rw [hw,hys]
   have ht:=Ws this hc
   rw [Nat.mul_one] at ht
   have hy2 : (ys.map (Value.int .i64)).take (Go.Lib.compact xs).length = nums .i64 (Go.Lib.compact xs):=by
    rw [← hys,List.map_append,List.take_left' (by simp)]
    rfl
   rw [hy2] at ht
   exact ht
  ·rw [hw]
   have:=grownBy_sortedI (w:=w) (g:=g) (n:=n) (os:=#[]) (Go.Lib.compact xs ++ List.replicate (xs.length - (Go.Lib.compact xs).length) (0 : Int)).toArray
   rw [Go.Sort.grow_empty] at this
   exact this
theorem VJ (r : Rec) (w : World) : Calls Tryz.prog 47 #[r.val] w fun e w' => e = .returned (.bool true) ∧ Below w.heap.size w w':=by
 go_enter Tryz.func47,Tryz.ntmps47
 go_wp2
 go_ret
 exact ⟨rfl,by go_grown⟩
theorem IE {r : Rec} {b : Bool} (hv : (r.kind == 3) = b) (w : World) : Calls Tryz.prog 59 #[r.val] w fun e w' => e = .returned (.bool b) ∧ Below w.heap.size w w':=by
 subst hv
 go_enter Tryz.func59,Tryz.ntmps59
 go_wp2
 go_ret
 exact ⟨rfl,by go_grown⟩
theorem M6 {w : World} {A : Option Addr} {n c : Nat} (hm : n ≤ 9223372036854775807) (h : n ≤ c) : Calls Tryz.prog 99 #[.slice A n c] w fun e w' => e = .returned (.slice A n n) ∧ w = w':=by
 go_enter Tryz.func99,Tryz.ntmps99
 go_wp2
 all_goals (go_ret;exact ⟨rfl,rfl⟩)
def Xy (w : World) (xs : List Int) (e : Ending) (w' : World) : Prop := ∃ A c,e = .returned (.slice A xs.length c) ∧ Kd.C (Kd.int .i64) w' A xs.length xs ∧ Below w.heap.size w w'
def Bf (l : List Rec) (hold : Rec → Bool) (ks : List Nat) : List Int:=(ks.filter fun m => hold (rc l (m - 1))).map fun m => (rc l (m - 1)).page
def isLoad (r : Rec) : Bool:=r.kind == 3
theorem Lb {l : List Rec} (hl : AB l = true) (n : Nat) : n ≤ l.length → ∀ m ∈ BD l n,0 < m ∧ m ≤ l.length:=by
 induction n using Nat.strongRecOn with
 | _ n ih =>
  intro hn m hm
  match n with
  | 0 => rw [Cs] at hm;cases hm
  | n + 1 =>
   have F:=Aq hl (k:=n) (by omega)
   have h5:=F.prev_le
   rw [Eh h5] at hm
   rcases List.mem_cons.1 hm with rfl | hm
   ·omega
   ·exact ih _ (by omega) (by omega) m hm
set_option maxHeartbeats 4000000 in
theorem Kr {w0 w : World} {A : Option Addr} {c : Nat} {l : List Rec} (tx : Int) (hb : Below w0.heap.size w0 w) (hr : Kd.C Ca w0 A l.length l) (hl : AB l = true) : Calls Tryz.prog 46 #[.slice A l.length c, .int .i64 tx, .func (.func 47) #[] #[]] w (Xy w (Go.Lib.compact (Fa (Bf l (fun _ => true) (BD l (Ai l tx l.length)))))):=by
 have HR:=As hr
 have HB:=As hb
 have HL:=As hl
 have hm:=Bo hl
 obtain ⟨ks,hks⟩ : ∃ ks,BD l (Ai l tx l.length) = ks:=⟨_,rfl⟩
 have hkl:=Ip (l:=l) (Ai l tx l.length)
 have hll:=Bc l tx l.length
 rw [hks] at hkl
 have HKS:=As hks
 have HMM:=As (Lb hl _ hll)
 rw [hks] at HMM
 clear hr hb hl hks
 go_enter Tryz.func46,Tryz.ntmps46
 go_wp2_with (go_at_call 97;refine (II tx HB.out HR.out HL.out).mono ?_;rintro e w1 ⟨v,rfl,ho,hb1⟩;rw [HKS.out] at ho;obtain ⟨A1,c1,rfl, -,hC⟩:=ho.reads;have HC:=As hC;have HX:=As hb1;clear ho hb1 hC;simp only [ints,List.length_map])
 go_loopw [7,15] (fun v i wr => ∃ j : Nat,j ≤ ks.length ∧ i = .int .i64 (j : Int) ∧ Aa (AL wr w1.heap.size v (Bf l (fun _ => true) (ks.take j))) ∧ Aa (Below w1.heap.size w1 wr)) (fun _ i _ => (ks.length - intOf i).toNat)
 case atStart => exact ⟨0,by omega,rfl,⟨AL.nil _ _⟩,⟨Below.refl _ _⟩⟩
 case round =>
  obtain ⟨j,hj,rfl,HO,HW⟩:=hrel
  have HWW:=As (bj HX.out HW.out)
  have HW0:=As (bj HB.out HWW.out)
  by_cases hlt : j < ks.length
  ·obtain ⟨ad,rfl,g0⟩:=Dj HC.out j (by simpa [ints] using hlt)
   replace g0:=bc HW.out g0
   rw [MG hlt] at g0
   obtain ⟨n,hn⟩ : ∃ n,ks[j] = n:=⟨_,rfl⟩
   obtain ⟨hn0,hnl⟩:=HMM.out n (hn ▸ List.getElem_mem hlt)
   have HT:=As (show ks.take (j + 1) = ks.take j ++ [n] by rw [List.take_succ_eq_append_getElem hlt,hn])
   rw [hn] at g0
   obtain ⟨m,rfl⟩ : ∃ m,n = m + 1:=⟨n - 1,by omega⟩
   rw [show ((m + 1 : Nat) : Int) = (m : Int) + 1 from rfl] at g0
   have hml : m < l.length:=by omega
   obtain ⟨ad2,rfl,QR⟩:=CS HR.out m hml
   obtain ⟨z0,z1,z2,z3,z4,z5,z6,z7⟩:=QR.up HW0.out
   have hpl : (Bf l (fun _ => true) (ks.take j)).length ≤ 150:=by
    rw [Bf,List.length_map]
    refine Nat.le_trans (List.length_filter_le _ _) ?_
    rw [List.length_take]
    omega
   have HPL:=As hpl
   clear hn hn0 hnl hpl QR
   go_wp2_with (first | (with_reducible refine CJ (rc l m) ?_;intro w2 hb2 hz2 hq2;have HW3:=As (bj HW.out hb2);have HO3:=As (AL.below HO.out hb2);have HQ3:=As hq2;obtain ⟨x0,x1,x2,x3,x4,x5,x6,x7⟩:=hq2;simp only [Nat.zero_add] at x1 x2 x3 x4 x5 x6 x7;clear hb2) | (go_at_call 47;refine (VJ (rc l m) _).mono ?_;rintro e w3 ⟨rfl,hb3⟩;have HW2:=As (bj HW3.out hb3);have HO2:=As (AL.below HO3.out hb3);obtain ⟨-, -,y2, -, -, -, -, -⟩:=HQ3.out.up hb3;simp only [Nat.zero_add] at y2;clear hb3) | (at_builtin;(refine Dx w1.heap.size rfl (.tmp 27) (.tmp 30) 32 3 .i64 8 rfl Ei FX (by omega) _ (Bf l (fun _ => true) (ks.take j)) (rc l m).page rfl rfl HO2.out HW2.out HW2.out.size (by have:=HPL.out;omega) ?_;intro v1 w4 hown1 hb1 _ _;have HO4:=As hown1;have HW4:=As hb1;clear hown1 hb1)))
   go_roundw
   case rel => exact ⟨j + 1,by omega,by go_num,⟨by rw [HT.out,show Bf l (fun _ => true) (ks.take j ++ [m + 1]) = Bf l (fun _ => true) (ks.take j) ++ [(rc l m).page] by simp [Bf]];exact HO4.out⟩,HW4⟩
   case measure => simp [intOf];omega
  ·have HE:=As (show j = ks.length by omega)
   have hps : (Bf l (fun _ => true) (ks.take j)).length ≤ 150:=by
    rw [Bf,List.length_map]
    refine Nat.le_trans (List.length_filter_le _ _) ?_
    rw [List.length_take]
    omega
   have HPS:=As hps
   clear hps
   go_wp2_with (first | (go_at_call 98;refine (LM (by have:=HPS.out;omega) HO.out).mono ?_;rintro e w5 ⟨rfl,ho,hg⟩;have HW5:=As (HW.out.grown hg HW.out.size (fun k hk => HO.out.base hk));have HO5:=As ho;clear ho hg) | (go_at_call 100;refine (IX (by have:=HPS.out;rw [Fa,List.length_mergeSort];omega) HO5.out).mono ?_;rintro e w6 ⟨v6,rfl,ho,hg⟩;have HW6:=As (HW5.out.grown hg HW5.out.size (fun k hk => HO5.out.base hk));obtain ⟨A6,c6,rfl,hc6,hC6⟩:=ho.reads;have HC6:=As hC6;have HL6:=As hc6;clear ho hg hC6 hc6) | (go_at_call 99;refine (M6 (Cg HC6.out).2 HL6.out).mono ?_;rintro e w7 ⟨rfl,rfl⟩))
   go_ret
   have hj : ks.take j = BD l (Ai l tx l.length):=by rw [HE.out,List.take_length,HKS.out]
   rw [← hj]
   exact ⟨A6,_,rfl,HC6.out,bj HX.out HW6.out⟩
set_option maxHeartbeats 4000000 in
theorem Nu {w0 w : World} {A : Option Addr} {c : Nat} {l : List Rec} (tx : Int) (hb : Below w0.heap.size w0 w) (hr : Kd.C Ca w0 A l.length l) (hl : AB l = true) : Calls Tryz.prog 46 #[.slice A l.length c, .int .i64 tx, .func (.func 59) #[] #[]] w (Xy w (Go.Lib.compact (Fa (Bf l (isLoad) (BD l (Ai l tx l.length)))))):=by
 have HR:=As hr
 have HB:=As hb
 have HL:=As hl
 have hm:=Bo hl
 obtain ⟨ks,hks⟩ : ∃ ks,BD l (Ai l tx l.length) = ks:=⟨_,rfl⟩
 have hkl:=Ip (l:=l) (Ai l tx l.length)
 have hll:=Bc l tx l.length
 rw [hks] at hkl
 have HKS:=As hks
 have HMM:=As (Lb hl _ hll)
 rw [hks] at HMM
 clear hr hb hl hks
 go_enter Tryz.func46,Tryz.ntmps46
 go_wp2_with (go_at_call 97;refine (II tx HB.out HR.out HL.out).mono ?_;rintro e w1 ⟨v,rfl,ho,hb1⟩;rw [HKS.out] at ho;obtain ⟨A1,c1,rfl, -,hC⟩:=ho.reads;have HC:=As hC;have HX:=As hb1;clear ho hb1 hC;simp only [ints,List.length_map])
 go_loopw [7,15] (fun v i wr => ∃ j : Nat,j ≤ ks.length ∧ i = .int .i64 (j : Int) ∧ Aa (AL wr w1.heap.size v (Bf l (isLoad) (ks.take j))) ∧ Aa (Below w1.heap.size w1 wr)) (fun _ i _ => (ks.length - intOf i).toNat)
 case atStart => exact ⟨0,by omega,rfl,⟨AL.nil _ _⟩,⟨Below.refl _ _⟩⟩
 case round =>
  obtain ⟨j,hj,rfl,HO,HW⟩:=hrel
  have HWW:=As (bj HX.out HW.out)
  have HW0:=As (bj HB.out HWW.out)
  by_cases hlt : j < ks.length
  ·obtain ⟨ad,rfl,g0⟩:=Dj HC.out j (by simpa [ints] using hlt)
   replace g0:=bc HW.out g0
   rw [MG hlt] at g0
   obtain ⟨n,hn⟩ : ∃ n,ks[j] = n:=⟨_,rfl⟩
   obtain ⟨hn0,hnl⟩:=HMM.out n (hn ▸ List.getElem_mem hlt)
   have HT:=As (show ks.take (j + 1) = ks.take j ++ [n] by rw [List.take_succ_eq_append_getElem hlt,hn])
   rw [hn] at g0
   obtain ⟨m,rfl⟩ : ∃ m,n = m + 1:=⟨n - 1,by omega⟩
   rw [show ((m + 1 : Nat) : Int) = (m : Int) + 1 from rfl] at g0
   have hml : m < l.length:=by omega
   obtain ⟨ad2,rfl,QR⟩:=CS HR.out m hml
   obtain ⟨z0,z1,z2,z3,z4,z5,z6,z7⟩:=QR.up HW0.out
   have hpl : (Bf l (isLoad) (ks.take j)).length ≤ 150:=by
    rw [Bf,List.length_map]
    refine Nat.le_trans (List.length_filter_le _ _) ?_
    rw [List.length_take]
    omega
   have HPL:=As hpl
   clear hn hn0 hnl hpl QR
   cases hv : (rc l m).kind == 3
   ·have HV:=As hv
    clear hv
    go_wp2_with (first | (with_reducible refine CJ (rc l m) ?_;intro w2 hb2 hz2 hq2;have HW3:=As (bj HW.out hb2);have HO3:=As (AL.below HO.out hb2);have HQ3:=As hq2;obtain ⟨x0,x1,x2,x3,x4,x5,x6,x7⟩:=hq2;simp only [Nat.zero_add] at x1 x2 x3 x4 x5 x6 x7;clear hb2) | (go_at_call 59;refine (IE HV.out _).mono ?_;rintro e w3 ⟨rfl,hb3⟩;have HW2:=As (bj HW3.out hb3);have HO2:=As (AL.below HO3.out hb3);obtain ⟨-, -,y2, -, -, -, -, -⟩:=HQ3.out.up hb3;simp only [Nat.zero_add] at y2;clear hb3))
    go_roundw
    case rel => exact ⟨j + 1,by omega,by go_num,⟨by rw [HT.out,show Bf l isLoad (ks.take j ++ [m + 1]) = Bf l isLoad (ks.take j) by have hv:=HV.out;simp [Bf,List.filter_append,isLoad,hv]];exact HO2.out⟩,HW2⟩
    case measure => simp [intOf];omega
   ·have HV:=As hv
    clear hv
    go_wp2_with (first | (with_reducible refine CJ (rc l m) ?_;intro w2 hb2 hz2 hq2;have HW3:=As (bj HW.out hb2);have HO3:=As (AL.below HO.out hb2);have HQ3:=As hq2;obtain ⟨x0,x1,x2,x3,x4,x5,x6,x7⟩:=hq2;simp only [Nat.zero_add] at x1 x2 x3 x4 x5 x6 x7;clear hb2) | (go_at_call 59;refine (IE HV.out _).mono ?_;rintro e w3 ⟨rfl,hb3⟩;have HW2:=As (bj HW3.out hb3);have HO2:=As (AL.below HO3.out hb3);obtain ⟨-, -,y2, -, -, -, -, -⟩:=HQ3.out.up hb3;simp only [Nat.zero_add] at y2;clear hb3) | (at_builtin;(refine Dx w1.heap.size rfl (.tmp 27) (.tmp 30) 32 3 .i64 8 rfl Ei FX (by omega) _ (Bf l (isLoad) (ks.take j)) (rc l m).page rfl rfl HO2.out HW2.out HW2.out.size (by have:=HPL.out;omega) ?_;intro v1 w4 hown1 hb1 _ _;have HO4:=As hown1;have HW4:=As hb1;clear hown1 hb1)))
    go_roundw
    case rel => exact ⟨j + 1,by omega,by go_num,⟨by rw [HT.out,show Bf l isLoad (ks.take j ++ [m + 1]) = Bf l isLoad (ks.take j) ++ [(rc l m).page] by have hv:=HV.out;simp [Bf,List.filter_append,isLoad,hv]];exact HO4.out⟩,HW4⟩
    case measure => simp [intOf];omega
  ·have HE:=As (show j = ks.length by omega)
   have hps : (Bf l (isLoad) (ks.take j)).length ≤ 150:=by
    rw [Bf,List.length_map]
    refine Nat.le_trans (List.length_filter_le _ _) ?_
    rw [List.length_take]
    omega
   have HPS:=As hps
   clear hps
   go_wp2_with (first | (go_at_call 98;refine (LM (by have:=HPS.out;omega) HO.out).mono ?_;rintro e w5 ⟨rfl,ho,hg⟩;have HW5:=As (HW.out.grown hg HW.out.size (fun k hk => HO.out.base hk));have HO5:=As ho;clear ho hg) | (go_at_call 100;refine (IX (by have:=HPS.out;rw [Fa,List.length_mergeSort];omega) HO5.out).mono ?_;rintro e w6 ⟨v6,rfl,ho,hg⟩;have HW6:=As (HW5.out.grown hg HW5.out.size (fun k hk => HO5.out.base hk));obtain ⟨A6,c6,rfl,hc6,hC6⟩:=ho.reads;have HC6:=As hC6;have HL6:=As hc6;clear ho hg hC6 hc6) | (go_at_call 99;refine (M6 (Cg HC6.out).2 HL6.out).mono ?_;rintro e w7 ⟨rfl,rfl⟩))
   go_ret
   have hj : ks.take j = BD l (Ai l tx l.length):=by rw [HE.out,List.take_length,HKS.out]
   rw [← hj]
   exact ⟨A6,_,rfl,HC6.out,bj HX.out HW6.out⟩
theorem JJ (l : List Rec) (n : Nat) (p : Int) : (Go.Lib.compact (Fa (Bf l (fun _ => true) (BD l n)))).contains p = GH l n p:=by
 rw [Bool.eq_iff_iff,List.contains_iff_mem,O8,Fa,List.mem_mergeSort,GH,List.any_eq_true,Bf,List.mem_map]
 simp
theorem Lx (l : List Rec) (n : Nat) (p : Int) : (Go.Lib.compact (Fa (Bf l isLoad (BD l n)))).contains p = Fg l n p:=by
 rw [Bool.eq_iff_iff,List.contains_iff_mem,O8,Fa,List.mem_mergeSort,Fg,List.any_eq_true,Bf,List.mem_map]
 simp [isLoad,and_assoc]
def FO (l : List Rec) (page : Int) : List Int → Int → Bool → Int × Bool
 | [],by_,ok => (by_,ok)
 | tx :: txs,by_,ok => if GH l (Ai l tx l.length) page = true then FO l page txs tx (by_ == 0) else FO l page txs by_ ok
def YM (w : World) (r : Int × Bool) (e : Ending) (w' : World) : Prop:=e = .returned (.tuple #[.int .i64 r.1, .bool r.2]) ∧ Below w.heap.size w w'
set_option maxHeartbeats 4000000 in
theorem Eg {w0 w : World} {A : Option Addr} {c : Nat} {l : List Rec} (page : Int) (hb : Below w0.heap.size w0 w) (hr : Kd.C Ca w0 A l.length l) (hl : AB l = true) : Calls Tryz.prog 63 #[.slice A l.length c, .int .i64 page] w (YM w (FO l page (BX l 3) 0 true)):=by
 have HR:=As hr
 have HB:=As hb
 have HL:=As hl
 have hm:=Bo hl
 obtain ⟨xs,hxs⟩ : ∃ xs,BX l 3 = xs:=⟨_,rfl⟩
 have hol:=Hr l 3
 rw [hxs] at hol
 have HXS:=As hxs
 clear hr hb hl hxs
 go_enter Tryz.func63,Tryz.ntmps63
 go_wp2_with (go_at_call 42;refine (FD HB.out HR.out).mono ?_;rintro e w1 ⟨v,rfl,ho,hb1⟩;rw [HXS.out] at ho;obtain ⟨A1,c1,rfl, -,hC⟩:=ho.reads;have HC:=As hC;have HX:=As hb1;clear ho hb1 hC)
 go_loopw [6,7,13] (fun b o i wr => ∃ (k : Nat) (bi : Int) (ok : Bool),k ≤ xs.length ∧ i = .int .i64 (k : Int) ∧ b = .int .i64 bi ∧ o = .bool ok ∧ Aa (FO l page (BX l 3) 0 true = FO l page (xs.drop k) bi ok) ∧ Aa (Below w1.heap.size w1 wr)) (fun _ _ i _ => (xs.length - intOf i).toNat)
 case atStart => exact ⟨0,0,true,by omega,rfl,rfl,rfl,⟨by rw [HXS.out,List.drop_zero]⟩,⟨Below.refl _ _⟩⟩
 case round =>
  obtain ⟨k,bi,ok,hk,rfl,rfl,rfl,HK,HW⟩:=hrel
  have HWW:=As (bj HX.out HW.out)
  have HW0:=As (bj HB.out HWW.out)
  by_cases hlt : k < xs.length
  ·obtain ⟨ad,rfl,g0⟩:=Dj HC.out k hlt
   replace g0:=bc HW.out g0
   have HD:=As (JI hlt)
   cases hv : GH l (Ai l (iv xs k) l.length) page
   all_goals
    have HV:=As hv
    clear hv
    go_wp2_with (first | (go_at_call 46;refine (Kr (iv xs k) HW0.out HR.out HL.out).mono ?_;rintro e w2 ⟨A2,c2,rfl,hC2,hb2⟩;have HC2:=As hC2;have HW2:=As (bj HW.out hb2);clear hC2 hb2) | (go_at_call 105;refine (KJ page (Below.refl _ _) HC2.out).mono ?_;rintro e w3 ⟨rfl,rfl⟩;rw [JJ,HV.out]))
    go_roundw
   case rel => exact ⟨k + 1,bi,ok,by omega,by go_num,rfl,rfl,⟨by rw [HK.out,HD.out,FO,HV.out];rfl⟩,HW2⟩
   case measure => simp [intOf];omega
   case rel => exact ⟨k + 1,iv xs k,bi == 0,by omega,by go_num,rfl,rfl,⟨by rw [HK.out,HD.out,FO,HV.out];rfl⟩,HW2⟩
   case measure => simp [intOf];omega
  ·have HE:=As (show k = xs.length by omega)
   go_wp2
   go_ret2
   exact ⟨by rw [HK.out,HE.out,List.drop_length];rfl,HWW.out⟩
set_option maxRecDepth 100000 in
set_option maxHeartbeats 4000000 in
theorem Py {w0 w : World} {A : Option Addr} {c bl bp : Nat} {l : List Rec} (tx page : Int) {b : Bool} (hv : Fg l (Ai l tx l.length) page = b) (hb : Below w0.heap.size w0 w) (hr : Kd.C Ca w0 A l.length l) (hl : AB l = true) (h1 : w.cell? ⟨bl,0,none⟩ = some (.slice A l.length c)) (h2 : w.cell? ⟨bp,0,none⟩ = some (.int .i64 page)) : Calls Tryz.prog 150 #[.int .i64 tx, .pointer (some ⟨bl,0,none⟩), .pointer (some ⟨bp,0,none⟩)] w fun e w' => e = .returned (.bool b) ∧ Below w.heap.size w w':=by
 have HR:=As hr
 have HB:=As hb
 have HL:=As hl
 have HV:=As hv
 clear hr hb hl hv
 go_enter Tryz.func150,Tryz.ntmps150
 go_wp2
 obtain ⟨zs,hzs⟩ : ∃ zs,Go.Lib.compact (Fa (Bf l isLoad (BD l (Ai l tx l.length)))) = zs:=⟨_,rfl⟩
 have HZ : Aa (zs.contains page = b):=⟨by rw [← hzs,Lx,HV.out]⟩
 have hcall : ∀ wx,Below w.heap.size w wx → Calls Tryz.prog 46 #[.slice A l.length c, .int .i64 tx, .func (.func 59) #[] #[]] wx (Xy wx zs):=fun wx hb => hzs ▸ Nu tx (bj HB.out hb) HR.out HL.out
 clear hzs
 refine AQ (fun lx a wx => Below w.heap.size w wx ∧ Sl 2 7 (fun v wx => ∃ A2 c2,v = .slice A2 zs.length c2 ∧ Kd.C (Kd.int .i64) wx A2 zs.length zs) lx a wx) 5 rfl (by kernel_rfl) (⟨Af (Below.refl _ _),Bb⟩) (fun HT => ?_)
 refine AX [0,1,3] ?_
 iterate 3 (refine AR (v:=?_) HT rfl (by kernel_rfl) rfl (kA Ae (Aj rfl rfl)) (by rfl) (fun _ _ _ h => h) (fun lx ax wx hS => ?_) ?_;rotate_left;(have hbx:=hS.1;clear hS;replace h1:=bc hbx h1;replace h2:=bc hbx h2;go_simp;with_reducible rfl);rotate_left;simp only [sc0,sc1])
 refine AV ?_
 refine C8 (i:=2) (f:=46) (args:=#[.slice A l.length c, .int .i64 tx, .func (.func 59) #[] #[]]) (fun v => ∃ A2 c2,v = .slice A2 zs.length c2) rfl (by kernel_rfl) rfl Tryz.func46 (by kernel_rfl) rfl rfl (by rfl) (by simp only [List.map_toArray,List.map_cons,List.map_nil];rfl) (fun wx hS => (hcall wx hS.1).mono (by rintro e w6 ⟨A2,c2,rfl,hC,hb⟩;exact ⟨_,rfl,⟨A2,c2,rfl⟩,bj hS.1 hb,fun _ => ⟨A2,c2,rfl,hC⟩⟩)) (fun vx hg => ?_);simp only [sc0,sc1]
 obtain ⟨A2,c2,rfl⟩:=hg
 refine C8 (i:=4) (f:=105) (args:=#[.slice A2 zs.length c2, .int .i64 page]) (fun v => v = .bool b) rfl (by kernel_rfl) rfl Tryz.func105 (by kernel_rfl) rfl rfl (by rfl) (by simp only [List.map_toArray,List.map_cons,List.map_nil];rfl) (fun wx hS => (by obtain ⟨A3,c3,e3,hC⟩:=hS.2 (by kernel_rfl);have e3 : Value.slice A2 zs.length c2 = .slice A3 zs.length c3:=e3;injection e3 with e4;subst e4;exact (KJ page (Below.refl _ _) hC).mono (by rintro e w6 ⟨rfl,rfl⟩;exact ⟨_,rfl,by rw [HZ.out],hS.1,fun _ => ⟨A2,c2,rfl,hC⟩⟩))) (fun vx hg => ?_);simp only [sc0,sc1]
 subst hg
 refine BZ (i:=5) (by kernel_rfl) rfl (fun wx hS => ?_)
 refine BH (w1:=wx) (.bool b) rfl rfl (by rfl) (by go_simp) ?_
 refine BM (by kernel_rfl) ?_
 go_wp2
 go_ret
 exact ⟨rfl,hS.1⟩
theorem Q8 (w : World) (u v : Value) (T U : Nat) (hu : u.oneCell' = true) (hv : v.oneCell' = true) : ((w.alloc (.cells #[u] T)).alloc (.cells #[v] U)).cell? ⟨w.heap.size,0,none⟩ = some u ∧ ((w.alloc (.cells #[u] T)).alloc (.cells #[v] U)).cell? ⟨w.heap.size + 1,0,none⟩ = some v:=by
 constructor <;> go_simp
def GY (l : List Rec) (page : Int) (txs : List Int) : Bool:=txs.any fun tx => Fg l (Ai l tx l.length) page
set_option maxRecDepth 100000 in
set_option maxHeartbeats 4000000 in
theorem QS {w0 w : World} {A B : Option Addr} {c d bl bp : Nat} {l : List Rec} {xs : List Int} (page : Int) (hb : Below w0.heap.size w0 w) (hr : Kd.C Ca w0 A l.length l) (hl : AB l = true) (h1 : w.cell? ⟨bl,0,none⟩ = some (.slice A l.length c)) (h2 : w.cell? ⟨bp,0,none⟩ = some (.int .i64 page)) (hx : Kd.C (Kd.int .i64) w B xs.length xs) : Calls Tryz.prog 152 #[.slice B xs.length d, .func (.func 150) #[] #[.pointer (some ⟨bl,0,none⟩), .pointer (some ⟨bp,0,none⟩)]] w (WY (GY l page xs) w):=by
 have HR:=As hr
 have HB:=As hb
 have HL:=As hl
 have HX:=As hx
 have H1:=As h1
 have H2:=As h2
 have hm:=(Cg hx).2
 clear hr hb hl hx h1 h2
 go_enter Tryz.func152,Tryz.ntmps152
 go_wp2
 go_loopw [8] (fun i wr => ∃ k : Nat,k ≤ xs.length ∧ i = .int .i64 (k : Int) ∧ Aa (GY l page xs = GY l page (xs.drop k)) ∧ Aa (Below w.heap.size w wr)) (fun i _ => (xs.length - intOf i).toNat)
 case atStart => exact ⟨0,Nat.zero_le _,rfl,⟨rfl⟩,⟨Below.refl _ _⟩⟩
 case round =>
  obtain ⟨k,hk,rfl,HK,HW⟩:=hrel
  by_cases hlt : k < xs.length
  ·obtain ⟨ad,rfl,g0⟩:=Dj HX.out k hlt
   replace g0:=bc HW.out g0
   have HD:=As (JI hlt)
   cases hp : Fg l (Ai l (iv xs k) l.length) page
   all_goals
    have HP:=As hp
    clear hp
    go_wp2_with (go_at_call 150;refine (Py (iv xs k) page HP.out (bj HB.out HW.out) HR.out HL.out (bc HW.out H1.out) (bc HW.out H2.out)).mono ?_;rintro e w1 ⟨rfl,hb1⟩;have HW1:=As (bj HW.out hb1);clear hb1)
   ·go_roundw
    case rel => exact ⟨k + 1,by omega,by go_num,⟨by rw [HK.out,HD.out,GY,List.any_cons,HP.out];rfl⟩,HW1⟩
    case measure => simp [intOf];omega
   ·go_ret
    exact ⟨k,rfl,by rw [HK.out,HD.out,GY,List.any_cons,HP.out];simp,HW1.out⟩
  ·have hke : k = xs.length:=by omega
   go_wp2
   go_ret
   exact ⟨-1,rfl,by rw [HK.out,hke,List.drop_length];rfl,HW.out⟩
theorem Oh {w0 w : World} {A B : Option Addr} {c d bl bp : Nat} {l : List Rec} {xs : List Int} (page : Int) (hb : Below w0.heap.size w0 w) (hr : Kd.C Ca w0 A l.length l) (hl : AB l = true) (h1 : w.cell? ⟨bl,0,none⟩ = some (.slice A l.length c)) (h2 : w.cell? ⟨bp,0,none⟩ = some (.int .i64 page)) (hx : Kd.C (Kd.int .i64) w B xs.length xs) : Calls Tryz.prog 133 #[.slice B xs.length d, .func (.func 150) #[] #[.pointer (some ⟨bl,0,none⟩), .pointer (some ⟨bp,0,none⟩)]] w fun e w' => e = .returned (.bool (GY l page xs)) ∧ Below w.heap.size w w':=by
 have HF:=As (QS (d:=d) page hb hr hl h1 h2 hx)
 clear hr hb hl h1 h2 hx
 go_enter Tryz.func133,Tryz.ntmps133
 go_wp2_with (go_at_call 152;refine HF.out.mono ?_;rintro e w' ⟨i,rfl,hi,hb⟩)
 go_ret
 exact ⟨by first | exact Au hi | rfl,hb⟩
theorem MC (l : List Rec) (p : Int) : ∀ j,GY l p (BX l j) = Jb l p j
 | 0 => rfl
 | j + 1 => by
  have ih:=MC l p j
  unfold BX Jb
  split
  ·rename_i h
   rw [h,LY,Bool.false_or,List.nil_append,ih]
  ·rw [GY,List.any_append]
   rw [GY] at ih
   rw [ih]
   simp
set_option maxHeartbeats 4000000 in
theorem FV {w0 w : World} {A : Option Addr} {c : Nat} {l : List Rec} (page : Int) {b : Bool} (hv : Jb l page 3 = b) (hb : Below w0.heap.size w0 w) (hr : Kd.C Ca w0 A l.length l) (hl : AB l = true) : Calls Tryz.prog 128 #[.slice A l.length c, .int .i64 page] w fun e w' => e = .returned (.bool b) ∧ Below w.heap.size w w':=by
 have HR:=As hr
 have HB:=As hb
 have HL:=As hl
 have HV:=As hv
 clear hr hb hl hv
 obtain ⟨W2,hW2⟩ : ∃ W2,(w.alloc (.cells #[.slice A l.length c] 26)).alloc (.cells #[.int .i64 page] 3) = W2:=⟨_,rfl⟩
 have hb2 : Below w.heap.size w W2:=by rw [← hW2];exact Ab (Ab (Below.refl _ _) _) _
 have hc1 : W2.cell? ⟨w.heap.size,0,none⟩ = some (.slice A l.length c):=by rw [← hW2];exact (Q8 w _ _ _ _ rfl rfl).1
 have hc2 : W2.cell? ⟨w.heap.size + 1,0,none⟩ = some (.int .i64 page):=by rw [← hW2];exact (Q8 w _ _ _ _ rfl rfl).2
 have H2:=As hW2
 have HB2:=As hb2
 have HC1:=As hc1
 have HC2:=As hc2
 clear hW2 hb2 hc1 hc2
 go_enter Tryz.func128,Tryz.ntmps128
 go_wp2_with (first | (go_at_call 42;rw [H2.out];refine (FD (bj HB.out HB2.out) HR.out).mono ?_;rintro e w3 ⟨v,rfl,ho,hb3⟩;obtain ⟨A3,c3,rfl, -,hC⟩:=ho.reads;have HC:=As hC;have HX:=As (bj HB2.out hb3);have HX3:=As hb3;clear ho hb3 hC) | (go_at_call 133;refine (Oh page (bj HB.out HX.out) HR.out HL.out (bc HX3.out HC1.out) (bc HX3.out HC2.out) HC.out).mono ?_;rintro e w4 ⟨rfl,hb4⟩;have HX4:=As (bj HX.out hb4);clear hb4))
 go_ret
 exact ⟨Au (by rw [← HV.out, ← MC]),HX4.out⟩
open Go.RowKit Go.Shelf Go.Proofs.YtofgeajaajfiaaaGreatW.PrintWords Go.Proofs.YtofgeajaajfiaaaGreatW.PrintLast Go.Proofs.YtofgeajaajfiaaaGreatW.PrintMore
attribute [local go_sem] Oper.semAt_some
def M4 (l : List Rec) (page : Int) (k : Nat) : Bool:=(rc l k).page == page && (Cw (rc l k).kind || (rc l k).kind == 3)
theorem Sn {l : List Rec} {page : Int} {n : Nat} (h : M4 l page n = true) : BK l page (n + 1) = n + 1:=by
 simp only [M4,Bool.and_eq_true,beq_iff_eq,Bool.or_eq_true] at h
 rw [BK,if_pos h]
theorem QG {l : List Rec} {page : Int} {n : Nat} (h : M4 l page n = false) : BK l page (n + 1) = BK l page n:=by
 rw [BK,if_neg]
 rintro ⟨h1,h2⟩
 have : M4 l page n = true:=by
  simp only [M4,Bool.and_eq_true,beq_iff_eq,Bool.or_eq_true]
  exact ⟨h1,h2⟩
 rw [h] at this
 cases this
theorem JE {l : List Rec} {page : Int} {n : Nat} : ∀ {k : Nat},k ≤ n → (∀ x ∈ JU n k,M4 l page x = false) → BK l page n = BK l page (n - k)
 | 0,_,_ => rfl
 | k + 1,hk,h => by
  rw [Gp] at h
  rw [JE (k:=k) (by omega) (fun x hx => h x (List.mem_append_left _ hx))]
  have h1:=h (n - 1 - k) (by simp)
  rw [show n - k = (n - (k + 1)) + 1 by omega,QG (by rw [show n - (k + 1) = n - 1 - k by omega];exact h1)]
set_option maxRecDepth 100000 in
set_option maxHeartbeats 4000000 in
theorem H6 {w0 w : World} {A : Option Addr} {c : Nat} {l : List Rec} (page : Int) (hb : Below w0.heap.size w0 w) (hr : Kd.C Ca w0 A l.length l) : Calls Tryz.prog 129 #[.slice A l.length c, .int .i64 page] w fun e w' => e = .returned (.int .i64 (BK l page l.length)) ∧ Below w.heap.size w w':=by
 have HR:=As hr
 have HB:=As hb
 have hm:=(Cg hr).2
 clear hr hb
 refine (callsIn_wide (n:=5)).1 ?_
 have hro : Fence.wide.round = none:=rfl
 have h1 : 1 ≤ 5:=by omega
 refine callsIn_of_wp_marks Tryz.func129 rfl trivial ?_ hro
 simp only [Tryz.ntmps129,List.size_toArray,List.length_cons,List.length_nil,Nat.reduceAdd,Nat.reduceSub,Array.replicate_succ,Array.replicate_zero,List.push_toArray,List.append_toArray,List.nil_append,List.cons_append]
 gi_wp2_with (refine ⟨trivial,?_⟩;gi_at_call 120;refine (UN Fence.wide _ trivial hro _ _ _ _).mono ?_;rintro e w' ⟨rfl,rfl⟩)
 have b3:=((Blk.new w 3 #[.int .i64 page]) : Blk _ _ _ _)
 obtain ⟨W0,hW0⟩ : ∃ W0,((w.alloc (.cells #[.int .i64 page] 3)).alloc (.cells #[.int .i64 0] 3)).alloc (.cells #[.slice A l.length c] 26) = W0:=⟨_,rfl⟩
 have hsz : W0.heap.size = w.heap.size + 3:=by rw [← hW0];simp
 have hB0 : Below w.heap.size w W0:=by rw [← hW0];exact (((Below.refl _ w).alloc (Nat.le_refl _) _).alloc (by simp) _).alloc (by simp;omega) _
 have bT : Blk W0 w.heap.size 3 #[.int .i64 page]:=by
  rw [← hW0];exact ((Below.heap_alloc _ _ _ (by simp;omega)).trans (Below.heap_alloc _ _ _ (by simp))).trans (World.alloc_heap_new w _)
 have bR : Boxed W0 (w.heap.size + 1) 3 (.int .i64 0):=by
  rw [← hW0];refine (Below.heap_alloc _ _ _ (by simp)).trans ?_
  have:=World.alloc_heap_new (w.alloc (.cells #[.int .i64 page] 3)) (.cells #[.int .i64 0] 3);rwa [World.size_alloc] at this
 have bS : W0.cell? ⟨w.heap.size + 1 + 1,0,none⟩ = some (.slice A l.length c):=by
  have : Boxed W0 (w.heap.size + 1 + 1) 26 (.slice A l.length c):=by
   rw [← hW0];have:=World.alloc_heap_new ((w.alloc (.cells #[.int .i64 page] 3)).alloc (.cells #[.int .i64 0] 3)) (.cells #[.slice A l.length c] 26);rwa [World.size_alloc,World.size_alloc] at this
  exact this.cell
 rw [hW0]
 clear hW0 b3
 have hw0 : Below w0.heap.size w0 W0:=bj HB.out hB0
 have HSZ:=As hsz
 refine wpIn_rangeFunc_ownH (α:=JQ l.length) hro h1 (gf:=146) (lb:=#[.pointer (some ⟨w.heap.size + 1 + 1,0,none⟩)]) rfl trivial (enters_of Tryz.func146 (by kernel_rfl) rfl)
  (Pm Fence.wide _ trivial hro (by omega) (w.heap.size + 1 + 1) W0.heap.size c A l w0 W0 HR.out hw0.size (by omega) (Nat.le_refl _) hw0 bS) belowK_t (belowK_b (Nat.le_refl _)) (Below.refl _ _) (fun _ => rfl)
  (fun pre W => (∀ x ∈ pre,M4 l page x.1 = false) ∧ Below W0.heap.size W0 W)
  (fun cc pre W => ((cc = .ret ∧ ∃ pre0 x,pre = pre0 ++ [x] ∧ (∀ y ∈ pre0,M4 l page y.1 = false) ∧ M4 l page x.1 = true) ∧ (∃ x : JQ l.length,pre.getLast? = some x ∧ Boxed W (w.heap.size + 1) 3 (.int .i64 ((x.1 : Int) + 1)))) ∧ Below w.heap.size w W)
  (OwnFrom.and (ownFrom_pure _ _) (ownFrom_below (Nat.le_refl _) (Nat.le_refl _)))
  (fun cc => OwnFrom.and (OwnFrom.and (ownFrom_pure _ _) (fun s X Y row hs hg hr => by obtain ⟨x,e1,e2⟩:=hs;exact ⟨x,e1,boxed_own _ _ (fun (_ : Unit) => _) () X Y row e2 hg (fun r e => (hr r e).2)⟩)) (ownFrom_below (Nat.le_refl _) (by omega)))
  ⟨by simp,Below.refl _ _⟩
  (fun x a' W => ∃ Bx,W0.heap.size ≤ Bx ∧ Blk W Bx 73 #[.int .i64 (rc l x.1).kind, .int .i64 (rc l x.1).tx, .int .i64 (rc l x.1).page, .int .i64 (rc l x.1).slot, .int .i64 (rc l x.1).old, .int .i64 (rc l x.1).new, .int .i64 (rc l x.1).prev, .int .i64 (rc l x.1).next] ∧ a' = { tmps:=#[.slice A l.length c, .int .i64 page,undef, .pointer (some ⟨w.heap.size,0,none⟩), .pointer (some ⟨w.heap.size + 1,0,none⟩), .int .i64 (x.1 : Nat), .pointer (some ⟨Bx,0,none⟩), .slice A l.length c, .func (.func 146) #[] #[.pointer (some ⟨w.heap.size + 1 + 1,0,none⟩)], .int .i64 (x.1 : Nat),(rc l x.1).val,undef,undef,undef,undef,undef,undef,undef,undef,undef,undef,undef,undef,undef,undef,undef],defers := [] })
  (fun x a' _ X Y row hs hg hr => by obtain ⟨Bx,e1,e2,e3⟩:=hs;exact ⟨Bx,e1,UM Bx 73 (fun (_ : Unit) => #[.int .i64 (rc l x.1).kind, .int .i64 (rc l x.1).tx, .int .i64 (rc l x.1).page, .int .i64 (rc l x.1).slot, .int .i64 (rc l x.1).old, .int .i64 (rc l x.1).new, .int .i64 (rc l x.1).prev, .int .i64 (rc l x.1).next]) () X Y row e2 hg (fun r e => (hr r e).2),e3⟩)
  ?assign ?body ?done ?stop
 all_goals clear hsz
 case assign =>
  rintro lp pre x W K ⟨hp,hB1⟩ hK
  gi_wp2
  exact hK _ _ ((KeepsOthers.alloc _ _).from _) ((Below.refl _ W).alloc hB1.size _) ⟨hp,hB1.alloc hB1.size _⟩ ⟨W.heap.size,hB1.size,Blk.new W _ _,rfl⟩
 case body =>
  rintro lp pre x a' W hlp - ⟨hp,hB1⟩ ⟨Bx,hBx,bX,rfl⟩ hlt
  obtain ⟨g0,g1,g2,g3,g4,g5,g6,g7⟩:=bX.recAt
  have cT : W.cell? ⟨w.heap.size,0,none⟩ = some (.int .i64 page):=(hB1.cell (p:=⟨w.heap.size,0,none⟩) (by show w.heap.size < _;have:=HSZ.out;omega)).trans (Boxed.cell bT)
  have bR1 : Boxed W (w.heap.size + 1) 3 (.int .i64 0):=(hB1.block _ (by have:=HSZ.out;omega)).trans bR
  have cR:=bR1.cell
  have fR:=bR1.frozen
  have h1' : 1 ≤ 5 - 1 - 1:=by omega
  have hxl : ((x.1 : Nat) : Int) < 9223372036854775807:=by have:=x.2;omega
  have hx0 : (0 : Int) ≤ ((x.1 : Nat) : Int):=Int.natCast_nonneg _
  rcases BQ (rc l x.1).page page with ⟨e1,b1,c1⟩ | ⟨e1,b1,c1⟩
  ·cases he : Cw (rc l x.1).kind
   ·have HE:=As he
    clear he
    rcases BQ (rc l x.1).kind 3 with ⟨e3,b3,c3⟩ | ⟨e3,b3,c3⟩
    ·gi_wp2_with (refine ⟨trivial,?_⟩;gi_at_call 125;refine (CallsIn.inRound lp (callsIn_wide.2 (FE (r:=rc l x.1) HE.out _))).mono ?_;rintro e w1 ⟨rfl,hb1⟩;have cR1:=CV hb1 cR;have fR1:=(hb1.frozen (p:=⟨w.heap.size + 1,0,none⟩) (World.block_lt_of_cell? _ _ cR)).trans fR;obtain ⟨y0,y1,y2,y3,y4,y5,y6,y7⟩:=GA.up ⟨g0,g1,g2,g3,g4,g5,g6,g7⟩ hb1)
     refine ⟨(Eu hb1).trans ((KeepsOthers.setCell _ _ _).from _),⟨⟨rfl,pre,x,rfl,hp,by simp [M4,b1,HE.out,b3]⟩,x,by simp,?_⟩,((hB0.trans (hB1.mono hB0.size)).trans (hb1.mono ((hB0.trans (hB1.mono hB0.size)).size))).setCell (p:=⟨w.heap.size + 1,0,none⟩) (by simp) _⟩
     exact (show Boxed w1 (w.heap.size + 1) 3 (.int .i64 0) from (hb1.block _ bR1.lt).trans bR1).set _
    ·gi_wp2_with (refine ⟨trivial,?_⟩;gi_at_call 125;refine (CallsIn.inRound lp (callsIn_wide.2 (FE (r:=rc l x.1) HE.out _))).mono ?_;rintro e w1 ⟨rfl,hb1⟩;have cR1:=CV hb1 cR;have fR1:=(hb1.frozen (p:=⟨w.heap.size + 1,0,none⟩) (World.block_lt_of_cell? _ _ cR)).trans fR;obtain ⟨y0,y1,y2,y3,y4,y5,y6,y7⟩:=GA.up ⟨g0,g1,g2,g3,g4,g5,g6,g7⟩ hb1)
     exact ⟨Eu hb1,hb1.mono hB1.size,by first | exact fun z hz => (List.mem_append.1 hz).elim (hp z) (fun e => by have e2:=List.mem_singleton.1 e;rw [e2];simp [M4,HE.out,b3]) | exact fun z hzl hz => (List.mem_append.1 hz).elim (hp ⟨z,hzl⟩) (fun e => by have e2:=List.mem_singleton.1 e;have e3 : z = x.1:=congrArg Subtype.val e2;rw [e3];simp [M4,HE.out,b3]),hB1.trans (hb1.mono hB1.size)⟩
   ·have HE:=As he
    clear he
    gi_wp2_with (refine ⟨trivial,?_⟩;gi_at_call 125;refine (CallsIn.inRound lp (callsIn_wide.2 (FE (r:=rc l x.1) HE.out _))).mono ?_;rintro e w1 ⟨rfl,hb1⟩;have cR1:=CV hb1 cR;have fR1:=(hb1.frozen (p:=⟨w.heap.size + 1,0,none⟩) (World.block_lt_of_cell? _ _ cR)).trans fR;obtain ⟨y0,y1,y2,y3,y4,y5,y6,y7⟩:=GA.up ⟨g0,g1,g2,g3,g4,g5,g6,g7⟩ hb1)
    refine ⟨(Eu hb1).trans ((KeepsOthers.setCell _ _ _).from _),⟨⟨rfl,pre,x,rfl,hp,by simp [M4,b1,HE.out]⟩,x,by simp,?_⟩,((hB0.trans (hB1.mono hB0.size)).trans (hb1.mono ((hB0.trans (hB1.mono hB0.size)).size))).setCell (p:=⟨w.heap.size + 1,0,none⟩) (by simp) _⟩
    exact (show Boxed w1 (w.heap.size + 1) 3 (.int .i64 0) from (hb1.block _ bR1.lt).trans bR1).set _
  ·gi_wp2
   refine ⟨trivial,?_⟩
   gi_wp2
   exact ⟨KeepsFrom.refl _ _,Below.refl _ _,by first | exact fun z hz => (List.mem_append.1 hz).elim (hp z) (fun e => by have e2:=List.mem_singleton.1 e;rw [e2];simp [M4,b1]) | exact fun z hzl hz => (List.mem_append.1 hz).elim (hp ⟨z,hzl⟩) (fun e => by have e2:=List.mem_singleton.1 e;have e3 : z = x.1:=congrArg Subtype.val e2;rw [e3];simp [M4,b1]),hB1⟩
 case done =>
  rintro D xs W hD hS ⟨hp,hB1⟩ hK
  have bR1 : Boxed W (w.heap.size + 1) 3 (.int .i64 0):=(hB1.block _ (by have:=HSZ.out;omega)).trans bR
  have cR:=bR1.cell
  have fR:=bR1.frozen
  gi_wp2
  have hK':=(KeepsOthers.setCell W ⟨w.heap.size + 1,0,none⟩ (.int .i64 0)).same D _ hK rfl
  refine ⟨by simp, .inl ⟨_,_,rfl,run_takeDeferred hK',?_⟩⟩
  have hc5:=cell_kept (bR1.set (.int .i64 0)).cell (grownBy_putObj' _ D (.deferred none)) (fun r e => by cases e;exact ⟨_,hK',rfl⟩)
  refine ⟨.int .i64 0,?_,?_,((hB0.trans (hB1.mono hB0.size)).setCell (p:=⟨w.heap.size + 1,0,none⟩) (by simp) _).trans (belowK_b (w:=w) (Nat.le_refl _) _ D _ _ (by have:=HSZ.out;omega) hK' rfl rfl)⟩
  ·simp [results,Tryz.f129,go_sem,hc5]
  ·refine EF ?_
   have:=JE (l:=l) (page:=page) (Nat.le_refl _) (fun y hy => by
    rw [← hS] at hy
    obtain ⟨z,hz,rfl⟩:=List.mem_map.1 hy
    exact hp z hz)
   rw [this,Nat.sub_self]
   rfl
 case stop =>
  rintro D cc pre W hD ⟨k,hk,hpk⟩ ⟨⟨⟨rfl,pre0,x,rfl,hp,hx⟩,x',hl',bR1⟩,hB1⟩ hK
  obtain rfl : x = x':=by simpa using hl'
  gi_wp2
  refine ⟨by simp, .inl ⟨_,_,rfl,run_takeDeferred hK,?_⟩⟩
  have hc5:=cell_kept bR1.cell (grownBy_putObj' _ D (.deferred none)) (fun r e => by cases e;exact ⟨_,hK,rfl⟩)
  refine ⟨.int .i64 ((x.1 : Int) + 1),?_,?_,hB1.trans (belowK_b (w:=w) (Nat.le_refl _) W D _ _ (by have:=HSZ.out;omega) hK rfl rfl)⟩
  ·simp [results,Tryz.f129,go_sem,hc5]
  ·refine EF ?_
   rw [List.map_append,List.map_cons,List.map_nil] at hpk
   have hkl : k = pre0.length + 1:=by
    have:=congrArg List.length hpk
    rw [G7] at this
    simp at this
    omega
   subst hkl
   rw [Gp] at hpk
   obtain ⟨h2,h3⟩:=List.append_inj hpk (by simp [G7])
   have hx2 : x.1 = l.length - 1 - pre0.length:=by simpa using h3
   have:=JE (l:=l) (page:=page) (n:=l.length) (k:=pre0.length) (by omega) (fun y hy => by
    rw [← h2] at hy
    obtain ⟨z,hz,rfl⟩:=List.mem_map.1 hy
    exact hp z hz)
   rw [this,show l.length - pre0.length = x.1 + 1 by have:=x.2;omega,Sn hx]
   simp
end Go.Proofs.YtofgeajaajfiaaaGreat
namespace Go.Proofs.YtofgeajaajfiaaaGreat
open Go.RowKit Go.Proofs.YtofgeajaajfiaaaGreatW.PrintWords Go.Proofs.YtofgeajaajfiaaaGreatW.PrintLast Go.Proofs.YtofgeajaajfiaaaGreatW.PrintMore
set_option maxHeartbeats 16000000 in
set_option maxRecDepth 100000 in
theorem EP {r : Rec} {b : Bool} (h : CZ r = b) (w : World) : Calls Tryz.prog 80 #[r.val] w fun e w' => e = .returned (.bool b) ∧ Below w.heap.size w w':=by
 have H:=As h
 clear h
 obtain ⟨m,hm⟩ : ∃ m : Int,(if r.slot = -1 then 3 else 9) = m:=⟨_,rfl⟩
 have HM:=As hm
 clear hm
 rcases BQ r.slot (-1) with ⟨s1,t1,u1⟩ | ⟨s1,t1,u1⟩
 ·obtain rfl : 3 = m:=by rw [← HM.out,if_pos s1.out]
  rcases BQ r.kind 1 with ⟨e1,b1,c1⟩ | ⟨e1,b1,c1⟩
  ·go_enter Tryz.func80,Tryz.ntmps80
   go_wp2
   go_quiet ((go_at_call 50;exact Calls.quiet_of_same (EG _ _ _ _)))
   go_wp2_with (first | (go_at_call 50;refine (Cn _ _ _ _).mono ?_;rintro e w' ⟨rfl,rfl⟩) | (go_at_call 62;refine (Bw _ _).mono ?_;rintro e w' ⟨rfl,rfl⟩) | (go_at_call 119;refine (Cc _ _).mono ?_;rintro e w' ⟨rfl,rfl⟩))
   all_goals (go_ret;exact ⟨Au (by rw [← H.out];simp [CZ,HM.out, *,e1.out]),BL ((Below.refl _ _).alloc (Nat.le_refl _) _) _⟩)
  ·skip
   rcases BQ r.kind 2 with ⟨e2,b2,c2⟩ | ⟨e2,b2,c2⟩
   ·go_enter Tryz.func80,Tryz.ntmps80
    go_wp2
    go_quiet ((go_at_call 50;exact Calls.quiet_of_same (EG _ _ _ _)))
    go_wp2_with (first | (go_at_call 50;refine (Cn _ _ _ _).mono ?_;rintro e w' ⟨rfl,rfl⟩) | (go_at_call 62;refine (Bw _ _).mono ?_;rintro e w' ⟨rfl,rfl⟩) | (go_at_call 119;refine (Cc _ _).mono ?_;rintro e w' ⟨rfl,rfl⟩))
    all_goals (go_ret;exact ⟨Au (by rw [← H.out];simp [CZ,HM.out, *,e2.out]),BL ((Below.refl _ _).alloc (Nat.le_refl _) _) _⟩)
   ·skip
    rcases BQ r.kind 3 with ⟨e3,b3,c3⟩ | ⟨e3,b3,c3⟩
    ·go_enter Tryz.func80,Tryz.ntmps80
     go_wp2
     go_quiet ((go_at_call 50;exact Calls.quiet_of_same (EG _ _ _ _)))
     go_wp2_with (first | (go_at_call 50;refine (Cn _ _ _ _).mono ?_;rintro e w' ⟨rfl,rfl⟩) | (go_at_call 62;refine (Bw _ _).mono ?_;rintro e w' ⟨rfl,rfl⟩) | (go_at_call 119;refine (Cc _ _).mono ?_;rintro e w' ⟨rfl,rfl⟩))
     all_goals (go_ret;exact ⟨Au (by rw [← H.out];simp [CZ,HM.out, *,e3.out]),BL ((Below.refl _ _).alloc (Nat.le_refl _) _) _⟩)
    ·skip
     rcases BQ r.kind 4 with ⟨e4,b4,c4⟩ | ⟨e4,b4,c4⟩
     ·go_enter Tryz.func80,Tryz.ntmps80
      go_wp2
      go_quiet ((go_at_call 50;exact Calls.quiet_of_same (EG _ _ _ _)))
      go_wp2_with (first | (go_at_call 50;refine (Cn _ _ _ _).mono ?_;rintro e w' ⟨rfl,rfl⟩) | (go_at_call 62;refine (Bw _ _).mono ?_;rintro e w' ⟨rfl,rfl⟩) | (go_at_call 119;refine (Cc _ _).mono ?_;rintro e w' ⟨rfl,rfl⟩))
      all_goals (go_ret;exact ⟨Au (by rw [← H.out];simp [CZ,HM.out, *,e4.out]),BL ((Below.refl _ _).alloc (Nat.le_refl _) _) _⟩)
     ·skip
      rcases BQ r.kind 5 with ⟨e5,b5,c5⟩ | ⟨e5,b5,c5⟩
      ·go_enter Tryz.func80,Tryz.ntmps80
       go_wp2
       go_quiet ((go_at_call 50;exact Calls.quiet_of_same (EG _ _ _ _)))
       go_wp2_with (first | (go_at_call 50;refine (Cn _ _ _ _).mono ?_;rintro e w' ⟨rfl,rfl⟩) | (go_at_call 62;refine (Bw _ _).mono ?_;rintro e w' ⟨rfl,rfl⟩) | (go_at_call 119;refine (Cc _ _).mono ?_;rintro e w' ⟨rfl,rfl⟩))
       all_goals (go_ret;exact ⟨Au (by rw [← H.out];simp [CZ,HM.out, *,e5.out]),BL ((Below.refl _ _).alloc (Nat.le_refl _) _) _⟩)
      ·skip
       rcases BQ r.kind 6 with ⟨e6,b6,c6⟩ | ⟨e6,b6,c6⟩
       ·go_enter Tryz.func80,Tryz.ntmps80
        go_wp2
        go_quiet ((go_at_call 50;exact Calls.quiet_of_same (EG _ _ _ _)))
        go_wp2_with (first | (go_at_call 50;refine (Cn _ _ _ _).mono ?_;rintro e w' ⟨rfl,rfl⟩) | (go_at_call 62;refine (Bw _ _).mono ?_;rintro e w' ⟨rfl,rfl⟩) | (go_at_call 119;refine (Cc _ _).mono ?_;rintro e w' ⟨rfl,rfl⟩))
        all_goals (go_ret;exact ⟨Au (by rw [← H.out];simp [CZ,HM.out, *,e6.out]),BL ((Below.refl _ _).alloc (Nat.le_refl _) _) _⟩)
       ·go_enter Tryz.func80,Tryz.ntmps80
        go_wp2
        go_quiet ((go_at_call 50;exact Calls.quiet_of_same (EG _ _ _ _)))
        go_wp2_with (first | (go_at_call 50;refine (Cn _ _ _ _).mono ?_;rintro e w' ⟨rfl,rfl⟩) | (go_at_call 62;refine (Bw _ _).mono ?_;rintro e w' ⟨rfl,rfl⟩) | (go_at_call 119;refine (Cc _ _).mono ?_;rintro e w' ⟨rfl,rfl⟩))
        all_goals (go_ret;exact ⟨Au (by rw [← H.out];simp [CZ,HM.out, *,e1.out,e2.out,e3.out,e4.out,e5.out,e6.out]),BL ((Below.refl _ _).alloc (Nat.le_refl _) _) _⟩)
 ·obtain rfl : 9 = m:=by rw [← HM.out,if_neg s1.out]
  rcases BQ r.kind 1 with ⟨e1,b1,c1⟩ | ⟨e1,b1,c1⟩
  ·go_enter Tryz.func80,Tryz.ntmps80
   go_wp2
   go_quiet ((go_at_call 50;exact Calls.quiet_of_same (EG _ _ _ _)))
   go_wp2_with (first | (go_at_call 50;refine (Cn _ _ _ _).mono ?_;rintro e w' ⟨rfl,rfl⟩) | (go_at_call 62;refine (Bw _ _).mono ?_;rintro e w' ⟨rfl,rfl⟩) | (go_at_call 119;refine (Cc _ _).mono ?_;rintro e w' ⟨rfl,rfl⟩))
   all_goals (go_ret;exact ⟨Au (by rw [← H.out];simp [CZ,HM.out, *,e1.out]),BL ((Below.refl _ _).alloc (Nat.le_refl _) _) _⟩)
  ·skip
   rcases BQ r.kind 2 with ⟨e2,b2,c2⟩ | ⟨e2,b2,c2⟩
   ·go_enter Tryz.func80,Tryz.ntmps80
    go_wp2
    go_quiet ((go_at_call 50;exact Calls.quiet_of_same (EG _ _ _ _)))
    go_wp2_with (first | (go_at_call 50;refine (Cn _ _ _ _).mono ?_;rintro e w' ⟨rfl,rfl⟩) | (go_at_call 62;refine (Bw _ _).mono ?_;rintro e w' ⟨rfl,rfl⟩) | (go_at_call 119;refine (Cc _ _).mono ?_;rintro e w' ⟨rfl,rfl⟩))
    all_goals (go_ret;exact ⟨Au (by rw [← H.out];simp [CZ,HM.out, *,e2.out]),BL ((Below.refl _ _).alloc (Nat.le_refl _) _) _⟩)
   ·skip
    rcases BQ r.kind 3 with ⟨e3,b3,c3⟩ | ⟨e3,b3,c3⟩
    ·go_enter Tryz.func80,Tryz.ntmps80
     go_wp2
     go_quiet ((go_at_call 50;exact Calls.quiet_of_same (EG _ _ _ _)))
     go_wp2_with (first | (go_at_call 50;refine (Cn _ _ _ _).mono ?_;rintro e w' ⟨rfl,rfl⟩) | (go_at_call 62;refine (Bw _ _).mono ?_;rintro e w' ⟨rfl,rfl⟩) | (go_at_call 119;refine (Cc _ _).mono ?_;rintro e w' ⟨rfl,rfl⟩))
     all_goals (go_ret;exact ⟨Au (by rw [← H.out];simp [CZ,HM.out, *,e3.out]),BL ((Below.refl _ _).alloc (Nat.le_refl _) _) _⟩)
    ·skip
     rcases BQ r.kind 4 with ⟨e4,b4,c4⟩ | ⟨e4,b4,c4⟩
     ·go_enter Tryz.func80,Tryz.ntmps80
      go_wp2
      go_quiet ((go_at_call 50;exact Calls.quiet_of_same (EG _ _ _ _)))
      go_wp2_with (first | (go_at_call 50;refine (Cn _ _ _ _).mono ?_;rintro e w' ⟨rfl,rfl⟩) | (go_at_call 62;refine (Bw _ _).mono ?_;rintro e w' ⟨rfl,rfl⟩) | (go_at_call 119;refine (Cc _ _).mono ?_;rintro e w' ⟨rfl,rfl⟩))
      all_goals (go_ret;exact ⟨Au (by rw [← H.out];simp [CZ,HM.out, *,e4.out]),BL ((Below.refl _ _).alloc (Nat.le_refl _) _) _⟩)
     ·skip
      rcases BQ r.kind 5 with ⟨e5,b5,c5⟩ | ⟨e5,b5,c5⟩
      ·go_enter Tryz.func80,Tryz.ntmps80
       go_wp2
       go_quiet ((go_at_call 50;exact Calls.quiet_of_same (EG _ _ _ _)))
       go_wp2_with (first | (go_at_call 50;refine (Cn _ _ _ _).mono ?_;rintro e w' ⟨rfl,rfl⟩) | (go_at_call 62;refine (Bw _ _).mono ?_;rintro e w' ⟨rfl,rfl⟩) | (go_at_call 119;refine (Cc _ _).mono ?_;rintro e w' ⟨rfl,rfl⟩))
       all_goals (go_ret;exact ⟨Au (by rw [← H.out];simp [CZ,HM.out, *,e5.out]),BL ((Below.refl _ _).alloc (Nat.le_refl _) _) _⟩)
      ·skip
       rcases BQ r.kind 6 with ⟨e6,b6,c6⟩ | ⟨e6,b6,c6⟩
       ·go_enter Tryz.func80,Tryz.ntmps80
        go_wp2
        go_quiet ((go_at_call 50;exact Calls.quiet_of_same (EG _ _ _ _)))
        go_wp2_with (first | (go_at_call 50;refine (Cn _ _ _ _).mono ?_;rintro e w' ⟨rfl,rfl⟩) | (go_at_call 62;refine (Bw _ _).mono ?_;rintro e w' ⟨rfl,rfl⟩) | (go_at_call 119;refine (Cc _ _).mono ?_;rintro e w' ⟨rfl,rfl⟩))
        all_goals (go_ret;exact ⟨Au (by rw [← H.out];simp [CZ,HM.out, *,e6.out]),BL ((Below.refl _ _).alloc (Nat.le_refl _) _) _⟩)
       ·go_enter Tryz.func80,Tryz.ntmps80
        go_wp2
        go_quiet ((go_at_call 50;exact Calls.quiet_of_same (EG _ _ _ _)))
        go_wp2_with (first | (go_at_call 50;refine (Cn _ _ _ _).mono ?_;rintro e w' ⟨rfl,rfl⟩) | (go_at_call 62;refine (Bw _ _).mono ?_;rintro e w' ⟨rfl,rfl⟩) | (go_at_call 119;refine (Cc _ _).mono ?_;rintro e w' ⟨rfl,rfl⟩))
        all_goals (go_ret;exact ⟨Au (by rw [← H.out];simp [CZ,HM.out, *,e1.out,e2.out,e3.out,e4.out,e5.out,e6.out]),BL ((Below.refl _ _).alloc (Nat.le_refl _) _) _⟩)
structure YP (W : World) (B : Nat) (l : List Rec) (k : Nat) : Prop where
 out : ∃ x1 x2 x3 : Int,W.heap[B]? = some (.cells #[.int .i64 0, .int .i64 x1, .int .i64 x2, .int .i64 x3] 90 (0,0)) ∧ x1 = Ai l 1 k ∧ x2 = Ai l 2 k ∧ x3 = Ai l 3 k
theorem WC {W : World} {B k : Nat} {l : List Rec} {x1 x2 x3 tx : Int} {T : TypeId} (h : W.heap[B]? = some (.cells #[.int .i64 0, .int .i64 x1, .int .i64 x2, .int .i64 x3] T (0,0))) (hx : x1 = Ai l 1 k ∧ x2 = Ai l 2 k ∧ x3 = Ai l 3 k) (h1 : 1 ≤ tx) (h3 : tx ≤ 3) : W.cell? ⟨B,tx.toNat,none⟩ = some (.int .i64 (Ai l tx k)):=by
 obtain ⟨rfl,rfl,rfl⟩:=hx
 have e : tx = 1 ∨ tx = 2 ∨ tx = 3:=by omega
 rcases e with rfl | rfl | rfl <;> simp [World.cell?,h]
theorem MU {W : World} {B : Nat} {x1 x2 x3 tx v : Int} {T : TypeId} (h : W.heap[B]? = some (.cells #[.int .i64 0, .int .i64 x1, .int .i64 x2, .int .i64 x3] T (0,0))) (h1 : 1 ≤ tx) (h3 : tx ≤ 3) :
  (W.setCell ⟨B,tx.toNat,none⟩ (.int .i64 v)).heap[B]? = some (.cells #[.int .i64 0, .int .i64 (if tx = 1 then v else x1), .int .i64 (if tx = 2 then v else x2), .int .i64 (if tx = 3 then v else x3)] T (0,0)):=by
 have:=UL h tx.toNat (.int .i64 v)
 rw [this]
 have e : tx = 1 ∨ tx = 2 ∨ tx = 3:=by omega
 rcases e with rfl | rfl | rfl <;> simp
theorem R7 {W : World} {B : Nat} {x1 x2 x3 tx : Int} {T : TypeId} (h : W.heap[B]? = some (.cells #[.int .i64 0, .int .i64 x1, .int .i64 x2, .int .i64 x3] T (0,0))) (h1 : 1 ≤ tx) (h3 : tx ≤ 3) : ∃ y,W.cell? ⟨B,tx.toNat,none⟩ = some (.int .i64 y):=by
 have e : tx = 1 ∨ tx = 2 ∨ tx = 3:=by omega
 rcases e with rfl | rfl | rfl <;> simp [World.cell?,h]
theorem Sz {W : World} {B B' j o : Nat} {v u : Value} (hne : B ≠ B') (h : W.cell? ⟨B',o,none⟩ = some u) : (W.setCell ⟨B,j,none⟩ v).cell? ⟨B',o,none⟩ = some u:=by
 rw [World.cell?_setCell_far _ _ _ _ (by simp;exact fun e => hne e)]
 exact h
theorem P7 {l : List Rec} {k : Nat} {tx t x : Int} (e : (rc l k).tx = tx) (h : x = Ai l t k) : (if tx = t then (if EO (rc l k).kind = true then 0 else (k : Int) + 1) else x) = Ai l t (k + 1):=by
 subst e
 unfold Ai
 split
 ·split <;> simp
 ·exact h
theorem Gi {l : List Rec} {k : Nat} {t x : Int} (he : EO (rc l k).kind = false) (h : x = Ai l t k) : (if (rc l k).tx = t then (k : Int) + 1 else x) = Ai l t (k + 1):=by
 have:=P7 (t:=t) rfl h
 rwa [he,if_neg (by simp : ¬ false = true)] at this
theorem Ht {l : List Rec} {k : Nat} {t x : Int} (he : EO (rc l k).kind = true) (h : x = Ai l t k) : (if (rc l k).tx = t then 0 else (if (rc l k).tx = t then (k : Int) + 1 else x)) = Ai l t (k + 1):=by
 have:=P7 (t:=t) rfl h
 rw [he,if_pos rfl] at this
 rw [← this]
 split <;> rfl
set_option maxHeartbeats 16000000 in
theorem ES {w0 w : World} {A : Option Addr} {c : Nat} {l : List Rec} {b : Bool} (hv : AB l = b) (hb : Below w0.heap.size w0 w) (hr : Kd.C Ca w0 A l.length l) : Calls Tryz.prog 41 #[.slice A l.length c] w fun e w' => e = .returned (.bool b) ∧ Below w.heap.size w w':=by
 have HR:=As hr
 have HB:=As hb
 have HV:=As hv
 clear hr hb hv
 by_cases hlen : l.length ≤ 150
 ·go_enter Tryz.func41,Tryz.ntmps41
  go_wp2
  have HLEN:=As hlen
  go_loopw [11] (fun i wr => ∃ k : Nat,k ≤ l.length ∧ i = .int .i64 (k : Int) ∧ Aa (EC l k = true) ∧ Aa (YP wr w.heap.size l k) ∧ Aa (Below w.heap.size w wr)) (fun i _ => (l.length - (intOf i)).toNat)
  case atStart => exact ⟨0,Nat.zero_le _,rfl,⟨rfl⟩,⟨⟨0,0,0,blk_new _ _,rfl,rfl,rfl⟩⟩,⟨(Below.refl _ _).alloc (Nat.le_refl _) _⟩⟩
  case round =>
   obtain ⟨k,hk,rfl,HL,HA,HW⟩:=hrel
   by_cases hlt : k < l.length
   ·obtain ⟨ad,rfl,QR⟩:=CS HR.out k hlt
    have HW0:=As (bj HB.out HW.out)
    obtain ⟨g0,g1,g2,g3,g4,g5,g6,g7⟩:=QR.up HW0.out
    have p0 : (0 : Int) ≤ (k : Int):=Int.natCast_nonneg _
    have p1 : (k : Int) < (l.length : Int):=by omega
    obtain ⟨x1,x2,x3,hA,hx1,hx2,hx3⟩:=HA.out.out
    have HF:=As (fun h => MB (n:=l.length) (show atOk l k = false from h) hlt)
    have HA2:=As hA
    have HX:=As (And.intro hx1 (And.intro hx2 hx3))
    clear hA hx1 hx2 hx3
    go_wp2
    refine Td (fun w2 hb2 Q2 => ?_)
    have hA3:=(hb2.block w.heap.size (Array.getElem?_eq_some_iff.1 HA2.out).1).trans HA2.out
    cases h1 : CZ (rc l k)
    ·have K1:=As h1
     clear h1
     refine Ba (fun w' => Below w2.heap.size w2 w') rfl rfl (by kernel_rfl) (Af (Below.refl _ _)) (fun HT => ?_)
     repeat (first
      | (refine BO (fun wx hS => ?_))
      | ((with_reducible refine Bh (f:=80) rfl ?_);refine Bj (v:=.bool false) (args:=#[(rc l k).val]) HT rfl Tryz.func80 (by kernel_rfl) rfl rfl (by rfl) (fun _ _ _ h => h) (by simp only [List.map_toArray,List.map_cons,List.map_nil];rfl) (fun wx hS => (EP (r:=rc l k) K1.out _).mono fun e w1 h => ⟨h.1,bj hS h.2⟩) ?_;simp only [sc0,sc1])
      | (refine Bq HT rfl (by rfl) (fun _ _ _ h => h) ?_;simp only [sc0,sc1])
      | (refine BN (v:=?_) HT rfl (by rfl) (fun _ _ _ h => h) (fun wx hS => ?_) ?_;rotate_left;(obtain ⟨z0,z1,z2,z3,z4,z5,z6,z7⟩:=Q2.up hS;go_simp;with_reducible rfl);rotate_left;simp only [sc0,sc1]))
     go_wp2
     go_ret
     exact ⟨Au (by rw [← HV.out];simp [AB,HF.out (by simp [atOk,K1.out])]),(HW.out.trans (hb2.mono HW.out.size)).trans (hS.mono ((HW.out.trans (hb2.mono HW.out.size)).size))⟩
    ·have K1:=As h1
     clear h1
     have htx:=Ry K1.out
     have t1:=htx.1
     have t3 : (rc l k).tx < 4:=by omega
     have t0 : 0 ≤ (rc l k).tx:=by omega
     have hAt:=HA2.out
     replace hAt : w2.cell? ⟨w.heap.size,(rc l k).tx.toNat,none⟩ = some (.int .i64 (Ai l (rc l k).tx k)):=WC hA3 HX.out htx.1 htx.2.1
     clear htx
     rcases BQ (rc l k).prev (Ai l (rc l k).tx k) with ⟨e2,b2,c2⟩ | ⟨e2,b2,c2⟩
     ·rcases lts (k : Int) (rc l k).next with ⟨e3,b3,c3⟩ | ⟨e3,b3,c3⟩
      ·refine Ba (fun w' => Below w2.heap.size w2 w') rfl rfl (by kernel_rfl) (Af (Below.refl _ _)) (fun HT => ?_)
       repeat (first
        | (refine BO (fun wx hS => ?_))
        | ((with_reducible refine Bh (f:=80) rfl ?_);refine Bj (v:=.bool true) (args:=#[(rc l k).val]) HT rfl Tryz.func80 (by kernel_rfl) rfl rfl (by rfl) (fun _ _ _ h => h) (by simp only [List.map_toArray,List.map_cons,List.map_nil];rfl) (fun wx hS => (EP (r:=rc l k) K1.out _).mono fun e w1 h => ⟨h.1,bj hS h.2⟩) ?_;simp only [sc0,sc1])
        | (refine Bq HT rfl (by rfl) (fun _ _ _ h => h) ?_;simp only [sc0,sc1])
        | (refine BN (v:=?_) HT rfl (by rfl) (fun _ _ _ h => h) (fun wx hS => ?_) ?_;rotate_left;(obtain ⟨z0,z1,z2,z3,z4,z5,z6,z7⟩:=Q2.up hS;have zA:=bc hS hAt;go_simp;with_reducible rfl);rotate_left;simp only [sc0,sc1]))
       go_wp2
       go_ret
       exact ⟨Au (by rw [← HV.out];simp [AB,HF.out (by simp [atOk,c3])]),(HW.out.trans (hb2.mono HW.out.size)).trans (hS.mono ((HW.out.trans (hb2.mono HW.out.size)).size))⟩
      ·rcases lts 0 (rc l k).next with ⟨e4,b4,c4⟩ | ⟨e4,b4,c4⟩
       ·obtain ⟨j,hj⟩ : ∃ j : Nat,(rc l k).next - 1 = j:=⟨((rc l k).next - 1).toNat,by have:=e4.out;omega⟩
        have hj2 : (rc l k).next.toNat - 1 = j:=by have:=e4.out;omega
        have hjl : j < l.length:=by have:=e4.out;have:=e3.out;omega
        obtain ⟨ad',ea,QJ⟩:=CS HR.out j hjl
        obtain rfl:=Option.some.inj ea
        have s0 : IntKind.i64.wrap ((rc l k).next - 1) = (j : Int):=by rw [hj];exact IntWalk.i64_in _ (by omega)
        have s1 : (0 : Int) ≤ (j : Int):=Int.natCast_nonneg _
        have s2 : (j : Int) < (l.length : Int):=by omega
        have J2:=As hj2
        have QJ2:=(QJ.up HW0.out).up hb2
        clear hj hj2 ea
        rcases BQ (rc l j).tx (rc l k).tx with ⟨e5,b5,c5⟩ | ⟨e5,b5,c5⟩
        ·refine Ba (fun w' => Below w2.heap.size w2 w') rfl rfl (by kernel_rfl) (Af (Below.refl _ _)) (fun HT => ?_)
         repeat (first
          | (refine BO (fun wx hS => ?_))
          | ((with_reducible refine Bh (f:=80) rfl ?_);refine Bj (v:=.bool true) (args:=#[(rc l k).val]) HT rfl Tryz.func80 (by kernel_rfl) rfl rfl (by rfl) (fun _ _ _ h => h) (by simp only [List.map_toArray,List.map_cons,List.map_nil];rfl) (fun wx hS => (EP (r:=rc l k) K1.out _).mono fun e w1 h => ⟨h.1,bj hS h.2⟩) ?_;simp only [sc0,sc1])
          | (refine Bq HT rfl (by rfl) (fun _ _ _ h => h) ?_;simp only [sc0,sc1])
          | (refine BN (v:=?_) HT rfl (by rfl) (fun _ _ _ h => h) (fun wx hS => ?_) ?_;rotate_left;(obtain ⟨z0,z1,z2,z3,z4,z5,z6,z7⟩:=Q2.up hS;obtain ⟨y0,y1,y2,y3,y4,y5,y6,y7⟩:=QJ2.up hS;have zA:=bc hS hAt;go_simp;with_reducible rfl);rotate_left;simp only [sc0,sc1]))
         have HBX:=As ((HW.out.trans (hb2.mono HW.out.size)).trans (hS.mono ((HW.out.trans (hb2.mono HW.out.size)).size)))
         have hA4:=(hS.block w.heap.size (Array.getElem?_eq_some_iff.1 hA3).1).trans hA3
         have HA5:=As (MU (v:=(k : Int) + 1) hA4 t1 (by omega : (rc l k).tx ≤ 3))
         obtain ⟨yA,hyA⟩:=R7 hA4 t1 (by omega : (rc l k).tx ≤ 3)
         have hfA:=Gq hA4 (rc l k).tx.toNat
         obtain ⟨z0,z1,z2,z3,z4,z5,z6,z7⟩:=Q2.up hS
         have HNE:=As (show w.heap.size ≠ wr.heap.size by have:=HW.out.size;have:=(Array.getElem?_eq_some_iff.1 HA2.out).1;omega)
         have hne:=HNE.out
         have HAT:=As (show atOk l k = true by simp [atOk,K1.out,b2,c3,J2.out,b5])
         clear s0 s1 s2 QJ QJ2 hA4 hA3 hAt Q2 QR g0 g1 g2 g3 g4 g5 g6 g7
         cases he : EO (rc l k).kind
         ·have HE:=As he
          clear he
          go_wp2_with (go_at_call 81;refine (MP (r:=rc l k) HE.out _).mono ?_;rintro e w3 ⟨rfl,hb3⟩;have HA6:=As ((hb3.block w.heap.size (by have:=(Array.getElem?_eq_some_iff.1 HA5.out).1;exact this)).trans HA5.out);have HB3:=As hb3;clear hb3)
          go_roundw
          case rel => exact ⟨k + 1,by omega,by go_num,⟨by rw [EC,HL.out,HAT.out];rfl⟩,⟨⟨_,_,_,HA6.out,Gi HE.out HX.out.1,Gi HE.out HX.out.2.1,Gi HE.out HX.out.2.2⟩⟩,⟨(HBX.out.setCell (p:=⟨w.heap.size,_,none⟩) (Nat.le_refl _) _).trans (HB3.out.mono (by rw [World.size_setCell];exact HBX.out.size))⟩⟩
          case measure => simp [intOf];omega
         ·have HE:=As he
          clear he
          go_wp2_with (go_at_call 81;refine (MP (r:=rc l k) HE.out _).mono ?_;rintro e w3 ⟨rfl,hb3⟩;have hA6:=(hb3.block w.heap.size (by have:=(Array.getElem?_eq_some_iff.1 HA5.out).1;exact this)).trans HA5.out;have HB3:=As hb3;obtain ⟨yB,hyB⟩:=R7 hA6 t1 (by omega : (rc l k).tx ≤ 3);have hfB:=Gq hA6 (rc l k).tx.toNat;have HA7:=As (MU (v:=0) hA6 t1 (by omega : (rc l k).tx ≤ 3));have y1:=CV hb3 (Sz HNE.out z1);clear hb3 hA6)
          go_roundw
          case rel => exact ⟨k + 1,by omega,by go_num,⟨by rw [EC,HL.out,HAT.out];rfl⟩,⟨⟨_,_,_,HA7.out,Ht HE.out HX.out.1,Ht HE.out HX.out.2.1,Ht HE.out HX.out.2.2⟩⟩,⟨((HBX.out.setCell (p:=⟨w.heap.size,_,none⟩) (Nat.le_refl _) _).trans (HB3.out.mono (by rw [World.size_setCell];exact HBX.out.size))).setCell (p:=⟨w.heap.size,_,none⟩) (Nat.le_refl _) _⟩⟩
          case measure => simp [intOf];omega
        ·refine Ba (fun w' => Below w2.heap.size w2 w') rfl rfl (by kernel_rfl) (Af (Below.refl _ _)) (fun HT => ?_)
         repeat (first
          | (refine BO (fun wx hS => ?_))
          | ((with_reducible refine Bh (f:=80) rfl ?_);refine Bj (v:=.bool true) (args:=#[(rc l k).val]) HT rfl Tryz.func80 (by kernel_rfl) rfl rfl (by rfl) (fun _ _ _ h => h) (by simp only [List.map_toArray,List.map_cons,List.map_nil];rfl) (fun wx hS => (EP (r:=rc l k) K1.out _).mono fun e w1 h => ⟨h.1,bj hS h.2⟩) ?_;simp only [sc0,sc1])
          | (refine Bq HT rfl (by rfl) (fun _ _ _ h => h) ?_;simp only [sc0,sc1])
          | (refine BN (v:=?_) HT rfl (by rfl) (fun _ _ _ h => h) (fun wx hS => ?_) ?_;rotate_left;(obtain ⟨z0,z1,z2,z3,z4,z5,z6,z7⟩:=Q2.up hS;obtain ⟨y0,y1,y2,y3,y4,y5,y6,y7⟩:=QJ2.up hS;have zA:=bc hS hAt;go_simp;with_reducible rfl);rotate_left;simp only [sc0,sc1]))
         go_wp2
         go_ret
         exact ⟨Au (by rw [← HV.out];simp [AB,HF.out (by simp [atOk,J2.out,b5];intro _ _ _;exact e4.out)]),(HW.out.trans (hb2.mono HW.out.size)).trans (hS.mono ((HW.out.trans (hb2.mono HW.out.size)).size))⟩
       ·refine Ba (fun w' => Below w2.heap.size w2 w') rfl rfl (by kernel_rfl) (Af (Below.refl _ _)) (fun HT => ?_)
        repeat (first
         | (refine BO (fun wx hS => ?_))
         | ((with_reducible refine Bh (f:=80) rfl ?_);refine Bj (v:=.bool true) (args:=#[(rc l k).val]) HT rfl Tryz.func80 (by kernel_rfl) rfl rfl (by rfl) (fun _ _ _ h => h) (by simp only [List.map_toArray,List.map_cons,List.map_nil];rfl) (fun wx hS => (EP (r:=rc l k) K1.out _).mono fun e w1 h => ⟨h.1,bj hS h.2⟩) ?_;simp only [sc0,sc1])
         | (refine Bq HT rfl (by rfl) (fun _ _ _ h => h) ?_;simp only [sc0,sc1])
         | (refine BN (v:=?_) HT rfl (by rfl) (fun _ _ _ h => h) (fun wx hS => ?_) ?_;rotate_left;(obtain ⟨z0,z1,z2,z3,z4,z5,z6,z7⟩:=Q2.up hS;have zA:=bc hS hAt;go_simp;with_reducible rfl);rotate_left;simp only [sc0,sc1]))
        have HBX:=As ((HW.out.trans (hb2.mono HW.out.size)).trans (hS.mono ((HW.out.trans (hb2.mono HW.out.size)).size)))
        have hA4:=(hS.block w.heap.size (Array.getElem?_eq_some_iff.1 hA3).1).trans hA3
        have HA5:=As (MU (v:=(k : Int) + 1) hA4 t1 (by omega : (rc l k).tx ≤ 3))
        obtain ⟨yA,hyA⟩:=R7 hA4 t1 (by omega : (rc l k).tx ≤ 3)
        have hfA:=Gq hA4 (rc l k).tx.toNat
        obtain ⟨z0,z1,z2,z3,z4,z5,z6,z7⟩:=Q2.up hS
        have HNE:=As (show w.heap.size ≠ wr.heap.size by have:=HW.out.size;have:=(Array.getElem?_eq_some_iff.1 HA2.out).1;omega)
        have hne:=HNE.out
        have HAT:=As (show atOk l k = true by simp [atOk,K1.out,b2,c3,c4])
        clear hA4 hA3 hAt Q2 QR g0 g1 g2 g3 g4 g5 g6 g7
        cases he : EO (rc l k).kind
        ·have HE:=As he
         clear he
         go_wp2_with (go_at_call 81;refine (MP (r:=rc l k) HE.out _).mono ?_;rintro e w3 ⟨rfl,hb3⟩;have HA6:=As ((hb3.block w.heap.size (by have:=(Array.getElem?_eq_some_iff.1 HA5.out).1;exact this)).trans HA5.out);have HB3:=As hb3;clear hb3)
         go_roundw
         case rel => exact ⟨k + 1,by omega,by go_num,⟨by rw [EC,HL.out,HAT.out];rfl⟩,⟨⟨_,_,_,HA6.out,Gi HE.out HX.out.1,Gi HE.out HX.out.2.1,Gi HE.out HX.out.2.2⟩⟩,⟨(HBX.out.setCell (p:=⟨w.heap.size,_,none⟩) (Nat.le_refl _) _).trans (HB3.out.mono (by rw [World.size_setCell];exact HBX.out.size))⟩⟩
         case measure => simp [intOf];omega
        ·have HE:=As he
         clear he
         go_wp2_with (go_at_call 81;refine (MP (r:=rc l k) HE.out _).mono ?_;rintro e w3 ⟨rfl,hb3⟩;have hA6:=(hb3.block w.heap.size (by have:=(Array.getElem?_eq_some_iff.1 HA5.out).1;exact this)).trans HA5.out;have HB3:=As hb3;obtain ⟨yB,hyB⟩:=R7 hA6 t1 (by omega : (rc l k).tx ≤ 3);have hfB:=Gq hA6 (rc l k).tx.toNat;have HA7:=As (MU (v:=0) hA6 t1 (by omega : (rc l k).tx ≤ 3));have y1:=CV hb3 (Sz HNE.out z1);clear hb3 hA6)
         go_roundw
         case rel => exact ⟨k + 1,by omega,by go_num,⟨by rw [EC,HL.out,HAT.out];rfl⟩,⟨⟨_,_,_,HA7.out,Ht HE.out HX.out.1,Ht HE.out HX.out.2.1,Ht HE.out HX.out.2.2⟩⟩,⟨((HBX.out.setCell (p:=⟨w.heap.size,_,none⟩) (Nat.le_refl _) _).trans (HB3.out.mono (by rw [World.size_setCell];exact HBX.out.size))).setCell (p:=⟨w.heap.size,_,none⟩) (Nat.le_refl _) _⟩⟩
         case measure => simp [intOf];omega
     ·refine Ba (fun w' => Below w2.heap.size w2 w') rfl rfl (by kernel_rfl) (Af (Below.refl _ _)) (fun HT => ?_)
      repeat (first
       | (refine BO (fun wx hS => ?_))
       | ((with_reducible refine Bh (f:=80) rfl ?_);refine Bj (v:=.bool true) (args:=#[(rc l k).val]) HT rfl Tryz.func80 (by kernel_rfl) rfl rfl (by rfl) (fun _ _ _ h => h) (by simp only [List.map_toArray,List.map_cons,List.map_nil];rfl) (fun wx hS => (EP (r:=rc l k) K1.out _).mono fun e w1 h => ⟨h.1,bj hS h.2⟩) ?_;simp only [sc0,sc1])
       | (refine Bq HT rfl (by rfl) (fun _ _ _ h => h) ?_;simp only [sc0,sc1])
       | (refine BN (v:=?_) HT rfl (by rfl) (fun _ _ _ h => h) (fun wx hS => ?_) ?_;rotate_left;(obtain ⟨z0,z1,z2,z3,z4,z5,z6,z7⟩:=Q2.up hS;have zA:=bc hS hAt;go_simp;with_reducible rfl);rotate_left;simp only [sc0,sc1]))
      go_outline
      go_wp2
      go_ret
      exact ⟨Au (by rw [← HV.out];simp [AB,HF.out (by simp [atOk,b2])]),(HW.out.trans (hb2.mono HW.out.size)).trans (hS.mono ((HW.out.trans (hb2.mono HW.out.size)).size))⟩
   ·obtain rfl : k = l.length:=by omega
    go_wp2
    go_ret
    exact ⟨Au (by rw [← HV.out,AB,HL.out,decide_eq_true HLEN.out];rfl),HW.out⟩
 ·go_enter Tryz.func41,Tryz.ntmps41
  go_wp2
  go_ret
  exact ⟨Au (by rw [← HV.out,AB,decide_eq_false hlen,Bool.and_false]),(Below.refl _ _).alloc (Nat.le_refl _) _⟩
end Go.Proofs.YtofgeajaajfiaaaGreat
