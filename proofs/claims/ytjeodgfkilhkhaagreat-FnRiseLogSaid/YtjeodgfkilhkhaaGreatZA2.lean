/- A part of the proof: what the last text of the claim says leans on this one. -/
import Derived.Test.YtjeodgfkilhkhaaGreatZA1
import Derived.Sort.OwnSortedInts
import Derived.IntWalk
set_option linter.unusedVariables false
set_option linter.unusedSimpArgs false
namespace Go.Proofs.YtjeodgfkilhkhaaGreat
open Go.RowKit Go.Proofs.YtjeodgfkilhkhaaGreatW.PrintWords Go.Proofs.YtjeodgfkilhkhaaGreatW.PrintLast Go.Proofs.YtjeodgfkilhkhaaGreatW.PrintMore
set_option maxHeartbeats 2000000 in
theorem Jf {w0 w : World} {A : Option Addr} {c n : Nat} {l : List Rec} (hn : n ≤ l.length) (hb : Below w0.heap.size w0 w) (hr : Kd.C kRec w0 A l.length l) (hl : Au l = true) : Calls Tryz.prog 87 #[.slice A l.length c, .int .i64 n] w fun e w' => e = .returned (.int .i64 (Bt l n)) ∧ Below w0.heap.size w0 w':=by
 have HR:=As hr
 have HB:=As hb
 have HL:=As hl
 have hm:=(CY hr).2
 clear hr hb hl
 go_enter Tryz.func87,Tryz.ntmps87
 go_wp2
 go_loopw [1] (fun i wr => ∃ k : Nat,k ≤ l.length ∧ i = .int .i64 (k : Int) ∧ A7 (Bt l n = Bt l k) ∧ A7 (Below w0.heap.size w0 wr)) (fun i _ => (intOf i).toNat)
 case atStart => exact ⟨n,hn,rfl,⟨rfl⟩,HB⟩
 case round =>
  obtain ⟨k,hk,rfl,HK,HW⟩:=hrel
  rcases k with _ | k
  ·go_wp2
   go_ret
   exact ⟨Dz (by rw [HK.out,Om];rfl),HW.out⟩
  ·have F:=Ag HL.out (k:=k) (by omega)
   obtain ⟨ad,rfl,QR⟩:=Cs HR.out k (by omega)
   have QW:=QR.up HW.out
   obtain ⟨g0,g1,g2,g3,g4,g5,g6,g7⟩:=QW
   have hle:=F.prev_le
   have hle2:=F.next_le
   rw [F.prev] at g6
   rw [F.next] at g7
   clear F QR
   rcases BS (rc l k).kind 1 with ⟨e1,b1,c1⟩ | ⟨e1,b1,c1⟩
   ·go_wp2
    go_ret
    exact ⟨Dz (by rw [HK.out,Ip (.inl e1.out) hle]),Dl HW.out _⟩
   ·rcases BS (rc l k).kind 2 with ⟨e2,b2,c2⟩ | ⟨e2,b2,c2⟩
    ·go_wp2
     go_ret
     exact ⟨Dz (by rw [HK.out,Ip (.inr e2.out) hle]),Dl HW.out _⟩
    ·rcases BS (rc l k).kind 6 with ⟨e3,b3,c3⟩ | ⟨e3,b3,c3⟩
     ·go_wp2
      go_roundw
      case rel => exact ⟨EY l (k + 1),by omega,rfl,⟨by rw [HK.out,KY e3.out hle2]⟩,⟨Dl HW.out _⟩⟩
      case measure => simp [intOf];omega
     ·go_wp2
      go_roundw
      case rel => exact ⟨Bu l (k + 1),by omega,rfl,⟨by rw [HK.out,KZ e1.out e2.out e3.out hle]⟩,⟨Dl HW.out _⟩⟩
      case measure => simp [intOf];omega
def ints (l : List Nat) : List Int:=l.map fun n : Nat => (n : Int)
theorem OC (l : List Nat) (n : Nat) : ints l ++ [(n : Int)] = ints (l ++ [n]):=by simp [ints]
theorem KS {l : List Rec} (n : Nat) : (BO l n).length ≤ n:=by
 induction n using Nat.strongRecOn with
 | _ n ih =>
  match n with
  | 0 => rw [C9];simp
  | n + 1 =>
   rw [BO]
   split
   ·have:=ih (Bu l (n + 1)) (by omega);simp;omega
   ·simp
set_option maxHeartbeats 4000000 in
theorem MF {w0 w : World} {A : Option Addr} {c : Nat} {l : List Rec} (tx : Int) (hb : Below w0.heap.size w0 w) (hr : Kd.C kRec w0 A l.length l) (hl : Au l = true) : Calls Tryz.prog 111 #[.slice A l.length c, .int .i64 tx] w (Vs w (ints (BO l (Ae l tx l.length)))):=by
 have HR:=As hr
 have HB:=As hb
 have HL:=As hl
 have hm:=BA hl
 clear hr hb hl
 go_enter Tryz.func111,Tryz.ntmps111
 go_wp2_with (go_at_call 86;refine (Jp tx HB.out HR.out).mono ?_;rintro e w1 ⟨rfl,hb1⟩;have HX:=As hb1;clear hb1)
 go_loopw [5,6] (fun v i wr => ∃ (k : Nat) (pre : List Nat),k ≤ l.length ∧ i = .int .i64 (k : Int) ∧ A7 (AA wr w.heap.size v (ints pre)) ∧ A7 (pre ++ BO l k = BO l (Ae l tx l.length)) ∧ A7 (Below w.heap.size w wr)) (fun _ i _ => (intOf i).toNat)
 case atStart => exact ⟨Ae l tx l.length, [],Bc _ _ _,rfl,⟨(AA.nil _ _ : AA _ _ _ [])⟩,⟨rfl⟩,HX⟩
 case round =>
  obtain ⟨k,pre,hk,rfl,HO,HK,HW⟩:=hrel
  have HW0:=As (bj HB.out HW.out)
  rcases k with _ | k
  ·go_wp2
   go_ret
   exact ⟨_,rfl,by have:=HK.out;rw [C9,List.append_nil] at this;rw [← this];exact HO.out,HW.out⟩
  ·have F:=Ag HL.out (k:=k) (by omega)
   obtain ⟨ad,rfl,QR⟩:=Cs HR.out k (by omega)
   obtain ⟨g0,g1,g2,g3,g4,g5,g6,g7⟩:=QR.up HW0.out
   have hle:=F.prev_le
   have HC:=As (Dk F.prev_le)
   have hpl : (ints pre).length ≤ 150:=by
    have:=congrArg List.length HK.out
    rw [List.length_append] at this
    have h2:=KS (l:=l) (Ae l tx l.length)
    have h3:=Bc l tx l.length
    simp only [ints,List.length_map]
    omega
   have HPL:=As hpl
   have HPR:=As F.prev
   have HQR:=As QR
   clear F QR hpl g0 g1 g2 g3 g4 g5 g6 g7
   go_wp2_with (at_builtin;(refine DU w.heap.size rfl (.tmp 18) (.tmp 20) 39 3 .i64 8 rfl EB Gz (by omega) _ (ints pre) ((k : Int) + 1) rfl rfl HO.out HW.out HW.out.size (by have:=HPL.out;omega) ?_;intro v1 w1 hown1 hb1 _ _;have HO1:=As hown1;have HW1:=As hb1;obtain ⟨y0,y1,y2,y3,y4,y5,y6,y7⟩:=HQR.out.up (bj HB.out hb1);rw [HPR.out] at y6;clear hown1 hb1))
   go_roundw
   case rel => exact ⟨Bu l (k + 1),pre ++ [k + 1],by omega,rfl,⟨by have:=HO1.out;rwa [show ((k : Int) + 1) = ((k + 1 : Nat) : Int) from rfl,OC] at this⟩,⟨by rw [← HK.out,HC.out];simp⟩,HW1⟩
   case measure => simp [intOf];omega
set_option maxHeartbeats 4000000 in
theorem Ef {w0 w : World} {A : Option Addr} {c : Nat} {l : List Rec} {page : Int} {b : Bool} (hv : FR l page 3 = b) (hb : Below w0.heap.size w0 w) (hr : Kd.C kRec w0 A l.length l) (hl : Au l = true) : Calls Tryz.prog 58 #[.slice A l.length c, .int .i64 page] w fun e w' => e = .returned (.bool b) ∧ w = w':=by
 have HR:=As hr
 have HB:=As hb
 have HL:=As hl
 have HV:=As hv
 have hm:=(CY hr).2
 clear hr hb hl hv
 go_enter Tryz.func58,Tryz.ntmps58
 go_wp2
 go_loop [5] (fun i => ∃ j : Nat,j ≤ 3 ∧ i = .int .i64 (4 - j : Int) ∧ A7 (FR l page j = b)) (fun i => (4 - intOf i).toNat)
 case atStart => exact ⟨3,by omega,rfl,HV⟩
 case round =>
  obtain ⟨j,hj,rfl,HK⟩:=hrel
  rcases j with _ | j
  ·go_wp2
   go_ret
   exact ⟨Af (by rw [← HK.out];rfl),rfl⟩
  ·have hw : (4 - ((j + 1 : Nat) : Int)) = 3 - (j : Int):=by omega
   rw [hw]
   have h1 : (3 - (j : Int)) ≤ 3:=by omega
   have h2 : 1 ≤ (3 - (j : Int)):=by omega
   clear hw
   go_wp2_with (go_at_call 93;refine (FT (3 - (j : Int)) HB.out HR.out).mono ?_;rintro e w' ⟨rfl,rfl⟩)
   go_loop [6] (fun i => ∃ k : Nat,k ≤ l.length ∧ i = .int .i64 (k : Int) ∧ A7 ((EZ l k page || FR l page j) = b)) (fun i => (intOf i).toNat)
   case atStart => exact ⟨Ae l (3 - (j : Int)) l.length,Bc _ _ _,rfl,⟨by rw [← HK.out];rfl⟩⟩
   case round =>
    obtain ⟨k,hk,rfl,HQ⟩:=hrel
    rcases k with _ | k
    ·go_wp2
     go_round
     case rel => exact ⟨j,by omega,by go_num,⟨by rw [← HQ.out,I6];simp⟩⟩
     case measure => simp [intOf];omega
    ·have F:=Ag HL.out (k:=k) (by omega)
     obtain ⟨ad,rfl,QR⟩:=Cs HR.out k (by omega)
     have QW:=QR.up HB.out
     obtain ⟨g0,g1,g2,g3,g4,g5,g6,g7⟩:=QW
     have hp:=Nq (p:=page) F.prev_le
     have HP:=As hp
     have hle:=F.prev_le
     rw [F.prev] at g6
     clear hp F QR
     rcases BS (rc l k).kind 3 with ⟨e1,b1,c1⟩ | ⟨e1,b1,c1⟩
     ·rcases BS (rc l k).page page with ⟨e2,b2,c2⟩ | ⟨e2,b2,c2⟩
      ·go_wp2
       go_ret
       exact ⟨Af (by rw [← HQ.out,HP.out,b1,b2];rfl),rfl⟩
      ·go_wp2
       go_round
       case rel => exact ⟨Bu l (k + 1),by omega,rfl,⟨by rw [← HQ.out,HP.out,b1,b2];rfl⟩⟩
       case measure => simp [intOf];omega
     ·go_wp2
      go_round
      case rel => exact ⟨Bu l (k + 1),by omega,rfl,⟨by rw [← HQ.out,HP.out,b1];rfl⟩⟩
      case measure => simp [intOf];omega
theorem KX {l : List Rec} (n : Nat) : (CW l n).length ≤ n:=by
 induction n using Nat.strongRecOn with
 | _ n ih =>
  match n with
  | 0 => rw [Cn];simp
  | n + 1 =>
   rw [CW]
   split
   ·split
    ·have:=ih (Bu l (n + 1)) (by omega);simp;omega
    ·simp
   ·split
    ·split
     ·have:=ih (EY l (n + 1)) (by omega);omega
     ·simp
    ·split
     ·have:=ih (Bu l (n + 1)) (by omega);omega
     ·simp
set_option maxHeartbeats 4000000 in
theorem Gq {w0 w : World} {A : Option Addr} {c : Nat} {l : List Rec} (hb : Below w0.heap.size w0 w) (hr : Kd.C kRec w0 A l.length l) (hl : Au l = true) : Calls Tryz.prog 55 #[.slice A l.length c] w fun e w' => e = .returned (.int .i64 (need l)) ∧ Below w0.heap.size w0 w':=by
 have HR:=As hr
 have HB:=As hb
 have HL:=As hl
 have hm:=BA hl
 clear hr hb hl
 go_enter Tryz.func55,Tryz.ntmps55
 go_wp2
 go_loopw [3,4] (fun n i wr => ∃ (j a : Nat),j ≤ 3 ∧ i = .int .i64 (4 - j : Int) ∧ n = .int .i64 (a : Int) ∧ a ≤ 200 * (3 - j) ∧ A7 (a + J6 l j = need l) ∧ A7 (Below w0.heap.size w0 wr)) (fun _ i _ => (4 - intOf i).toNat)
 case atStart => exact ⟨3,0,by omega,rfl,rfl,by omega,⟨by simp [need]⟩,HB⟩
 case round =>
  obtain ⟨j,a,hj,rfl,rfl,ha,HK,HW⟩:=hrel
  rcases j with _ | j
  ·go_wp2
   go_ret
   exact ⟨Dz (by rw [← HK.out];simp [J6]),HW.out⟩
  ·have hw : (4 - ((j + 1 : Nat) : Int)) = 3 - (j : Int):=by omega
   rw [hw]
   have h1 : (3 - (j : Int)) ≤ 3:=by omega
   have h2 : 1 ≤ (3 - (j : Int)):=by omega
   obtain ⟨n0,hn0⟩ : ∃ n0,Ae l (3 - (j : Int)) l.length = n0:=⟨_,rfl⟩
   have hle:=Bc l (3 - (j : Int)) l.length
   rw [hn0] at hle
   have hlen:=KX (l:=l) n0
   have HN:=As hn0
   clear hw hn0
   rcases n0 with _ | n0
   all_goals
    go_wp2_with (first | (go_at_call 93;refine (Dn HN.out HW.out HR.out).mono ?_;rintro e w' ⟨rfl,rfl⟩) | (go_at_call 96;refine (Ep (by omega) HW.out HR.out HL.out).mono ?_;rintro e w1 ⟨rfl,hb1⟩;have HX:=As hb1;clear hb1))
   ·skip
    go_loopw [3,5] (fun n i wr => ∃ (k b : Nat),k ≤ l.length ∧ i = .int .i64 (Bt l k : Int) ∧ n = .int .i64 (b : Int) ∧ b ≤ 350 + 200 * (2 - j) ∧ A7 (b + (CW l k).length = a + (CW l (0)).length) ∧ A7 (Below w0.heap.size w0 wr)) (fun _ i _ => (intOf i).toNat)
    case atStart => exact ⟨0,a,by omega,rfl,by go_num,by omega,⟨rfl⟩,HX⟩
    case round =>
     obtain ⟨k,b,hk,rfl,rfl,hb,HQ,HY⟩:=hrel
     obtain ⟨m,hm'⟩ : ∃ m,Bt l k = m:=⟨_,rfl⟩
     rw [hm']
     rcases m with _ | m
     ·have HZ:=As (FM hm')
      clear hm'
      go_wp2
      go_roundw
      case rel => exact ⟨j,b,by omega,by go_num,rfl,by have:=HQ.out;rw [HZ.out] at this;simp at this;omega,⟨by rw [← HK.out,J6,HN.out];have:=HQ.out;rw [HZ.out] at this;simp at this ⊢;omega⟩,HY⟩
      case measure => simp [intOf];omega
     ·obtain ⟨h3,h4,h5,h6⟩:=K5 HL.out hk hm'
      have F:=Ag HL.out h4
      obtain ⟨ad,rfl,QR⟩:=Cs HR.out m h4
      obtain ⟨g0,g1,g2,g3,g4,g5,g6,g7⟩:=QR.up HY.out
      have HS:=As h3
      have hpl:=Gc (l:=l) (n:=Bu l (m + 1))
      have hbl : b + 1 ≤ 350 + 200 * (2 - j):=by have:=HQ.out;rw [h3] at this;simp at this;omega
      rw [F.prev] at g6
      clear h3 h6 F QR hm'
      go_wp2_with (go_at_call 96;refine (Ep (by omega) HY.out HR.out HL.out).mono ?_;rintro e w2 ⟨rfl,hb2⟩;have HX2:=As hb2;clear hb2)
      go_roundw
      case rel => exact ⟨Bu l (m + 1),b + 1,by omega,rfl,by go_num,hbl,⟨by rw [← HQ.out,HS.out];simp;omega⟩,HX2⟩
      case measure => simp [intOf];omega
   ·skip
    go_loopw [3,5] (fun n i wr => ∃ (k b : Nat),k ≤ l.length ∧ i = .int .i64 (Bt l k : Int) ∧ n = .int .i64 (b : Int) ∧ b ≤ 350 + 200 * (2 - j) ∧ A7 (b + (CW l k).length = a + 1 + (CW l (n0 + 1)).length) ∧ A7 (Below w0.heap.size w0 wr)) (fun _ i _ => (intOf i).toNat)
    case atStart => exact ⟨n0 + 1,a + 1,by omega,rfl,by go_num,by omega,⟨rfl⟩,HX⟩
    case round =>
     obtain ⟨k,b,hk,rfl,rfl,hb,HQ,HY⟩:=hrel
     obtain ⟨m,hm'⟩ : ∃ m,Bt l k = m:=⟨_,rfl⟩
     rw [hm']
     rcases m with _ | m
     ·have HZ:=As (FM hm')
      clear hm'
      go_wp2
      go_roundw
      case rel => exact ⟨j,b,by omega,by go_num,rfl,by have:=HQ.out;rw [HZ.out] at this;simp at this;omega,⟨by rw [← HK.out,J6,HN.out];have:=HQ.out;rw [HZ.out] at this;simp at this ⊢;omega⟩,HY⟩
      case measure => simp [intOf];omega
     ·obtain ⟨h3,h4,h5,h6⟩:=K5 HL.out hk hm'
      have F:=Ag HL.out h4
      obtain ⟨ad,rfl,QR⟩:=Cs HR.out m h4
      obtain ⟨g0,g1,g2,g3,g4,g5,g6,g7⟩:=QR.up HY.out
      have HS:=As h3
      have hpl:=Gc (l:=l) (n:=Bu l (m + 1))
      have hbl : b + 1 ≤ 350 + 200 * (2 - j):=by have:=HQ.out;rw [h3] at this;simp at this;omega
      rw [F.prev] at g6
      clear h3 h6 F QR hm'
      go_wp2_with (go_at_call 96;refine (Ep (by omega) HY.out HR.out HL.out).mono ?_;rintro e w2 ⟨rfl,hb2⟩;have HX2:=As hb2;clear hb2)
      go_roundw
      case rel => exact ⟨Bu l (m + 1),b + 1,by omega,rfl,by go_num,hbl,⟨by rw [← HQ.out,HS.out];simp;omega⟩,HX2⟩
      case measure => simp [intOf];omega
set_option maxHeartbeats 4000000 in
theorem Mg {w0 w : World} {A : Option Addr} {c : Nat} {l : List Rec} (tx : Int) (hb : Below w0.heap.size w0 w) (hr : Kd.C kRec w0 A l.length l) (hl : Au l = true) : Calls Tryz.prog 100 #[.slice A l.length c, .int .i64 tx] w (Vs w (ints (CW l (Ae l tx l.length)))):=by
 have HR:=As hr
 have HB:=As hb
 have HL:=As hl
 have hm:=BA hl
 have hnl:=Bc l tx l.length
 clear hr hb hl
 go_enter Tryz.func100,Tryz.ntmps100
 go_wp2_with (first | (go_at_call 86;refine (Jp tx HB.out HR.out).mono ?_;rintro e w1 ⟨rfl,hb1⟩;have HX:=As hb1;clear hb1) | (go_at_call 87;refine (Jf hnl (Below.refl _ _) (BF HR.out (bj HB.out HX.out)) HL.out).mono ?_;rintro e w2 ⟨rfl,hb2⟩;have HX2:=As (bj HX.out hb2);clear hb2))
 go_loopw [5,6] (fun v i wr => ∃ (k : Nat) (pre : List Nat),k ≤ l.length ∧ i = .int .i64 (Bt l k : Int) ∧ A7 (AA wr w.heap.size v (ints pre)) ∧ A7 (pre ++ CW l k = CW l (Ae l tx l.length)) ∧ A7 (Below w.heap.size w wr)) (fun _ i _ => (intOf i).toNat)
 case atStart => exact ⟨Ae l tx l.length, [],Bc _ _ _,rfl,⟨(AA.nil _ _ : AA _ _ _ [])⟩,⟨rfl⟩,HX2⟩
 case round =>
  obtain ⟨k,pre,hk,rfl,HO,HK,HW⟩:=hrel
  have HW0:=As (bj HB.out HW.out)
  obtain ⟨m,hm'⟩ : ∃ m,Bt l k = m:=⟨_,rfl⟩
  rw [hm']
  rcases m with _ | m
  ·have HZ:=As (FM hm')
   clear hm'
   go_wp2
   go_ret
   exact ⟨_,rfl,by have:=HK.out;rw [HZ.out,List.append_nil] at this;rw [← this];exact HO.out,HW.out⟩
  ·obtain ⟨h3,h4,h5,h6⟩:=K5 HL.out hk hm'
   have F:=Ag HL.out h4
   obtain ⟨ad,rfl,QR⟩:=Cs HR.out m h4
   have HS:=As h3
   have hpl : (ints pre).length ≤ 150:=by
    have:=congrArg List.length HK.out
    rw [List.length_append] at this
    have h2:=KX (l:=l) (Ae l tx l.length)
    simp only [ints,List.length_map]
    omega
   have HPL:=As hpl
   have HPR:=As F.prev
   have HQR:=As QR
   have hpl2:=Gc (l:=l) (n:=Bu l (m + 1))
   clear h3 h6 F QR hm' hpl
   go_wp2_with (first | (at_builtin;(refine DU w.heap.size rfl (.tmp 22) (.tmp 24) 39 3 .i64 8 rfl EB Gz (by omega) _ (ints pre) ((m : Int) + 1) rfl rfl HO.out HW.out HW.out.size (by have:=HPL.out;omega) ?_;intro v1 w1 hown1 hb1 _ _;have HO1:=As hown1;have HW1:=As hb1;obtain ⟨y0,y1,y2,y3,y4,y5,y6,y7⟩:=HQR.out.up (bj HB.out hb1);rw [HPR.out] at y6;clear hown1 hb1)) | (go_at_call 87;refine (Jf (n:=Bu l (m + 1)) (by omega) (Below.refl _ _) (BF HR.out (bj HB.out HW1.out)) HL.out).mono ?_;rintro e w2 ⟨rfl,hb2⟩;have HX3:=As (bj HW1.out hb2);have HO3:=As (AA.below HO1.out hb2);clear hb2))
   go_roundw
   case rel => exact ⟨Bu l (m + 1),pre ++ [m + 1],by omega,rfl,⟨by have:=HO3.out;rwa [show ((m : Int) + 1) = ((m + 1 : Nat) : Int) from rfl,OC] at this⟩,⟨by rw [← HK.out,HS.out];simp⟩,HX3⟩
   case measure => simp [intOf];omega
def BX (l : List Rec) : Nat → List Int
 | 0 => []
 | j + 1 => (if Ae l (3 - j : Int) l.length = 0 then [] else [3 - (j : Int)]) ++ BX l j
set_option maxHeartbeats 4000000 in
theorem Fu {w0 w : World} {A : Option Addr} {c : Nat} {l : List Rec} (hb : Below w0.heap.size w0 w) (hr : Kd.C kRec w0 A l.length l) : Calls Tryz.prog 49 #[.slice A l.length c] w (Vs w (BX l 3)):=by
 have HR:=As hr
 have HB:=As hb
 clear hr hb
 go_enter Tryz.func49,Tryz.ntmps49
 go_wp2
 go_loopw [3,4] (fun v i wr => ∃ (j : Nat) (pre : List Int),j ≤ 3 ∧ i = .int .i64 (4 - j : Int) ∧ A7 (pre.length ≤ 3 - j) ∧ A7 (AA wr w.heap.size v pre) ∧ A7 (pre ++ BX l j = BX l 3) ∧ A7 (Below w.heap.size w wr)) (fun _ i _ => (4 - intOf i).toNat)
 case atStart => exact ⟨3, [],by omega,rfl,⟨by simp⟩,⟨(AA.nil _ _ : AA _ _ _ [])⟩,⟨rfl⟩,⟨Below.refl _ _⟩⟩
 case round =>
  obtain ⟨j,pre,hj,rfl,HP,HO,HK,HW⟩:=hrel
  rcases j with _ | j
  ·go_wp2
   go_ret
   exact ⟨_,rfl,by have:=HK.out;rw [BX,List.append_nil] at this;rw [← this];exact HO.out,HW.out⟩
  ·have hw : (4 - ((j + 1 : Nat) : Int)) = 3 - (j : Int):=by omega
   rw [hw]
   have h1 : (3 - (j : Int)) ≤ 3:=by omega
   have h2 : 1 ≤ (3 - (j : Int)):=by omega
   obtain ⟨n0,hn0⟩ : ∃ n0,Ae l (3 - (j : Int)) l.length = n0:=⟨_,rfl⟩
   have hnb:=Bc l (3 - (j : Int)) l.length
   have hm:=(CY HR.out).2
   rw [hn0] at hnb
   have HN:=As hn0
   clear hw hn0
   rcases n0 with _ | n0
   ·go_wp2_with (go_at_call 86;refine (Pg HN.out (bj HB.out HW.out) HR.out).mono ?_;rintro e w1 ⟨rfl,hb1⟩;have HX:=As (bj HW.out hb1);have HO1:=As (AA.below HO.out hb1);clear hb1)
    go_roundw
    case rel => exact ⟨j,pre,by omega,by go_num,⟨by have:=HP.out;omega⟩,HO1,⟨by rw [← HK.out,BX,HN.out,if_pos rfl,List.nil_append]⟩,HX⟩
    case measure => simp [intOf];omega
   ·go_wp2_with (first | (go_at_call 86;refine (Pg HN.out (bj HB.out HW.out) HR.out).mono ?_;rintro e w1 ⟨rfl,hb1⟩;have HX:=As (bj HW.out hb1);have HO1:=As (AA.below HO.out hb1);clear hb1) | (at_builtin;(refine DU w.heap.size rfl (.tmp 13) (.tmp 15) 39 3 .i64 8 rfl EB Gz (by omega) _ pre (3 - (j : Int)) rfl rfl HO1.out HX.out HX.out.size (by have:=HP.out;omega) ?_;intro v1 w2 hown1 hb1 _ _;have HO2:=As hown1;have HW2:=As hb1;clear hown1 hb1)))
    go_roundw
    case rel => exact ⟨j,pre ++ [3 - (j : Int)],by omega,by go_num,⟨by have:=HP.out;simp;omega⟩,HO2,⟨by rw [← HK.out,BX,HN.out,if_neg (by omega)];simp⟩,HW2⟩
    case measure => simp [intOf];omega
def MC (l : List Rec) (txs : List Int) : Nat:=(txs.map fun tx => (CW l (Ae l tx l.length)).length + 1).sum
theorem Mc (l : List Rec) : ∀ j,MC l (BX l j) = J6 l j
 | 0 => rfl
 | j + 1 => by
  have ih:=Mc l j
  unfold BX J6
  split
  ·rename_i h
   rw [h,Cn]
   simp
   exact ih
  ·simp only [MC,List.cons_append,List.nil_append,List.map_cons,List.sum_cons]
   have h2 : ((BX l j).map fun tx => (CW l (Ae l tx l.length)).length + 1).sum = J6 l j:=ih
   omega
theorem Vf {l : List Rec} (hl : l.length ≤ 150) (txs : List Int) : MC l txs ≤ 151 * txs.length:=by
 induction txs with
 | nil => simp [MC]
 | cons t ts ih =>
  simp only [MC,List.map_cons,List.sum_cons,List.length_cons] at ih ⊢
  have h1:=KX (l:=l) (Ae l t l.length)
  have h2:=Bc l t l.length
  omega
theorem J3 (l : List Rec) : ∀ j,(BX l j).length ≤ j
 | 0 => by simp [BX]
 | j + 1 => by
  have:=J3 l j
  unfold BX
  split <;> simp <;> omega
set_option maxHeartbeats 4000000 in
theorem NE {w0 w : World} {A : Option Addr} {c : Nat} {l : List Rec} (hb : Below w0.heap.size w0 w) (hr : Kd.C kRec w0 A l.length l) (hl : Au l = true) : Calls Tryz.prog 61 #[.slice A l.length c] w fun e w' => e = .returned (.int .i64 (need l)) ∧ Below w.heap.size w w':=by
 have HR:=As hr
 have HB:=As hb
 have HL:=As hl
 have hm:=BA hl
 have hol:=J3 l 3
 obtain ⟨xs,hxs⟩ : ∃ xs,BX l 3 = xs:=⟨_,rfl⟩
 rw [hxs] at hol
 have HXS:=As hxs
 clear hr hb hl hxs
 go_enter Tryz.func61,Tryz.ntmps61
 go_wp2_with (go_at_call 49;refine (Fu HB.out HR.out).mono ?_;rintro e w1 ⟨v,rfl,ho,hb1⟩;rw [HXS.out] at ho;obtain ⟨A1,c1,rfl, -,hC⟩:=ho.reads;have HX:=As hb1;have HC:=As hC;clear ho hb1 hC)
 go_loopw [3,9] (fun a i wr => ∃ (k b : Nat),k ≤ xs.length ∧ i = .int .i64 (k : Int) ∧ a = .int .i64 (b : Int) ∧ b ≤ 151 * k ∧ A7 (b + MC l (xs.drop k) = need l) ∧ A7 (Below w1.heap.size w1 wr)) (fun _ i _ => (xs.length - intOf i).toNat)
 case atStart => exact ⟨0,0,by omega,rfl,rfl,by omega,⟨by rw [List.drop_zero,Nat.zero_add, ← HXS.out];exact Mc l 3⟩,⟨Below.refl _ _⟩⟩
 case round =>
  obtain ⟨k,b,hk,rfl,rfl,hbk,HK,HW⟩:=hrel
  have HW0:=As (bj HX.out HW.out)
  have HW1:=As (bj HB.out HW0.out)
  by_cases hlt : k < xs.length
  ·obtain ⟨ad,rfl,g0⟩:=DW HC.out k hlt
   replace g0:=bc HW.out g0
   have hu:=KX (l:=l) (Ae l (iv xs k) l.length)
   have hu2:=Bc l (iv xs k) l.length
   have HD:=As (Ke hlt)
   go_wp2_with (go_at_call 100;refine (Mg (iv xs k) HW1.out HR.out HL.out).mono ?_;rintro e w2 ⟨v,rfl,ho,hb2⟩;obtain ⟨A2,c2,rfl, -, -⟩:=ho.reads;have HX2:=As (bj HW.out hb2);clear ho hb2;simp only [ints,List.length_map])
   go_roundw
   case rel => exact ⟨k + 1,b + ((CW l (Ae l (iv xs k) l.length)).length + 1),by omega,by go_num,by go_num,by omega,⟨by rw [← HK.out,HD.out];simp [MC];omega⟩,HX2⟩
   case measure => simp [intOf];omega
  ·have hke : k = xs.length:=by omega
   go_wp2
   go_ret
   exact ⟨Dz (by rw [← HK.out,hke,List.drop_length];simp [MC]),HW0.out⟩
def G6 (l : List Rec) : Bool:=decide (l.length + need l ≤ 150)
theorem Jk {l : List Rec} (hl : l.length ≤ 150) : need l ≤ 453:=by
 have h1:=Vf hl (BX l 3)
 have h2:=J3 l 3
 have h3:=Mc l 3
 rw [need, ← h3]
 omega
theorem KP {w0 w : World} {A : Option Addr} {c : Nat} {l : List Rec} (hb : Below w0.heap.size w0 w) (hr : Kd.C kRec w0 A l.length l) (hl : Au l = true) : Calls Tryz.prog 41 #[.slice A l.length c] w fun e w' => e = .returned (.bool (G6 l)) ∧ Below w.heap.size w w':=by
 have HR:=As hr
 have HB:=As hb
 have HL:=As hl
 have hm:=BA hl
 have hn:=Jk hm
 clear hr hb hl
 go_enter Tryz.func41,Tryz.ntmps41
 go_wp2_with (go_at_call 61;refine (NE HB.out HR.out HL.out).mono ?_;rintro e w1 ⟨rfl,hb1⟩)
 go_ret
 exact ⟨Af (by rw [G6];exact decide_eq_decide.mpr (by omega)),hb1⟩
def DL (l : List Rec) : List Page → List Nat → Bool
 | _, [] => true
 | ps,m :: ms => AL (AV (pg ps (rc l (m - 1)).page.toNat) (Br (rc l (m - 1)) 0)) && DL l (ps.set (rc l (m - 1)).page.toNat (AV (pg ps (rc l (m - 1)).page.toNat) (Br (rc l (m - 1)) 0))) ms
def KC (l : List Rec) (txs : List Int) : List Nat:=txs.flatMap fun tx => CW l (Ae l tx l.length)
def DR (l : List Rec) (ps : List Page) : Bool:=DL l ps (KC l (BX l 3))
theorem SA {l : List Rec} (hl : Au l = true) (n : Nat) : n ≤ l.length → ∀ m ∈ CW l n,0 < m ∧ m ≤ l.length ∧ ((rc l (m - 1)).kind = 1 ∨ (rc l (m - 1)).kind = 2):=by
 induction n using Nat.strongRecOn with
 | _ n ih =>
  intro hn m hm
  cases e : CW l n with
  | nil => rw [e] at hm;cases hm
  | cons a t =>
   obtain ⟨h1,h2,h3,h4⟩:=Gb n a t e
   have F:=Ag hl (k:=a - 1) (by omega)
   have h5:=F.prev_le
   rw [show a - 1 + 1 = a by omega] at h5
   rw [e] at hm
   rcases List.mem_cons.1 hm with rfl | hm
   ·exact ⟨h1,by omega,h3⟩
   ·rw [(h4 (by omega)).1] at hm
    exact ih _ (by omega) (by omega) m hm
theorem GR {l : List Rec} (hl : Au l = true) {m : Nat} (h0 : 0 < m) (hm : m ≤ l.length) (hk : (rc l (m - 1)).kind = 1 ∨ (rc l (m - 1)).kind = 2) : Cv (rc l (m - 1)) = true ∧ 0 ≤ (rc l (m - 1)).page ∧ (rc l (m - 1)).page < 5 ∧ (rc l (m - 1)).slot < 3:=by
 have h:=(Ag hl (k:=m - 1) (by omega)).ok
 refine ⟨h,?_⟩
 rw [D7] at h
 omega
theorem TW {w : World} {b b' g n cap : Nat} {v : Value} {xs : List Int} {ps : List Page} (h : AA w b v xs) (hp : Ii w b' (.slice (some ⟨g,0,none⟩) n cap) ps) : v.ownBlock = none ∨ v.ownBlock ≠ some g:=by
 refine .inr fun e => ?_
 obtain ⟨cells,hc1⟩:=Co h g e
 obtain ⟨inner,ho2⟩:=Kd.FZ hp
 obtain ⟨cells2,hc2⟩:=Co ho2 g rfl
 rw [hc1] at hc2
 injection hc2 with h1
 injection h1 with _ h2
 exact absurd h2 (by decide)
theorem Lf {w w1 : World} {b b' g n cap : Nat} {v : Value} {xs : List Int} {ps : List Page} (h : AA w b v xs) (hp : Ii w b' (.slice (some ⟨g,0,none⟩) n cap) ps) (hg : w.grownBy w1 (some g)) : AA w1 b v xs:=TV h hg (TW h hp)
theorem Ox {w : World} {b n c : Nat} {A : Option Addr} {xs : List Int} (h : AA w b (.slice A n c) xs) : Kd.C (Kd.int .i64) w A xs.length xs:=by
 obtain ⟨A1,c1,e,_,hC⟩:=h.reads
 injection e with e1
 subst e1
 exact hC
set_option maxHeartbeats 2000000 in
theorem Lm (r : Rec) (n : Int) (w : World) : Calls Tryz.prog 97 #[r.val, .int .i64 n] w fun e w' => e = .returned (Br r n).val ∧ Below w.heap.size w w':=by
 go_enter Tryz.func97,Tryz.ntmps97
 go_wp2
 exact bodyPost_ret (v:=(Br r n).val) (by simp [results,Tryz.results97,go_sem,Br]) rfl ⟨rfl,by go_grown⟩
theorem PU {P : Program} {c : Code} {Q : Exit → Act → World → Prop} {a : Act} {w : World} (r : Rec) (h : ∀ w1,Below w.heap.size w w1 → w1.heap.size = w.heap.size + 1 → GH w1 ⟨w.heap.size,0,none⟩ r → c.wp P Q a w1) : c.wp P Q a (w.alloc (.cells #[.int .i64 r.kind, .int .i64 r.tx, .int .i64 r.page, .int .i64 r.slot, .int .i64 r.old, .int .i64 r.new, .int .i64 r.prev, .int .i64 r.next] 43)):=
 h _ ((Below.refl _ _).alloc (Nat.le_refl _) _) (BD _ _) (GV w r)
theorem Po {ms : List Nat} {j : Nat} (h : j < ms.length) : iv (ints ms) j = (ms[j] : Int):=by
 simp [iv,ints,List.getD_eq_getElem?_getD,h]
set_option maxRecDepth 100000 in
set_option maxHeartbeats 4000000 in
theorem OQ {w0 w : World} {B : Option Addr} {d g cap : Nat} {ps : List Page} {l : List Rec} {b : Bool} (hv : DR l ps = b) (hg : geo ps) (hl : Au l = true) (hO : Ii w w0.heap.size (.slice (some ⟨g,0,none⟩) 5 cap) ps) (hb : Below w0.heap.size w0 w) (hr2 : Kd.C kRec w0 B l.length l) : Calls Tryz.prog 75 #[.slice (some ⟨g,0,none⟩) 5 cap, .slice B l.length d] w fun e w' => e = .returned (.bool b) ∧ Below w0.heap.size w0 w':=by
 have HR2:=As hr2
 have HB0:=As hb
 have HG:=As hg
 have HL:=As hl
 have HO0:=As hO
 have HVV:=As hv
 have hm:=BA hl
 have hgb : w0.heap.size ≤ g:=by
  obtain ⟨inner,ho⟩:=Kd.FZ hO
  exact BN ho g rfl
 obtain ⟨xs,hxs⟩ : ∃ xs,BX l 3 = xs:=⟨_,rfl⟩
 have hol:=J3 l 3
 rw [hxs] at hol
 have HXS:=As hxs
 clear hr2 hb hl hg hO hv hxs
 go_enter Tryz.func75,Tryz.ntmps75
 go_wp2_with (go_at_call 49;refine (Fu HB0.out HR2.out).mono ?_;rintro e w1 ⟨v,rfl,ho,hb1⟩;rw [HXS.out] at ho;obtain ⟨A1,c1,rfl, -, -⟩:=ho.reads;have HXO:=As (ho.lower HB0.out.size);have HB1:=As (bj HB0.out hb1);have HO1:=As (Kd.C8 HO0.out hb1);clear ho hb1)
 go_loopw [14] (fun i wr => ∃ (k : Nat) (psk : List Page),k ≤ xs.length ∧ i = .int .i64 (k : Int) ∧ A7 (geo psk) ∧ A7 (Ii wr w0.heap.size (.slice (some ⟨g,0,none⟩) 5 cap) psk) ∧ A7 (DR l ps = DL l psk (KC l (xs.drop k))) ∧ A7 (AA wr w0.heap.size (.slice A1 xs.length c1) xs) ∧ A7 (Below w0.heap.size w0 wr)) (fun i _ => (xs.length - intOf i).toNat)
 case atStart => exact ⟨0,ps,by omega,rfl,HG,HO1,⟨by rw [List.drop_zero, ← HXS.out];rfl⟩,HXO,HB1⟩
 case round =>
  obtain ⟨k,psk,hk,rfl,HGp,HOp,HT,HXp,HW⟩:=hrel
  by_cases hlt : k < xs.length
  ·obtain ⟨ad,rfl,g0⟩:=DW (Ox HXp.out) k hlt
   have HD:=As (Ke hlt)
   obtain ⟨ms,hms⟩ : ∃ ms,CW l (Ae l (iv xs k) l.length) = ms:=⟨_,rfl⟩
   have hml:=KX (l:=l) (Ae l (iv xs k) l.length)
   have hll:=Bc l (iv xs k) l.length
   rw [hms] at hml
   have HMM:=As (SA HL.out _ hll)
   rw [hms] at HMM
   have HMN:=As hms
   clear hms
   go_wp2_with (go_at_call 100;refine (Mg (iv xs k) HW.out HR2.out HL.out).mono ?_;rintro e w2 ⟨v,rfl,ho,hb2⟩;rw [HMN.out] at ho;obtain ⟨A2,c2,rfl, -, -⟩:=ho.reads;have HMO:=As (ho.lower HW.out.size);have HB2:=As (bj HW.out hb2);have HO2:=As (Kd.C8 HOp.out hb2);have HX2:=As (HXp.out.below hb2);clear ho hb2;simp only [ints,List.length_map])
   go_loopw [22] (fun i wi => ∃ (j : Nat) (cur : List Page),j ≤ ms.length ∧ i = .int .i64 (j : Int) ∧ A7 (geo cur) ∧ A7 (Ii wi w0.heap.size (.slice (some ⟨g,0,none⟩) 5 cap) cur) ∧ A7 (DR l ps = DL l cur (ms.drop j ++ KC l (xs.drop (k + 1)))) ∧ A7 (AA wi w0.heap.size (.slice (some ad) xs.length c1) xs) ∧ A7 (AA wi w0.heap.size (.slice A2 (ints ms).length c2) (ints ms)) ∧ A7 (Below w0.heap.size w0 wi)) (fun i _ => (ms.length - intOf i).toNat)
   case atStart => exact ⟨0,psk,by omega,rfl,HGp,HO2,⟨by rw [HT.out,HD.out,List.drop_zero,KC,List.flatMap_cons,HMN.out];rfl⟩,HX2,HMO,HB2⟩
   case round =>
    obtain ⟨j,cur,hj,rfl,HGk,HOi,HU2,HXi,HMi,HWi⟩:=hrel
    by_cases hjt : j < ms.length
    ·obtain ⟨ad2,rfl,g1⟩:=DW (Ox HMi.out) j (by simpa [ints] using hjt)
     rw [Po hjt] at g1
     obtain ⟨n,hn⟩ : ∃ n,ms[j] = n:=⟨_,rfl⟩
     obtain ⟨hn0,hnl,hnk⟩:=HMM.out n (hn ▸ List.getElem_mem hjt)
     have HMS:=As (show ms.drop j = n :: ms.drop (j + 1) by rw [List.drop_eq_getElem_cons hjt,hn])
     rw [hn] at g1
     obtain ⟨hrok,hp0,hp5,hs3⟩:=GR HL.out hn0 hnl hnk
     obtain ⟨m,rfl⟩ : ∃ m,n = m + 1:=⟨n - 1,by omega⟩
     obtain ⟨ad3,rfl,QR⟩:=Cs (BF HR2.out HWi.out) m (by omega)
     obtain ⟨z0,z1,z2,z3,z4,z5,z6,z7⟩:=QR
     rw [show ((m + 1 : Nat) : Int) = (m : Int) + 1 from rfl] at g1
     rw [Nat.add_sub_cancel] at hrok hp0 hp5 hs3
     obtain ⟨rb,hrb⟩ : ∃ rb,Br (rc l m) 0 = rb:=⟨_,rfl⟩
     have hpg : (rc l m).page = rb.page:=by rw [← hrb];rfl
     have hsl : (rc l m).slot = rb.slot:=by rw [← hrb];rfl
     rw [hpg] at hp0 hp5
     rw [hsl] at hs3
     have hpn : rb.page.toNat < 5:=by omega
     have HP:=As hs3
     have HRB : A7 (Br (rc l (m + 1 - 1)) 0 = rb):=⟨by rw [Nat.add_sub_cancel];exact hrb⟩
     have HPG : A7 ((rc l (m + 1 - 1)).page.toNat = rb.page.toNat):=⟨by rw [Nat.add_sub_cancel,hpg]⟩
     have hback : ∀ w,Calls Tryz.prog 89 #[(rc l m).val, .int .i64 0] w fun e w' => e = .returned rb.val ∧ Below w.heap.size w w':=fun w => hrb ▸ NJ (rc l m) 0 w
     have HBK:=As hback
     have HT2:=HVV
     have hml2 : m < l.length:=by omega
     clear hrb hpg hsl hs3 hrok hback hn hnk hnl hn0
     go_wp2_with (first | (go_at_call 89;refine (HBK.out _).mono ?_;rintro e wb ⟨rfl,hbb⟩;have HWb:=As (bj HWi.out hbb);have HOb:=As (Kd.C8 HOi.out hbb);have HXb:=As (HXi.out.below hbb);have HMb:=As (HMi.out.below hbb);clear hbb))
     refine PU rb (fun w3 hb2 hz2 hq2 => ?_)
     have HW3:=As (bj HWb.out hb2)
     have HO3:=As (Kd.C8 HOb.out hb2)
     have HXS3:=As (HXb.out.below hb2)
     have HMS3:=As (HMb.out.below hb2)
     have HQ3:=As hq2
     obtain ⟨x0,x1,x2,x3,x4,x5,x6,x7⟩:=hq2
     simp only [Nat.zero_add] at x1 x2 x3 x4 x5 x6 x7
     obtain ⟨A3,c3,p0,p1,p2,pC, -⟩:=SF HO3.out rb.page.toNat hpn
     have HPC:=As pC
     clear hb2 pC
     obtain ⟨q,hq⟩ : ∃ q,AV (pg cur rb.page.toNat) rb = q:=⟨_,rfl⟩
     have HQ:=As hq
     have hg3:=Ia HGk.out hpn
     have HG3:=As hg3
     have hgw : g < w3.heap.size:=YG HO3.out g rfl
     have hcall : ∀ wx,Below w3.heap.size w3 wx → Calls Tryz.prog 77 #[(pg cur rb.page.toNat).val A3 c3,rb.val] wx (Oc wx q):=fun wx hb => HQ.out ▸ KA rb (by rw [HG3.out];decide) (by rw [HG3.out];have:=HP.out;omega) hb HPC.out
     clear hq hg3
     refine Bo (fun lx a wx => (Below w0.heap.size w0 wx ∧ Below w3.heap.size w3 wx) ∧ (Sl 6 38 (fun v wx => ∃ u,v = q.own u ∧ AA wx w3.heap.size u q.vals) lx a wx ∧ Sl 7 10 (fun v wx => ∃ B,v = .pointer (some ⟨B,0,none⟩) ∧ w3.heap.size ≤ B ∧ AU wx B zp (.slice none 0 0)) lx a wx)) 8 rfl (by kernel_rfl) (⟨⟨Ac HW3.out,Ac (Below.refl _ _)⟩,Bp,Bp⟩) (fun HT => ?_)
     refine Bw [0,1,2,3,4,5] ?_
     iterate 6 (refine Bq (v:=?_) HT rfl (by kernel_rfl) rfl (kA Ah (kA (Ak rfl rfl) (Ak rfl rfl))) (by rfl) (fun _ _ _ h => h) (fun lx ax wx hS => ?_) ?_;rotate_left;(obtain ⟨⟨-,hbx⟩, -⟩:=hS;obtain ⟨x0,x1,x2,x3,x4,x5,x6,x7⟩:=HQ3.out.up hbx;simp only [Nat.zero_add] at x1 x2 x3 x4 x5 x6 x7;replace p0:=bc hbx p0;replace p1:=bc hbx p1;replace p2:=bc hbx p2;go_simp;with_reducible rfl);rotate_left;simp only [sc0,sc1])
     refine Bv ?_
     refine AJ [6,7] (by kernel_rfl) (fun i hi w4 hS => ?_)
     rcases List.mem_cons.1 hi with rfl | hi
     ·refine Cz (f:=77) (args:=#[(pg cur rb.page.toNat).val A3 c3,rb.val]) rfl rfl Tryz.func77 (by kernel_rfl) rfl rfl (by rfl) (by simp only [List.map_toArray,List.map_cons,List.map_nil];rfl) ((hcall w4 hS.1.2).mono ?_)
      rintro e w6 ⟨u,rfl,ho,hb⟩
      refine ⟨_,rfl,⟨⟨bj hS.1.1 hb,bj hS.1.2 hb⟩,fun _ => ⟨u,rfl,ho.lower hS.1.2.size⟩,fun h => ?_⟩,?_⟩
      ·exact (Ao h (by kernel_rfl)).elim
      simp only [sc0,sc1]
      refine AJ [7] (by kernel_rfl) (fun i hi w5 hS => ?_)
      obtain rfl:=List.mem_singleton.1 hi
      refine BG (w1:=?_) (.pointer (some ⟨w5.heap.size,0,none⟩)) rfl rfl (by rfl) ?_ ?_
      rotate_left
      ·go_simp
       with_reducible rfl
      refine ⟨⟨⟨Aa hS.1.1 _,Aa hS.1.2 _⟩,fun h => ?_,fun _ => ⟨w5.heap.size,rfl,hS.1.2.size,AU.mk1 w5 zp _⟩⟩,?_⟩
      ·obtain ⟨u1,hu1,ho1⟩:=hS.2.1 (by kernel_rfl)
       exact ⟨u1,hu1,ho1.below (Aa (Below.refl _ _) _)⟩
      simp only [sc0,sc1]
      refine Cb (i:=8) (by kernel_rfl) rfl (fun w7 hS => ?_)
      obtain ⟨⟨h1,h2⟩,h3,h4⟩:=hS
      obtain ⟨u1,hu1,hown⟩:=h3 (by kernel_rfl)
      obtain ⟨B,hB,hBle,hbox⟩:=h4 (by kernel_rfl)
      have hu1 : q.own u = q.own u1:=hu1
      obtain rfl : u = u1:=by simpa using hu1
      obtain rfl : B = w5.heap.size:=by
       have hB : Value.pointer (some ⟨w5.heap.size,0,none⟩) = .pointer (some ⟨B,0,none⟩):=hB
       injection hB with hB
       injection hB with hB
       injection hB with hB
       exact hB.symm
      have H2:=As (CR h2 hBle q u)
      have H1:=As (CR (g:=w5.heap.size) h1 (by have:=HW3.out.size;omega) q u)
      have HBX:=As (hbox.CK q u)
      have HU:=As (Iu hown (DJ hown hbox) q u)
      have HUN:=As (DJ hown hbox)
      have b0:=hbox.c0
      have b1:=hbox.c1
      have b2:=hbox.c2
      have d0:=hbox.frz 0
      have d1:=hbox.frz 1
      have d2:=hbox.frz 2
      obtain ⟨A8,c8,rfl, -, -⟩:=hown.reads
      refine BH (w1:=?_) rfl (by rfl) ?_ ?_
      rotate_left
      ·go_simp
       with_reducible rfl
      refine BM (by kernel_rfl) ?_
      clear hu1 hB h1 h2 h3 h4 hown hbox b0 b1 b2 d0 d1 d2 p0 p1 p2 hcall ho
      obtain ⟨W8,hW8⟩ : ∃ W8,CK w7 w5.heap.size q (.slice A8 q.vals.length c8) = W8:=⟨_,rfl⟩
      rw [hW8] at H1 H2 HBX HU
      have e8:=hW8
      unfold CK at e8
      rw [e8]
      clear e8 hW8
      have b0:=HBX.out.c0
      have b1:=HBX.out.c1
      have b2:=HBX.out.c2
      have d0:=HBX.out.frz 0
      obtain ⟨-, -,x2, -, -, -, -, -⟩:=HQ3.out.up H2.out
      simp only [Nat.zero_add] at x2
      have hne : wb.heap.size ≠ w5.heap.size:=by omega
      have hne2 : w5.heap.size ≠ wb.heap.size:=by omega
      have hne3 : g ≠ w5.heap.size:=by omega
      have HLB:=As hBle
      have HLN:=As hpn
      cases hv : AL q
      ·have HV:=As hv
       clear hv
       go_wp2_with (go_at_call 72;refine (Ec HV.out (Below.refl _ _) (Ox HU.out)).mono ?_;rintro e wp ⟨rfl,hbp⟩;have H1p:=As (bj H1.out hbp);clear hbp)
       go_ret
       exact ⟨Af (by rw [← HT2.out,HU2.out,HMS.out,List.cons_append,DL,HRB.out,HPG.out,HQ.out,HV.out];rfl),H1p.out⟩
      ·have HV:=As hv
       clear hv
       go_wp2_with (first | (go_at_call 72;refine (Ec HV.out (Below.refl _ _) (Ox HU.out)).mono ?_;rintro e wp ⟨rfl,hbp⟩;have H1p:=As (bj H1.out hbp);have H2p:=As (bj H2.out hbp);have HUp:=As (HU.out.below hbp);have b0':=(HBX.out.up hbp).c0;have b1':=(HBX.out.up hbp).c1;have b2':=(HBX.out.up hbp).c2;obtain ⟨-, -,x2', -, -, -, -, -⟩:=HQ3.out.up H2p.out;simp only [Nat.zero_add] at x2';clear hbp) | (with_reducible refine OE (.store 47 (.tmp 46) (.tmp 45)) rfl ?_;refine Mq (w0:=w0) (N:=w3.heap.size) (q:=q) rb.page.toNat (Js HGk.out) rfl rfl (.tmp 46) (.tmp 45) rfl rfl rfl HUp.out HW3.out.size (Kd.C8 HO3.out H2p.out) HLN.out H1p.out ?_;intro w9 hO9 hB9 hg9;have HX9:=As (Lf (HXS3.out.below H2p.out) (Kd.C8 HO3.out H2p.out) hg9);have HM9:=As (Lf (HMS3.out.below H2p.out) (Kd.C8 HO3.out H2p.out) hg9);have HO9:=As hO9;have HB9:=As hB9;clear hO9 hB9 hg9))
       go_roundw
       case rel => exact ⟨j + 1,cur.set rb.page.toNat q,by omega,by go_num,⟨by rw [← HQ.out];exact Lr HGk.out (IW HG3.out)⟩,HO9,⟨by rw [HU2.out,HMS.out,List.cons_append,DL,HRB.out,HPG.out,HQ.out,HV.out];rfl⟩,HX9,HM9,HB9⟩
       case measure => simp [intOf];omega
     ·obtain rfl:=List.mem_singleton.1 hi
      refine BG (w1:=?_) (.pointer (some ⟨w4.heap.size,0,none⟩)) rfl rfl (by rfl) ?_ ?_
      rotate_left
      ·go_simp
       with_reducible rfl
      refine ⟨⟨⟨Aa hS.1.1 _,Aa hS.1.2 _⟩,fun h => ?_,fun _ => ⟨w4.heap.size,rfl,hS.1.2.size,AU.mk1 w4 zp _⟩⟩,?_⟩
      ·exact (Ao h (by kernel_rfl)).elim
      simp only [sc0,sc1]
      refine AJ [6] (by kernel_rfl) (fun i hi w5 hS => ?_)
      obtain rfl:=List.mem_singleton.1 hi
      refine Cz (f:=77) (args:=#[(pg cur rb.page.toNat).val A3 c3,rb.val]) rfl rfl Tryz.func77 (by kernel_rfl) rfl rfl (by rfl) (by simp only [List.map_toArray,List.map_cons,List.map_nil];rfl) ((hcall w5 hS.1.2).mono ?_)
      rintro e w6 ⟨u,rfl,ho,hb⟩
      refine ⟨_,rfl,⟨⟨bj hS.1.1 hb,bj hS.1.2 hb⟩,fun _ => ⟨u,rfl,ho.lower hS.1.2.size⟩,fun h => ?_⟩,?_⟩
      ·obtain ⟨B,hB,hBle,hbox⟩:=hS.2.2 (by kernel_rfl)
       exact ⟨B,hB,hBle,hbox.up hb⟩
      simp only [sc0,sc1]
      refine Cb (i:=8) (by kernel_rfl) rfl (fun w7 hS => ?_)
      obtain ⟨⟨h1,h2⟩,h3,h4⟩:=hS
      obtain ⟨u1,hu1,hown⟩:=h3 (by kernel_rfl)
      obtain ⟨B,hB,hBle,hbox⟩:=h4 (by kernel_rfl)
      have hu1 : q.own u = q.own u1:=hu1
      obtain rfl : u = u1:=by simpa using hu1
      obtain rfl : B = w4.heap.size:=by
       have hB : Value.pointer (some ⟨w4.heap.size,0,none⟩) = .pointer (some ⟨B,0,none⟩):=hB
       injection hB with hB
       injection hB with hB
       injection hB with hB
       exact hB.symm
      have H2:=As (CR h2 hBle q u)
      have H1:=As (CR (g:=w4.heap.size) h1 (by have:=HW3.out.size;omega) q u)
      have HBX:=As (hbox.CK q u)
      have HU:=As (Iu hown (DJ hown hbox) q u)
      have HUN:=As (DJ hown hbox)
      have b0:=hbox.c0
      have b1:=hbox.c1
      have b2:=hbox.c2
      have d0:=hbox.frz 0
      have d1:=hbox.frz 1
      have d2:=hbox.frz 2
      obtain ⟨A8,c8,rfl, -, -⟩:=hown.reads
      refine BH (w1:=?_) rfl (by rfl) ?_ ?_
      rotate_left
      ·go_simp
       with_reducible rfl
      refine BM (by kernel_rfl) ?_
      clear hu1 hB h1 h2 h3 h4 hown hbox b0 b1 b2 d0 d1 d2 p0 p1 p2 hcall ho
      obtain ⟨W8,hW8⟩ : ∃ W8,CK w7 w4.heap.size q (.slice A8 q.vals.length c8) = W8:=⟨_,rfl⟩
      rw [hW8] at H1 H2 HBX HU
      have e8:=hW8
      unfold CK at e8
      rw [e8]
      clear e8 hW8
      have b0:=HBX.out.c0
      have b1:=HBX.out.c1
      have b2:=HBX.out.c2
      have d0:=HBX.out.frz 0
      obtain ⟨-, -,x2, -, -, -, -, -⟩:=HQ3.out.up H2.out
      simp only [Nat.zero_add] at x2
      have hne : wb.heap.size ≠ w4.heap.size:=by omega
      have hne2 : w4.heap.size ≠ wb.heap.size:=by omega
      have hne3 : g ≠ w4.heap.size:=by omega
      have HLB:=As hBle
      have HLN:=As hpn
      cases hv : AL q
      ·have HV:=As hv
       clear hv
       go_wp2_with (go_at_call 72;refine (Ec HV.out (Below.refl _ _) (Ox HU.out)).mono ?_;rintro e wp ⟨rfl,hbp⟩;have H1p:=As (bj H1.out hbp);clear hbp)
       go_ret
       exact ⟨Af (by rw [← HT2.out,HU2.out,HMS.out,List.cons_append,DL,HRB.out,HPG.out,HQ.out,HV.out];rfl),H1p.out⟩
      ·have HV:=As hv
       clear hv
       go_wp2_with (first | (go_at_call 72;refine (Ec HV.out (Below.refl _ _) (Ox HU.out)).mono ?_;rintro e wp ⟨rfl,hbp⟩;have H1p:=As (bj H1.out hbp);have H2p:=As (bj H2.out hbp);have HUp:=As (HU.out.below hbp);have b0':=(HBX.out.up hbp).c0;have b1':=(HBX.out.up hbp).c1;have b2':=(HBX.out.up hbp).c2;obtain ⟨-, -,x2', -, -, -, -, -⟩:=HQ3.out.up H2p.out;simp only [Nat.zero_add] at x2';clear hbp) | (with_reducible refine OE (.store 47 (.tmp 46) (.tmp 45)) rfl ?_;refine Mq (w0:=w0) (N:=w3.heap.size) (q:=q) rb.page.toNat (Js HGk.out) rfl rfl (.tmp 46) (.tmp 45) rfl rfl rfl HUp.out HW3.out.size (Kd.C8 HO3.out H2p.out) HLN.out H1p.out ?_;intro w9 hO9 hB9 hg9;have HX9:=As (Lf (HXS3.out.below H2p.out) (Kd.C8 HO3.out H2p.out) hg9);have HM9:=As (Lf (HMS3.out.below H2p.out) (Kd.C8 HO3.out H2p.out) hg9);have HO9:=As hO9;have HB9:=As hB9;clear hO9 hB9 hg9))
       go_roundw
       case rel => exact ⟨j + 1,cur.set rb.page.toNat q,by omega,by go_num,⟨by rw [← HQ.out];exact Lr HGk.out (IW HG3.out)⟩,HO9,⟨by rw [HU2.out,HMS.out,List.cons_append,DL,HRB.out,HPG.out,HQ.out,HV.out];rfl⟩,HX9,HM9,HB9⟩
       case measure => simp [intOf];omega
    ·have HJ:=As (show j = ms.length by omega)
     go_wp2
     go_roundw
     case rel => exact ⟨k + 1,cur,by omega,by go_num,HGk,HOi,⟨by rw [HU2.out,HJ.out,List.drop_length,List.nil_append]⟩,HXi,HWi⟩
     case measure => simp [intOf];omega
  ·have HE:=As (show k = xs.length by omega)
   go_wp2
   go_ret
   exact ⟨Af (by rw [← HVV.out,HT.out,HE.out,List.drop_length];rfl),HW.out⟩
theorem Ve (p : Page) (r : Rec) : doR p r p.lsn = AV p r:=by
 unfold doR AV
 split
 ·rfl
 ·split <;> rfl
def GI (l : List Rec) : Nat → List Nat
 | 0 => []
 | j + 1 => CW l (Ae l (3 - j : Int) l.length) ++ GI l j
theorem EC (l : List Rec) : ∀ j,KC l (BX l j) = GI l j
 | 0 => rfl
 | j + 1 => by
  have ih:=EC l j
  unfold BX GI
  split
  ·rename_i h
   rw [h,Cn,List.nil_append,List.nil_append,ih]
  ·rw [KC,List.flatMap_append]
   rw [KC] at ih
   rw [ih]
   simp
set_option maxRecDepth 100000 in
set_option maxHeartbeats 4000000 in
theorem MK {w0 w : World} {B : Option Addr} {d g cap : Nat} {ps : List Page} {l : List Rec} {b : Bool} (hv : DR l ps = b) (hg : geo ps) (hl : Au l = true) (hO : Ii w w0.heap.size (.slice (some ⟨g,0,none⟩) 5 cap) ps) (hb : Below w0.heap.size w0 w) (hr2 : Kd.C kRec w0 B l.length l) : Calls Tryz.prog 56 #[.slice (some ⟨g,0,none⟩) 5 cap, .slice B l.length d] w fun e w' => e = .returned (.bool b) ∧ Below w0.heap.size w0 w':=by
 have HR2:=As hr2
 have HB0:=As hb
 have HG:=As hg
 have HL:=As hl
 have HO0:=As hO
 have HVV:=As hv
 have hm:=BA hl
 have hgb : w0.heap.size ≤ g:=by
  obtain ⟨inner,ho⟩:=Kd.FZ hO
  exact BN ho g rfl
 clear hr2 hb hl hg hO hv
 go_enter Tryz.func56,Tryz.ntmps56
 go_wp2
 go_loopw [5] (fun i wr => ∃ (j : Nat) (psk : List Page),j ≤ 3 ∧ i = .int .i64 (4 - j : Int) ∧ A7 (geo psk) ∧ A7 (Ii wr w0.heap.size (.slice (some ⟨g,0,none⟩) 5 cap) psk) ∧ A7 (DR l ps = DL l psk (GI l j)) ∧ A7 (Below w0.heap.size w0 wr)) (fun i _ => (4 - intOf i).toNat)
 case atStart => exact ⟨3,ps,by omega,rfl,HG,HO0,⟨by rw [DR,EC]⟩,HB0⟩
 case round =>
  obtain ⟨j,psk,hj,rfl,HGp,HOp,HT,HW⟩:=hrel
  rcases j with _ | j
  ·go_wp2
   go_ret
   exact ⟨Af (by rw [← HVV.out,HT.out];rfl),HW.out⟩
  ·have hw : (4 - ((j + 1 : Nat) : Int)) = 3 - (j : Int):=by omega
   rw [hw]
   have h1 : (3 - (j : Int)) ≤ 3:=by omega
   have h2 : 1 ≤ (3 - (j : Int)):=by omega
   obtain ⟨n0,hn0⟩ : ∃ n0,Ae l (3 - (j : Int)) l.length = n0:=⟨_,rfl⟩
   have hle:=Bc l (3 - (j : Int)) l.length
   rw [hn0] at hle
   have HN:=As hn0
   clear hw hn0
   go_wp2_with (first | (go_at_call 93;refine (Dn HN.out HW.out HR2.out).mono ?_;rintro e w' ⟨rfl,rfl⟩) | (go_at_call 96;refine (Ep hle (Below.refl _ _) (BF HR2.out HW.out) HL.out).mono ?_;rintro e w1 ⟨rfl,hb1⟩;have HX:=As (bj HW.out hb1);have HO1:=As (Kd.C8 HOp.out hb1);clear hb1))
   go_loopw [6] (fun i wi => ∃ (k : Nat) (cur : List Page),k ≤ l.length ∧ i = .int .i64 (Bt l k : Int) ∧ A7 (geo cur) ∧ A7 (Ii wi w0.heap.size (.slice (some ⟨g,0,none⟩) 5 cap) cur) ∧ A7 (DR l ps = DL l cur (CW l k ++ GI l j)) ∧ A7 (Below w0.heap.size w0 wi)) (fun i _ => (intOf i).toNat)
   case atStart => exact ⟨n0,psk,by omega,rfl,HGp,HO1,⟨by rw [HT.out,GI,HN.out]⟩,HX⟩
   case round =>
    obtain ⟨k,cur,hk,rfl,HGk,HOi,HU2,HWi⟩:=hrel
    obtain ⟨m,hm'⟩ : ∃ m,Bt l k = m:=⟨_,rfl⟩
    rw [hm']
    rcases m with _ | m
    ·have HZ:=As (FM hm')
     clear hm'
     go_wp2
     go_roundw
     case rel => exact ⟨j,cur,by omega,by go_num,HGk,HOi,⟨by rw [HU2.out,HZ.out,List.nil_append]⟩,HWi⟩
     case measure => simp [intOf];omega
    ·obtain ⟨h3,h4,h5,h6⟩:=K5 HL.out hk hm'
     have F:=Ag HL.out h4
     have HS:=As h3
     have hpl:=Gc (l:=l) (n:=Bu l (m + 1))
     obtain ⟨-,hp0,hp5,hs3⟩:=GR (m:=m + 1) HL.out (by omega) (by omega) (by simpa using h6)
     rw [Nat.add_sub_cancel] at hp0 hp5 hs3
     obtain ⟨rb,hrb⟩ : ∃ rb,Br (rc l m) 0 = rb:=⟨_,rfl⟩
     have hpn : (rc l m).page.toNat < 5:=by omega
     have HP:=As hs3
     have hsl : (rc l m).slot = rb.slot:=by rw [← hrb];rfl
     have HSL:=As (show rb.slot < 3 by omega)
     have hback : ∀ w,Calls Tryz.prog 97 #[(rc l m).val, .int .i64 0] w fun e w' => e = .returned rb.val ∧ Below w.heap.size w w':=fun w => hrb ▸ Lm (rc l m) 0 w
     have HBK:=As hback
     have HRB:=As hrb
     have HPR:=As F.prev
     obtain ⟨ad3,rfl,QR⟩:=Cs HR2.out m h4
     have HQR:=As QR
     obtain ⟨z0,z1,z2,z3,z4,z5,z6,z7⟩:=QR.up HWi.out
     obtain ⟨A3,c3,p0,p1,p2,pC, -⟩:=SF HOi.out (rc l m).page.toNat hpn
     have HPC:=As pC
     clear hsl hrb hback h3 F QR hm' h6 pC
     go_wp2
     obtain ⟨q,hq⟩ : ∃ q,doR (pg cur (rc l m).page.toNat) rb (pg cur (rc l m).page.toNat).lsn = q:=⟨_,rfl⟩
     have HQ:=As hq
     have hg3:=Ia HGk.out hpn
     have HG3:=As hg3
     have hcall : ∀ wx,Below wr.heap.size wr wx → Calls Tryz.prog 95 #[(pg cur (rc l m).page.toNat).val A3 c3,rb.val, .int .i64 (pg cur (rc l m).page.toNat).lsn] wx (Oc wx q):=fun wx hb => HQ.out ▸ KM rb (pg cur (rc l m).page.toNat).lsn (by rw [HG3.out];decide) (by rw [HG3.out];have:=HSL.out;omega) hb HPC.out
     have hwr : IntKind.i64.wrap (m : Int) = (m : Int):=by simp (disch:=omega) only [IntWalk.i64_in]
     clear hq hg3
     refine Bo (fun lx a wx => (Below w0.heap.size w0 wx ∧ Below wr.heap.size wr wx) ∧ Sl 17 50 (fun v wx => ∃ u,v = q.own u ∧ AA wx wr.heap.size u q.vals) lx a wx) 19 rfl (by kernel_rfl) (⟨⟨Ac HWi.out,Ac (Below.refl _ _)⟩,Bp⟩) (fun HT => ?_)
     refine Bw [0,1,2,3,4,5,6,7,8,9,10] ?_
     iterate 11 (refine Bq (v:=?_) HT rfl (by kernel_rfl) rfl (kA Ah (Ak rfl rfl)) (by rfl) (fun _ _ _ h => h) (fun lx ax wx hS => ?_) ?_;rotate_left;(have hba:=hS.1.1;have hbx:=hS.1.2;clear hS;obtain ⟨x0,x1,x2,x3,x4,x5,x6,x7⟩:=HQR.out.up hba;replace p0:=bc hbx p0;replace p1:=bc hbx p1;replace p2:=bc hbx p2;go_simp;with_reducible rfl);rotate_left;simp only [sc0,sc1])
     refine Bv ?_
     refine JH (i:=11) (f:=97) (v:=rb.val) (args:=#[(rc l m).val, .int .i64 0]) HT rfl (by kernel_rfl) rfl Tryz.func97 (by kernel_rfl) rfl rfl (kA Ah (Ak rfl rfl)) (by rfl) (fun _ _ _ h => h) (by simp only [List.map_toArray,List.map_cons,List.map_nil];rfl) (fun lx ax wx hS => (HBK.out wx).mono fun e w1 h => ⟨h.1,⟨bj hS.1.1 h.2,bj hS.1.2 h.2⟩,fun hx => (hS.2 hx).elim fun u hu => ⟨u,hu.1,hu.2.below h.2⟩⟩) ?_;simp only [sc0,sc1]
     refine Bw [12,13,14,15,16] ?_
     iterate 5 (refine Bq (v:=?_) HT rfl (by kernel_rfl) rfl (kA Ah (Ak rfl rfl)) (by rfl) (fun _ _ _ h => h) (fun lx ax wx hS => ?_) ?_;rotate_left;(have hba:=hS.1.1;have hbx:=hS.1.2;clear hS;obtain ⟨x0,x1,x2,x3,x4,x5,x6,x7⟩:=HQR.out.up hba;replace p0:=bc hbx p0;replace p1:=bc hbx p1;replace p2:=bc hbx p2;go_simp;with_reducible rfl);rotate_left;simp only [sc0,sc1])
     refine Bv ?_
     refine Cr (i:=17) (f:=95) (args:=#[(pg cur (rc l m).page.toNat).val A3 c3,rb.val, .int .i64 (pg cur (rc l m).page.toNat).lsn]) (fun v => ∃ u,v = q.own u) rfl (by kernel_rfl) rfl Tryz.func95 (by kernel_rfl) rfl rfl (by rfl) (by simp only [List.map_toArray,List.map_cons,List.map_nil];rfl) (fun wx hS => (hcall wx hS.1.2).mono (by rintro e w6 ⟨u,rfl,ho,hb⟩;exact ⟨_,rfl,⟨u,rfl⟩,⟨bj hS.1.1 hb,bj hS.1.2 hb⟩,fun _ => ⟨u,rfl,ho.lower hS.1.2.size⟩⟩)) (fun vx hg => ?_);simp only [sc0,sc1]
     obtain ⟨u,rfl⟩:=hg
     refine CZ (i:=18) (v:=?_) HT rfl (by kernel_rfl) rfl (kA Ah (Ak rfl rfl)) (by rfl) (fun _ _ _ h => h) (fun lx ax wx hS => ?_) ?_;rotate_left;(go_simp;with_reducible rfl);rotate_left;simp only [sc0,sc1]
     refine Cb (i:=19) (by kernel_rfl) rfl (fun wx hS => ?_)
     obtain ⟨⟨h1,h2⟩,h3⟩:=hS
     obtain ⟨u1,hu1,hown⟩:=h3 (by kernel_rfl)
     have hu1 : q.own u = q.own u1:=hu1
     obtain rfl : u = u1:=by simpa using hu1
     refine Rn (w0:=w0) (N:=wr.heap.size) (q:=q) (rc l m).page.toNat (Js HGk.out) (.tmp 51) (.tmp 50) rfl (by rfl) rfl rfl rfl hown HWi.out.size (Kd.C8 HOi.out h2) hpn h1 (fun w8 hO8 hB8 _ => ?_)
     have hpq : pg (cur.set (rc l m).page.toNat q) (rc l m).page.toNat = q:=by simp [pg,List.getD_eq_getElem?_getD,Js HGk.out,hpn]
     obtain ⟨A8,c8,b0,b1,b2,bC, -⟩:=SF hO8 (rc l m).page.toNat hpn
     rw [hpq] at b0 b1 b2 bC
     have HO8:=As hO8
     have HB8:=As hB8
     have HC8:=As bC
     have HQW : A7 (AV (pg cur (rc l m).page.toNat) rb = q):=⟨by rw [← HQ.out,Ve]⟩
     clear hO8 hB8 hown h1 h2 h3 hu1 hcall bC hpq p0 p1 p2 z0 z1 z2 z3 z4 z5 z6 z7
     refine BM (by kernel_rfl) ?_
     cases hv : AL q
     ·have HV:=As hv
      clear hv
      go_wp2_with (go_at_call 91;refine (EQ HV.out (Below.refl _ _) HC8.out).mono ?_;rintro e wp ⟨rfl,hbp⟩;have H1p:=As (bj HB8.out hbp);clear hbp)
      go_ret
      exact ⟨Af (by rw [← HVV.out,HU2.out,HS.out,List.cons_append,DL,Nat.add_sub_cancel,HRB.out,HQW.out,HV.out];rfl),H1p.out⟩
     ·have HV:=As hv
      clear hv
      go_wp2_with (first | (go_at_call 91;refine (EQ HV.out (Below.refl _ _) HC8.out).mono ?_;rintro e wp ⟨rfl,hbp⟩;have H1p:=As (bj HB8.out hbp);have HOp2:=As (Kd.C8 HO8.out hbp);obtain ⟨z0,z1,z2,z3,z4,z5,z6,z7⟩:=HQR.out.up H1p.out;rw [HPR.out] at z6;clear hbp) | (go_at_call 96;refine (Ep (n:=Bu l (m + 1)) (by omega) (Below.refl _ _) (BF HR2.out H1p.out) HL.out).mono ?_;rintro e w9 ⟨rfl,hb9⟩;have HB9:=As (bj H1p.out hb9);have HO9:=As (Kd.C8 HOp2.out hb9);clear hb9))
      go_roundw
      case rel => exact ⟨Bu l (m + 1),cur.set (rc l m).page.toNat q,by omega,rfl,⟨by rw [← HQW.out];exact Lr HGk.out (IW HG3.out)⟩,HO9,⟨by rw [HU2.out,HS.out,List.cons_append,DL,Nat.add_sub_cancel,HRB.out,HQW.out,HV.out];rfl⟩,HB9⟩
      case measure => simp [intOf];omega
theorem AA.form {w : World} {b : Nat} {v : Value} {xs : List Int} (h : AA w b v xs) : (v = .slice none 0 0 ∧ xs = []) ∨ ∃ g cap cur,v = .slice (some ⟨g,0,none⟩) xs.length cap ∧ b ≤ g ∧ w.heap[g]? = some (.cells cur 3 (0,0)) ∧ xs.length ≤ cap ∧ cap ≤ maxLen ∧ cur.size = cap * 1 ∧ cur.toList.take xs.length = xs.map (Value.int .i64):=by
 rcases h.2 with ⟨h1,h2⟩ | ⟨g,cap,cur,h1,h2,h3,h4,h5,h6,h7⟩
 ·exact .inl ⟨h1,List.eq_nil_of_length_eq_zero h2⟩
 ·exact .inr ⟨g,cap,cur,h1,h2,h3,h4,h5,h6,by rw [Nat.mul_one] at h7;exact h7⟩
def Iq (xs : List Int) : List Int:=xs.mergeSort fun x y => decide (x ≤ y)
theorem Nc {w : World} {b : Nat} {v : Value} {xs : List Int} (hl : xs.length ≤ 1000) (h : AA w b v xs) : Calls Tryz.prog 112 #[v] w fun e w' => e = .returned (.tuple #[]) ∧ AA w' b v (Iq xs) ∧ w.grownBy w' v.ownBlock:=by
 rcases h.form with ⟨rfl,rfl⟩ | ⟨g,cap,cur,rfl,h2,h3,h4,h5,h6,h7⟩
 ·refine (Tryz.slices_Sort_int_none none 0 w).mono fun e w' ⟨he,hw⟩ => ⟨he,?_,?_⟩
  ·rw [hw,show Iq [] = [] by simp [Iq]];exact AA.nil _ _
  ·rw [hw];exact ⟨rfl,rfl,rfl,Nat.le_refl _,fun _ _ _ => rfl⟩
 ·have hg : g < w.heap.size:=(Array.getElem?_eq_some_iff.1 h3).1
  refine (Tryz.slices_Sort_int g 0 cap xs w (holds_of_blockI h3 h7) hg (by omega)).mono fun e w' ⟨he,n,os,hw⟩ => ⟨he,?_,?_⟩
  ·rw [hw]
   have hs : (Iq xs).length = xs.length:=List.length_mergeSort _
   have:=ownsRow_sortedI (n:=n) (os:=os) (ts:=Iq xs) hs h2 h3 h4 h5 h6
   rw [← hs] at this
   rw [AA, ← hs]
   exact this
  ·rw [hw];exact grownBy_sortedI _
theorem UO (d : Array Int) : ∀ n j,j < n → d[j]! ∈ Go.Lib.compactUpTo d n:=by
 intro n
 induction n with
 | zero => intro j hj;omega
 | succ n ih =>
  intro j hj
  rw [Go.Lib.compactUpTo_succ,List.mem_append]
  by_cases e : j < n
  ·exact .inl (ih j e)
  ·obtain rfl : j = n:=by omega
   by_cases hk : Go.Lib.keeps d j = true
   ·exact .inr (by simp [hk])
   ·left
    have h1 : ¬ (j = 0 ∨ d[j]! ≠ d[j - 1]!):=by simpa [Go.Lib.keeps] using hk
    have h2 : d[j]! = d[j - 1]!:=by
     by_cases h : d[j]! = d[j - 1]!
     ·exact h
     ·exact absurd (.inr h) h1
    have h3 : j ≠ 0:=fun h => h1 (.inl h)
    rw [h2]
    exact ih (j - 1) (by omega)
theorem ME (zs : List Int) (x : Int) : x ∈ Go.Lib.compact zs ↔ x ∈ zs:=by
 constructor
 ·intro h
  unfold Go.Lib.compact Go.Lib.compactUpTo at h
  obtain ⟨j,hj,rfl⟩:=List.mem_map.1 h
  have hj : j < zs.length:=by simpa using (List.mem_filter.1 hj).1
  simp [hj]
 ·intro h
  obtain ⟨j,hj,rfl⟩:=List.getElem_of_mem h
  have:=UO zs.toArray zs.length j hj
  rw [show zs.toArray[j]! = zs[j] by simp [hj]] at this
  exact this
theorem Kw {w : World} {b : Nat} {v : Value} {xs : List Int} (hl : xs.length ≤ 1000) (h : AA w b v xs) : Calls Tryz.prog 114 #[v] w fun e w' => ∃ v',e = .returned v' ∧ AA w' b v' (Go.Lib.compact xs) ∧ w.grownBy w' v.ownBlock:=by
 rcases h.form with ⟨rfl,rfl⟩ | ⟨g,cap,cur,rfl,h2,h3,h4,h5,h6,h7⟩
 ·refine (Tryz.slices_Compact_int_empty none 0 w).mono fun e w' ⟨he,hw⟩ => ⟨_,he,?_,?_⟩
  ·rw [hw];exact AA.nil _ _
  ·rw [hw];exact ⟨rfl,rfl,rfl,Nat.le_refl _,fun _ _ _ => rfl⟩
 ·refine (Tryz.slices_Compact_int g 0 cap xs w (holds_of_blockI h3 h7) (by omega) h4).mono fun e w' ⟨he,n,hw⟩ => ⟨_,he,?_,?_⟩
  ·have hc:=Go.Lib.compact_length_le xs
   obtain ⟨ys,hys⟩ : ∃ ys,Go.Lib.compact xs ++ List.replicate (xs.length - (Go.Lib.compact xs).length) (0 : Int) = ys:=⟨_,rfl⟩
   have hyl : ys.length = xs.length:=by rw [← hys];simp;omega
   have:=ownsRow_sortedI (n:=n) (os:=#[]) (ts:=ys) hyl h2 h3 h4 h5 h6
   rw [Go.Sort.grow_empty] at this
   rw [hw,hys]
   have ht:=UJ this hc
   rw [Nat.mul_one] at ht
   have hy2 : (ys.map (Value.int .i64)).take (Go.Lib.compact xs).length = nums .i64 (Go.Lib.compact xs):=by
    rw [← hys,List.map_append,List.take_left' (by simp)]
    rfl
   rw [hy2] at ht
   exact ht
  ·rw [hw]
   have:=grownBy_sortedI (w:=w) (g:=g) (n:=n) (os:=#[]) (Go.Lib.compact xs ++ List.replicate (xs.length - (Go.Lib.compact xs).length) (0 : Int)).toArray
   rw [Go.Sort.grow_empty] at this
   exact this
theorem Uk (r : Rec) (w : World) : Calls Tryz.prog 80 #[r.val] w fun e w' => e = .returned (.bool true) ∧ Below w.heap.size w w':=by
 go_enter Tryz.func80,Tryz.ntmps80
 go_wp2
 go_ret
 exact ⟨rfl,by go_grown⟩
theorem Mv {r : Rec} {b : Bool} (hv : (r.kind == 3) = b) (w : World) : Calls Tryz.prog 117 #[r.val] w fun e w' => e = .returned (.bool b) ∧ Below w.heap.size w w':=by
 subst hv
 go_enter Tryz.func117,Tryz.ntmps117
 go_wp2
 go_ret
 exact ⟨rfl,by go_grown⟩
theorem NG {w : World} {A : Option Addr} {n c : Nat} (hm : n ≤ 9223372036854775807) (h : n ≤ c) : Calls Tryz.prog 113 #[.slice A n c] w fun e w' => e = .returned (.slice A n n) ∧ w = w':=by
 go_enter Tryz.func113,Tryz.ntmps113
 go_wp2
 all_goals (go_ret;exact ⟨rfl,rfl⟩)
def Y2 (w : World) (xs : List Int) (e : Ending) (w' : World) : Prop := ∃ A c,e = .returned (.slice A xs.length c) ∧ Kd.C (Kd.int .i64) w' A xs.length xs ∧ Below w.heap.size w w'
def BR (l : List Rec) (hold : Rec → Bool) (ks : List Nat) : List Int:=(ks.filter fun m => hold (rc l (m - 1))).map fun m => (rc l (m - 1)).page
def isLoad (r : Rec) : Bool:=r.kind == 3
theorem OG {l : List Rec} (hl : Au l = true) (n : Nat) : n ≤ l.length → ∀ m ∈ BO l n,0 < m ∧ m ≤ l.length:=by
 induction n using Nat.strongRecOn with
 | _ n ih =>
  intro hn m hm
  match n with
  | 0 => rw [C9] at hm;cases hm
  | n + 1 =>
   have F:=Ag hl (k:=n) (by omega)
   have h5:=F.prev_le
   rw [Dk h5] at hm
   rcases List.mem_cons.1 hm with rfl | hm
   ·omega
   ·exact ih _ (by omega) (by omega) m hm
set_option maxHeartbeats 4000000 in
theorem Nn {w0 w : World} {A : Option Addr} {c : Nat} {l : List Rec} (tx : Int) (hb : Below w0.heap.size w0 w) (hr : Kd.C kRec w0 A l.length l) (hl : Au l = true) : Calls Tryz.prog 79 #[.slice A l.length c, .int .i64 tx, .func (.func 80) #[] #[]] w (Y2 w (Go.Lib.compact (Iq (BR l (fun _ => true) (BO l (Ae l tx l.length)))))):=by
 have HR:=As hr
 have HB:=As hb
 have HL:=As hl
 have hm:=BA hl
 obtain ⟨ks,hks⟩ : ∃ ks,BO l (Ae l tx l.length) = ks:=⟨_,rfl⟩
 have hkl:=KS (l:=l) (Ae l tx l.length)
 have hll:=Bc l tx l.length
 rw [hks] at hkl
 have HKS:=As hks
 have HMM:=As (OG hl _ hll)
 rw [hks] at HMM
 clear hr hb hl hks
 go_enter Tryz.func79,Tryz.ntmps79
 go_wp2_with (go_at_call 111;refine (MF tx HB.out HR.out HL.out).mono ?_;rintro e w1 ⟨v,rfl,ho,hb1⟩;rw [HKS.out] at ho;obtain ⟨A1,c1,rfl, -,hC⟩:=ho.reads;have HC:=As hC;have HX:=As hb1;clear ho hb1 hC;simp only [ints,List.length_map])
 go_loopw [7,15] (fun v i wr => ∃ j : Nat,j ≤ ks.length ∧ i = .int .i64 (j : Int) ∧ A7 (AA wr w1.heap.size v (BR l (fun _ => true) (ks.take j))) ∧ A7 (Below w1.heap.size w1 wr)) (fun _ i _ => (ks.length - intOf i).toNat)
 case atStart => exact ⟨0,by omega,rfl,⟨AA.nil _ _⟩,⟨Below.refl _ _⟩⟩
 case round =>
  obtain ⟨j,hj,rfl,HO,HW⟩:=hrel
  have HWW:=As (bj HX.out HW.out)
  have HW0:=As (bj HB.out HWW.out)
  by_cases hlt : j < ks.length
  ·obtain ⟨ad,rfl,g0⟩:=DW HC.out j (by simpa [ints] using hlt)
   replace g0:=bc HW.out g0
   rw [Po hlt] at g0
   obtain ⟨n,hn⟩ : ∃ n,ks[j] = n:=⟨_,rfl⟩
   obtain ⟨hn0,hnl⟩:=HMM.out n (hn ▸ List.getElem_mem hlt)
   have HT:=As (show ks.take (j + 1) = ks.take j ++ [n] by rw [List.take_succ_eq_append_getElem hlt,hn])
   rw [hn] at g0
   obtain ⟨m,rfl⟩ : ∃ m,n = m + 1:=⟨n - 1,by omega⟩
   rw [show ((m + 1 : Nat) : Int) = (m : Int) + 1 from rfl] at g0
   have hml : m < l.length:=by omega
   obtain ⟨ad2,rfl,QR⟩:=Cs HR.out m hml
   obtain ⟨z0,z1,z2,z3,z4,z5,z6,z7⟩:=QR.up HW0.out
   have hpl : (BR l (fun _ => true) (ks.take j)).length ≤ 150:=by
    rw [BR,List.length_map]
    refine Nat.le_trans (List.length_filter_le _ _) ?_
    rw [List.length_take]
    omega
   have HPL:=As hpl
   clear hn hn0 hnl hpl QR
   go_wp2_with (first | (with_reducible refine Di (rc l m) ?_;intro w2 hb2 hz2 hq2;have HW3:=As (bj HW.out hb2);have HO3:=As (AA.below HO.out hb2);have HQ3:=As hq2;obtain ⟨x0,x1,x2,x3,x4,x5,x6,x7⟩:=hq2;simp only [Nat.zero_add] at x1 x2 x3 x4 x5 x6 x7;clear hb2) | (go_at_call 80;refine (Uk (rc l m) _).mono ?_;rintro e w3 ⟨rfl,hb3⟩;have HW2:=As (bj HW3.out hb3);have HO2:=As (AA.below HO3.out hb3);obtain ⟨-, -,y2, -, -, -, -, -⟩:=HQ3.out.up hb3;simp only [Nat.zero_add] at y2;clear hb3) | (at_builtin;(refine DU w1.heap.size rfl (.tmp 27) (.tmp 30) 39 3 .i64 8 rfl EB Gz (by omega) _ (BR l (fun _ => true) (ks.take j)) (rc l m).page rfl rfl HO2.out HW2.out HW2.out.size (by have:=HPL.out;omega) ?_;intro v1 w4 hown1 hb1 _ _;have HO4:=As hown1;have HW4:=As hb1;clear hown1 hb1)))
   go_roundw
   case rel => exact ⟨j + 1,by omega,by go_num,⟨by rw [HT.out,show BR l (fun _ => true) (ks.take j ++ [m + 1]) = BR l (fun _ => true) (ks.take j) ++ [(rc l m).page] by simp [BR]];exact HO4.out⟩,HW4⟩
   case measure => simp [intOf];omega
  ·have HE:=As (show j = ks.length by omega)
   have hps : (BR l (fun _ => true) (ks.take j)).length ≤ 150:=by
    rw [BR,List.length_map]
    refine Nat.le_trans (List.length_filter_le _ _) ?_
    rw [List.length_take]
    omega
   have HPS:=As hps
   clear hps
   go_wp2_with (first | (go_at_call 112;refine (Nc (by have:=HPS.out;omega) HO.out).mono ?_;rintro e w5 ⟨rfl,ho,hg⟩;have HW5:=As (HW.out.grown hg HW.out.size (fun k hk => HO.out.base hk));have HO5:=As ho;clear ho hg) | (go_at_call 114;refine (Kw (by have:=HPS.out;rw [Iq,List.length_mergeSort];omega) HO5.out).mono ?_;rintro e w6 ⟨v6,rfl,ho,hg⟩;have HW6:=As (HW5.out.grown hg HW5.out.size (fun k hk => HO5.out.base hk));obtain ⟨A6,c6,rfl,hc6,hC6⟩:=ho.reads;have HC6:=As hC6;have HL6:=As hc6;clear ho hg hC6 hc6) | (go_at_call 113;refine (NG (CY HC6.out).2 HL6.out).mono ?_;rintro e w7 ⟨rfl,rfl⟩))
   go_ret
   have hj : ks.take j = BO l (Ae l tx l.length):=by rw [HE.out,List.take_length,HKS.out]
   rw [← hj]
   exact ⟨A6,_,rfl,HC6.out,bj HX.out HW6.out⟩
set_option maxHeartbeats 4000000 in
theorem LY {w0 w : World} {A : Option Addr} {c : Nat} {l : List Rec} (tx : Int) (hb : Below w0.heap.size w0 w) (hr : Kd.C kRec w0 A l.length l) (hl : Au l = true) : Calls Tryz.prog 79 #[.slice A l.length c, .int .i64 tx, .func (.func 117) #[] #[]] w (Y2 w (Go.Lib.compact (Iq (BR l (isLoad) (BO l (Ae l tx l.length)))))):=by
 have HR:=As hr
 have HB:=As hb
 have HL:=As hl
 have hm:=BA hl
 obtain ⟨ks,hks⟩ : ∃ ks,BO l (Ae l tx l.length) = ks:=⟨_,rfl⟩
 have hkl:=KS (l:=l) (Ae l tx l.length)
 have hll:=Bc l tx l.length
 rw [hks] at hkl
 have HKS:=As hks
 have HMM:=As (OG hl _ hll)
 rw [hks] at HMM
 clear hr hb hl hks
 go_enter Tryz.func79,Tryz.ntmps79
 go_wp2_with (go_at_call 111;refine (MF tx HB.out HR.out HL.out).mono ?_;rintro e w1 ⟨v,rfl,ho,hb1⟩;rw [HKS.out] at ho;obtain ⟨A1,c1,rfl, -,hC⟩:=ho.reads;have HC:=As hC;have HX:=As hb1;clear ho hb1 hC;simp only [ints,List.length_map])
 go_loopw [7,15] (fun v i wr => ∃ j : Nat,j ≤ ks.length ∧ i = .int .i64 (j : Int) ∧ A7 (AA wr w1.heap.size v (BR l (isLoad) (ks.take j))) ∧ A7 (Below w1.heap.size w1 wr)) (fun _ i _ => (ks.length - intOf i).toNat)
 case atStart => exact ⟨0,by omega,rfl,⟨AA.nil _ _⟩,⟨Below.refl _ _⟩⟩
 case round =>
  obtain ⟨j,hj,rfl,HO,HW⟩:=hrel
  have HWW:=As (bj HX.out HW.out)
  have HW0:=As (bj HB.out HWW.out)
  by_cases hlt : j < ks.length
  ·obtain ⟨ad,rfl,g0⟩:=DW HC.out j (by simpa [ints] using hlt)
   replace g0:=bc HW.out g0
   rw [Po hlt] at g0
   obtain ⟨n,hn⟩ : ∃ n,ks[j] = n:=⟨_,rfl⟩
   obtain ⟨hn0,hnl⟩:=HMM.out n (hn ▸ List.getElem_mem hlt)
   have HT:=As (show ks.take (j + 1) = ks.take j ++ [n] by rw [List.take_succ_eq_append_getElem hlt,hn])
   rw [hn] at g0
   obtain ⟨m,rfl⟩ : ∃ m,n = m + 1:=⟨n - 1,by omega⟩
   rw [show ((m + 1 : Nat) : Int) = (m : Int) + 1 from rfl] at g0
   have hml : m < l.length:=by omega
   obtain ⟨ad2,rfl,QR⟩:=Cs HR.out m hml
   obtain ⟨z0,z1,z2,z3,z4,z5,z6,z7⟩:=QR.up HW0.out
   have hpl : (BR l (isLoad) (ks.take j)).length ≤ 150:=by
    rw [BR,List.length_map]
    refine Nat.le_trans (List.length_filter_le _ _) ?_
    rw [List.length_take]
    omega
   have HPL:=As hpl
   clear hn hn0 hnl hpl QR
   cases hv : (rc l m).kind == 3
   ·have HV:=As hv
    clear hv
    go_wp2_with (first | (with_reducible refine Di (rc l m) ?_;intro w2 hb2 hz2 hq2;have HW3:=As (bj HW.out hb2);have HO3:=As (AA.below HO.out hb2);have HQ3:=As hq2;obtain ⟨x0,x1,x2,x3,x4,x5,x6,x7⟩:=hq2;simp only [Nat.zero_add] at x1 x2 x3 x4 x5 x6 x7;clear hb2) | (go_at_call 117;refine (Mv HV.out _).mono ?_;rintro e w3 ⟨rfl,hb3⟩;have HW2:=As (bj HW3.out hb3);have HO2:=As (AA.below HO3.out hb3);obtain ⟨-, -,y2, -, -, -, -, -⟩:=HQ3.out.up hb3;simp only [Nat.zero_add] at y2;clear hb3))
    go_roundw
    case rel => exact ⟨j + 1,by omega,by go_num,⟨by rw [HT.out,show BR l isLoad (ks.take j ++ [m + 1]) = BR l isLoad (ks.take j) by have hv:=HV.out;simp [BR,List.filter_append,isLoad,hv]];exact HO2.out⟩,HW2⟩
    case measure => simp [intOf];omega
   ·have HV:=As hv
    clear hv
    go_wp2_with (first | (with_reducible refine Di (rc l m) ?_;intro w2 hb2 hz2 hq2;have HW3:=As (bj HW.out hb2);have HO3:=As (AA.below HO.out hb2);have HQ3:=As hq2;obtain ⟨x0,x1,x2,x3,x4,x5,x6,x7⟩:=hq2;simp only [Nat.zero_add] at x1 x2 x3 x4 x5 x6 x7;clear hb2) | (go_at_call 117;refine (Mv HV.out _).mono ?_;rintro e w3 ⟨rfl,hb3⟩;have HW2:=As (bj HW3.out hb3);have HO2:=As (AA.below HO3.out hb3);obtain ⟨-, -,y2, -, -, -, -, -⟩:=HQ3.out.up hb3;simp only [Nat.zero_add] at y2;clear hb3) | (at_builtin;(refine DU w1.heap.size rfl (.tmp 27) (.tmp 30) 39 3 .i64 8 rfl EB Gz (by omega) _ (BR l (isLoad) (ks.take j)) (rc l m).page rfl rfl HO2.out HW2.out HW2.out.size (by have:=HPL.out;omega) ?_;intro v1 w4 hown1 hb1 _ _;have HO4:=As hown1;have HW4:=As hb1;clear hown1 hb1)))
    go_roundw
    case rel => exact ⟨j + 1,by omega,by go_num,⟨by rw [HT.out,show BR l isLoad (ks.take j ++ [m + 1]) = BR l isLoad (ks.take j) ++ [(rc l m).page] by have hv:=HV.out;simp [BR,List.filter_append,isLoad,hv]];exact HO4.out⟩,HW4⟩
    case measure => simp [intOf];omega
  ·have HE:=As (show j = ks.length by omega)
   have hps : (BR l (isLoad) (ks.take j)).length ≤ 150:=by
    rw [BR,List.length_map]
    refine Nat.le_trans (List.length_filter_le _ _) ?_
    rw [List.length_take]
    omega
   have HPS:=As hps
   clear hps
   go_wp2_with (first | (go_at_call 112;refine (Nc (by have:=HPS.out;omega) HO.out).mono ?_;rintro e w5 ⟨rfl,ho,hg⟩;have HW5:=As (HW.out.grown hg HW.out.size (fun k hk => HO.out.base hk));have HO5:=As ho;clear ho hg) | (go_at_call 114;refine (Kw (by have:=HPS.out;rw [Iq,List.length_mergeSort];omega) HO5.out).mono ?_;rintro e w6 ⟨v6,rfl,ho,hg⟩;have HW6:=As (HW5.out.grown hg HW5.out.size (fun k hk => HO5.out.base hk));obtain ⟨A6,c6,rfl,hc6,hC6⟩:=ho.reads;have HC6:=As hC6;have HL6:=As hc6;clear ho hg hC6 hc6) | (go_at_call 113;refine (NG (CY HC6.out).2 HL6.out).mono ?_;rintro e w7 ⟨rfl,rfl⟩))
   go_ret
   have hj : ks.take j = BO l (Ae l tx l.length):=by rw [HE.out,List.take_length,HKS.out]
   rw [← hj]
   exact ⟨A6,_,rfl,HC6.out,bj HX.out HW6.out⟩
theorem Pv (l : List Rec) (n : Nat) (p : Int) : (Go.Lib.compact (Iq (BR l (fun _ => true) (BO l n)))).contains p = Fy l n p:=by
 rw [Bool.eq_iff_iff,List.contains_iff_mem,ME,Iq,List.mem_mergeSort,Fy,List.any_eq_true,BR,List.mem_map]
 simp
theorem O8 (l : List Rec) (n : Nat) (p : Int) : (Go.Lib.compact (Iq (BR l isLoad (BO l n)))).contains p = EZ l n p:=by
 rw [Bool.eq_iff_iff,List.contains_iff_mem,ME,Iq,List.mem_mergeSort,EZ,List.any_eq_true,BR,List.mem_map]
 simp [isLoad,and_assoc]
def F7 (l : List Rec) (page : Int) : List Int → Int → Bool → Int × Bool
 | [],by_,ok => (by_,ok)
 | tx :: txs,by_,ok => if Fy l (Ae l tx l.length) page = true then F7 l page txs tx (by_ == 0) else F7 l page txs by_ ok
def YW (w : World) (r : Int × Bool) (e : Ending) (w' : World) : Prop:=e = .returned (.tuple #[.int .i64 r.1, .bool r.2]) ∧ Below w.heap.size w w'
set_option maxHeartbeats 4000000 in
theorem Iy {w0 w : World} {A : Option Addr} {c : Nat} {l : List Rec} (page : Int) (hb : Below w0.heap.size w0 w) (hr : Kd.C kRec w0 A l.length l) (hl : Au l = true) : Calls Tryz.prog 44 #[.slice A l.length c, .int .i64 page] w (YW w (F7 l page (BX l 3) 0 true)):=by
 have HR:=As hr
 have HB:=As hb
 have HL:=As hl
 have hm:=BA hl
 obtain ⟨xs,hxs⟩ : ∃ xs,BX l 3 = xs:=⟨_,rfl⟩
 have hol:=J3 l 3
 rw [hxs] at hol
 have HXS:=As hxs
 clear hr hb hl hxs
 go_enter Tryz.func44,Tryz.ntmps44
 go_wp2_with (go_at_call 49;refine (Fu HB.out HR.out).mono ?_;rintro e w1 ⟨v,rfl,ho,hb1⟩;rw [HXS.out] at ho;obtain ⟨A1,c1,rfl, -,hC⟩:=ho.reads;have HC:=As hC;have HX:=As hb1;clear ho hb1 hC)
 go_loopw [6,7,13] (fun b o i wr => ∃ (k : Nat) (bi : Int) (ok : Bool),k ≤ xs.length ∧ i = .int .i64 (k : Int) ∧ b = .int .i64 bi ∧ o = .bool ok ∧ A7 (F7 l page (BX l 3) 0 true = F7 l page (xs.drop k) bi ok) ∧ A7 (Below w1.heap.size w1 wr)) (fun _ _ i _ => (xs.length - intOf i).toNat)
 case atStart => exact ⟨0,0,true,by omega,rfl,rfl,rfl,⟨by rw [HXS.out,List.drop_zero]⟩,⟨Below.refl _ _⟩⟩
 case round =>
  obtain ⟨k,bi,ok,hk,rfl,rfl,rfl,HK,HW⟩:=hrel
  have HWW:=As (bj HX.out HW.out)
  have HW0:=As (bj HB.out HWW.out)
  by_cases hlt : k < xs.length
  ·obtain ⟨ad,rfl,g0⟩:=DW HC.out k hlt
   replace g0:=bc HW.out g0
   have HD:=As (Ke hlt)
   cases hv : Fy l (Ae l (iv xs k) l.length) page
   all_goals
    have HV:=As hv
    clear hv
    go_wp2_with (first | (go_at_call 79;refine (Nn (iv xs k) HW0.out HR.out HL.out).mono ?_;rintro e w2 ⟨A2,c2,rfl,hC2,hb2⟩;have HC2:=As hC2;have HW2:=As (bj HW.out hb2);clear hC2 hb2) | (go_at_call 78;refine (JV page (Below.refl _ _) HC2.out).mono ?_;rintro e w3 ⟨rfl,rfl⟩;rw [Pv,HV.out]))
    go_roundw
   case rel => exact ⟨k + 1,bi,ok,by omega,by go_num,rfl,rfl,⟨by rw [HK.out,HD.out,F7,HV.out];rfl⟩,HW2⟩
   case measure => simp [intOf];omega
   case rel => exact ⟨k + 1,iv xs k,bi == 0,by omega,by go_num,rfl,rfl,⟨by rw [HK.out,HD.out,F7,HV.out];rfl⟩,HW2⟩
   case measure => simp [intOf];omega
  ·have HE:=As (show k = xs.length by omega)
   go_wp2
   go_ret2
   exact ⟨by rw [HK.out,HE.out,List.drop_length];rfl,HWW.out⟩
set_option maxRecDepth 100000 in
set_option maxHeartbeats 4000000 in
theorem NY {w0 w : World} {A : Option Addr} {c bl bp : Nat} {l : List Rec} (tx page : Int) {b : Bool} (hv : EZ l (Ae l tx l.length) page = b) (hb : Below w0.heap.size w0 w) (hr : Kd.C kRec w0 A l.length l) (hl : Au l = true) (h1 : w.cell? ⟨bl,0,none⟩ = some (.slice A l.length c)) (h2 : w.cell? ⟨bp,0,none⟩ = some (.int .i64 page)) : Calls Tryz.prog 116 #[.int .i64 tx, .pointer (some ⟨bl,0,none⟩), .pointer (some ⟨bp,0,none⟩)] w fun e w' => e = .returned (.bool b) ∧ Below w.heap.size w w':=by
 have HR:=As hr
 have HB:=As hb
 have HL:=As hl
 have HV:=As hv
 clear hr hb hl hv
 go_enter Tryz.func116,Tryz.ntmps116
 go_wp2
 obtain ⟨zs,hzs⟩ : ∃ zs,Go.Lib.compact (Iq (BR l isLoad (BO l (Ae l tx l.length)))) = zs:=⟨_,rfl⟩
 have HZ : A7 (zs.contains page = b):=⟨by rw [← hzs,O8,HV.out]⟩
 have hcall : ∀ wx,Below w.heap.size w wx → Calls Tryz.prog 79 #[.slice A l.length c, .int .i64 tx, .func (.func 117) #[] #[]] wx (Y2 wx zs):=fun wx hb => hzs ▸ LY tx (bj HB.out hb) HR.out HL.out
 clear hzs
 refine Bo (fun lx a wx => Below w.heap.size w wx ∧ Sl 2 7 (fun v wx => ∃ A2 c2,v = .slice A2 zs.length c2 ∧ Kd.C (Kd.int .i64) wx A2 zs.length zs) lx a wx) 5 rfl (by kernel_rfl) (⟨Ac (Below.refl _ _),Bp⟩) (fun HT => ?_)
 refine Bw [0,1,3] ?_
 iterate 3 (refine Bq (v:=?_) HT rfl (by kernel_rfl) rfl (kA Ah (Ak rfl rfl)) (by rfl) (fun _ _ _ h => h) (fun lx ax wx hS => ?_) ?_;rotate_left;(have hbx:=hS.1;clear hS;replace h1:=bc hbx h1;replace h2:=bc hbx h2;go_simp;with_reducible rfl);rotate_left;simp only [sc0,sc1])
 refine Bv ?_
 refine Cr (i:=2) (f:=79) (args:=#[.slice A l.length c, .int .i64 tx, .func (.func 117) #[] #[]]) (fun v => ∃ A2 c2,v = .slice A2 zs.length c2) rfl (by kernel_rfl) rfl Tryz.func79 (by kernel_rfl) rfl rfl (by rfl) (by simp only [List.map_toArray,List.map_cons,List.map_nil];rfl) (fun wx hS => (hcall wx hS.1).mono (by rintro e w6 ⟨A2,c2,rfl,hC,hb⟩;exact ⟨_,rfl,⟨A2,c2,rfl⟩,bj hS.1 hb,fun _ => ⟨A2,c2,rfl,hC⟩⟩)) (fun vx hg => ?_);simp only [sc0,sc1]
 obtain ⟨A2,c2,rfl⟩:=hg
 refine Cr (i:=4) (f:=78) (args:=#[.slice A2 zs.length c2, .int .i64 page]) (fun v => v = .bool b) rfl (by kernel_rfl) rfl Tryz.func78 (by kernel_rfl) rfl rfl (by rfl) (by simp only [List.map_toArray,List.map_cons,List.map_nil];rfl) (fun wx hS => (by obtain ⟨A3,c3,e3,hC⟩:=hS.2 (by kernel_rfl);have e3 : Value.slice A2 zs.length c2 = .slice A3 zs.length c3:=e3;injection e3 with e4;subst e4;exact (JV page (Below.refl _ _) hC).mono (by rintro e w6 ⟨rfl,rfl⟩;exact ⟨_,rfl,by rw [HZ.out],hS.1,fun _ => ⟨A2,c2,rfl,hC⟩⟩))) (fun vx hg => ?_);simp only [sc0,sc1]
 subst hg
 refine Cb (i:=5) (by kernel_rfl) rfl (fun wx hS => ?_)
 refine BG (w1:=wx) (.bool b) rfl rfl (by rfl) (by go_simp) ?_
 refine BM (by kernel_rfl) ?_
 go_wp2
 go_ret
 exact ⟨rfl,hS.1⟩
theorem Oj (w : World) (u v : Value) (T U : Nat) (hu : u.oneCell' = true) (hv : v.oneCell' = true) : ((w.alloc (.cells #[u] T)).alloc (.cells #[v] U)).cell? ⟨w.heap.size,0,none⟩ = some u ∧ ((w.alloc (.cells #[u] T)).alloc (.cells #[v] U)).cell? ⟨w.heap.size + 1,0,none⟩ = some v:=by
 constructor <;> go_simp
def GX (l : List Rec) (page : Int) (txs : List Int) : Bool:=txs.any fun tx => EZ l (Ae l tx l.length) page
set_option maxRecDepth 100000 in
set_option maxHeartbeats 4000000 in
theorem Pp {w0 w : World} {A B : Option Addr} {c d bl bp : Nat} {l : List Rec} {xs : List Int} (page : Int) (hb : Below w0.heap.size w0 w) (hr : Kd.C kRec w0 A l.length l) (hl : Au l = true) (h1 : w.cell? ⟨bl,0,none⟩ = some (.slice A l.length c)) (h2 : w.cell? ⟨bp,0,none⟩ = some (.int .i64 page)) (hx : Kd.C (Kd.int .i64) w B xs.length xs) : Calls Tryz.prog 132 #[.slice B xs.length d, .func (.func 116) #[] #[.pointer (some ⟨bl,0,none⟩), .pointer (some ⟨bp,0,none⟩)]] w (X0 (GX l page xs) w):=by
 have HR:=As hr
 have HB:=As hb
 have HL:=As hl
 have HX:=As hx
 have H1:=As h1
 have H2:=As h2
 have hm:=(CY hx).2
 clear hr hb hl hx h1 h2
 go_enter Tryz.func132,Tryz.ntmps132
 go_wp2
 go_loopw [8] (fun i wr => ∃ k : Nat,k ≤ xs.length ∧ i = .int .i64 (k : Int) ∧ A7 (GX l page xs = GX l page (xs.drop k)) ∧ A7 (Below w.heap.size w wr)) (fun i _ => (xs.length - intOf i).toNat)
 case atStart => exact ⟨0,Nat.zero_le _,rfl,⟨rfl⟩,⟨Below.refl _ _⟩⟩
 case round =>
  obtain ⟨k,hk,rfl,HK,HW⟩:=hrel
  by_cases hlt : k < xs.length
  ·obtain ⟨ad,rfl,g0⟩:=DW HX.out k hlt
   replace g0:=bc HW.out g0
   have HD:=As (Ke hlt)
   cases hp : EZ l (Ae l (iv xs k) l.length) page
   all_goals
    have HP:=As hp
    clear hp
    go_wp2_with (go_at_call 116;refine (NY (iv xs k) page HP.out (bj HB.out HW.out) HR.out HL.out (bc HW.out H1.out) (bc HW.out H2.out)).mono ?_;rintro e w1 ⟨rfl,hb1⟩;have HW1:=As (bj HW.out hb1);clear hb1)
   ·go_roundw
    case rel => exact ⟨k + 1,by omega,by go_num,⟨by rw [HK.out,HD.out,GX,List.any_cons,HP.out];rfl⟩,HW1⟩
    case measure => simp [intOf];omega
   ·go_ret
    exact ⟨k,rfl,by rw [HK.out,HD.out,GX,List.any_cons,HP.out];simp,HW1.out⟩
  ·have hke : k = xs.length:=by omega
   go_wp2
   go_ret
   exact ⟨-1,rfl,by rw [HK.out,hke,List.drop_length];rfl,HW.out⟩
theorem ML {w0 w : World} {A B : Option Addr} {c d bl bp : Nat} {l : List Rec} {xs : List Int} (page : Int) (hb : Below w0.heap.size w0 w) (hr : Kd.C kRec w0 A l.length l) (hl : Au l = true) (h1 : w.cell? ⟨bl,0,none⟩ = some (.slice A l.length c)) (h2 : w.cell? ⟨bp,0,none⟩ = some (.int .i64 page)) (hx : Kd.C (Kd.int .i64) w B xs.length xs) : Calls Tryz.prog 115 #[.slice B xs.length d, .func (.func 116) #[] #[.pointer (some ⟨bl,0,none⟩), .pointer (some ⟨bp,0,none⟩)]] w fun e w' => e = .returned (.bool (GX l page xs)) ∧ Below w.heap.size w w':=by
 have HF:=As (Pp (d:=d) page hb hr hl h1 h2 hx)
 clear hr hb hl h1 h2 hx
 go_enter Tryz.func115,Tryz.ntmps115
 go_wp2_with (go_at_call 132;refine HF.out.mono ?_;rintro e w' ⟨i,rfl,hi,hb⟩)
 go_ret
 exact ⟨by first | exact Af hi | rfl,hb⟩
theorem Li (l : List Rec) (p : Int) : ∀ j,GX l p (BX l j) = FR l p j
 | 0 => rfl
 | j + 1 => by
  have ih:=Li l p j
  unfold BX FR
  split
  ·rename_i h
   rw [h,I6,Bool.false_or,List.nil_append,ih]
  ·rw [GX,List.any_append]
   rw [GX] at ih
   rw [ih]
   simp
set_option maxHeartbeats 4000000 in
theorem FQ {w0 w : World} {A : Option Addr} {c : Nat} {l : List Rec} (page : Int) {b : Bool} (hv : FR l page 3 = b) (hb : Below w0.heap.size w0 w) (hr : Kd.C kRec w0 A l.length l) (hl : Au l = true) : Calls Tryz.prog 82 #[.slice A l.length c, .int .i64 page] w fun e w' => e = .returned (.bool b) ∧ Below w.heap.size w w':=by
 have HR:=As hr
 have HB:=As hb
 have HL:=As hl
 have HV:=As hv
 clear hr hb hl hv
 obtain ⟨W2,hW2⟩ : ∃ W2,(w.alloc (.cells #[.slice A l.length c] 24)).alloc (.cells #[.int .i64 page] 3) = W2:=⟨_,rfl⟩
 have hb2 : Below w.heap.size w W2:=by rw [← hW2];exact Aa (Aa (Below.refl _ _) _) _
 have hc1 : W2.cell? ⟨w.heap.size,0,none⟩ = some (.slice A l.length c):=by rw [← hW2];exact (Oj w _ _ _ _ rfl rfl).1
 have hc2 : W2.cell? ⟨w.heap.size + 1,0,none⟩ = some (.int .i64 page):=by rw [← hW2];exact (Oj w _ _ _ _ rfl rfl).2
 have H2:=As hW2
 have HB2:=As hb2
 have HC1:=As hc1
 have HC2:=As hc2
 clear hW2 hb2 hc1 hc2
 go_enter Tryz.func82,Tryz.ntmps82
 go_wp2_with (first | (go_at_call 49;rw [H2.out];refine (Fu (bj HB.out HB2.out) HR.out).mono ?_;rintro e w3 ⟨v,rfl,ho,hb3⟩;obtain ⟨A3,c3,rfl, -,hC⟩:=ho.reads;have HC:=As hC;have HX:=As (bj HB2.out hb3);have HX3:=As hb3;clear ho hb3 hC) | (go_at_call 115;refine (ML page (bj HB.out HX.out) HR.out HL.out (bc HX3.out HC1.out) (bc HX3.out HC2.out) HC.out).mono ?_;rintro e w4 ⟨rfl,hb4⟩;have HX4:=As (bj HX.out hb4);clear hb4))
 go_ret
 exact ⟨Af (by rw [← HV.out, ← Li]),HX4.out⟩
open Go.RowKit Go.Shelf Go.Proofs.YtjeodgfkilhkhaaGreatW.PrintWords Go.Proofs.YtjeodgfkilhkhaaGreatW.PrintLast Go.Proofs.YtjeodgfkilhkhaaGreatW.PrintMore
attribute [local go_sem] Oper.semAt_some
def KO (l : List Rec) (page : Int) (k : Nat) : Bool:=(rc l k).page == page && (Cu (rc l k).kind || (rc l k).kind == 3)
theorem QE {l : List Rec} {page : Int} {n : Nat} (h : KO l page n = true) : AO l page (n + 1) = n + 1:=by
 simp only [KO,Bool.and_eq_true,beq_iff_eq,Bool.or_eq_true] at h
 rw [AO,if_pos h]
theorem Ph {l : List Rec} {page : Int} {n : Nat} (h : KO l page n = false) : AO l page (n + 1) = AO l page n:=by
 rw [AO,if_neg]
 rintro ⟨h1,h2⟩
 have : KO l page n = true:=by
  simp only [KO,Bool.and_eq_true,beq_iff_eq,Bool.or_eq_true]
  exact ⟨h1,h2⟩
 rw [h] at this
 cases this
theorem Jq {l : List Rec} {page : Int} {n : Nat} : ∀ {k : Nat},k ≤ n → (∀ x ∈ JB n k,KO l page x = false) → AO l page n = AO l page (n - k)
 | 0,_,_ => rfl
 | k + 1,hk,h => by
  rw [Gj] at h
  rw [Jq (k:=k) (by omega) (fun x hx => h x (List.mem_append_left _ hx))]
  have h1:=h (n - 1 - k) (by simp)
  rw [show n - k = (n - (k + 1)) + 1 by omega,Ph (by rw [show n - (k + 1) = n - 1 - k by omega];exact h1)]
set_option maxRecDepth 100000 in
set_option maxHeartbeats 4000000 in
theorem GZ {w0 w : World} {A : Option Addr} {c : Nat} {l : List Rec} (page : Int) (hb : Below w0.heap.size w0 w) (hr : Kd.C kRec w0 A l.length l) : Calls Tryz.prog 83 #[.slice A l.length c, .int .i64 page] w fun e w' => e = .returned (.int .i64 (AO l page l.length)) ∧ Below w.heap.size w w':=by
 have HR:=As hr
 have HB:=As hb
 have hm:=(CY hr).2
 clear hr hb
 refine (callsIn_wide (n:=5)).1 ?_
 have hro : Fence.wide.round = none:=rfl
 have h1 : 1 ≤ 5:=by omega
 refine callsIn_of_wp_marks Tryz.func83 rfl trivial ?_ hro
 simp only [Tryz.ntmps83,List.size_toArray,List.length_cons,List.length_nil,Nat.reduceAdd,Nat.reduceSub,Array.replicate_succ,Array.replicate_zero,List.push_toArray,List.append_toArray,List.nil_append,List.cons_append]
 gi_wp2_with (refine ⟨trivial,?_⟩;gi_at_call 118;refine (Tg Fence.wide _ trivial hro _ _ _ _).mono ?_;rintro e w' ⟨rfl,rfl⟩)
 have b3:=((Blk.new w 3 #[.int .i64 page]) : Blk _ _ _ _)
 obtain ⟨W0,hW0⟩ : ∃ W0,((w.alloc (.cells #[.int .i64 page] 3)).alloc (.cells #[.int .i64 0] 3)).alloc (.cells #[.slice A l.length c] 24) = W0:=⟨_,rfl⟩
 have hsz : W0.heap.size = w.heap.size + 3:=by rw [← hW0];simp
 have hB0 : Below w.heap.size w W0:=by rw [← hW0];exact (((Below.refl _ w).alloc (Nat.le_refl _) _).alloc (by simp) _).alloc (by simp;omega) _
 have bT : Blk W0 w.heap.size 3 #[.int .i64 page]:=by
  rw [← hW0];exact ((Below.heap_alloc _ _ _ (by simp;omega)).trans (Below.heap_alloc _ _ _ (by simp))).trans (World.alloc_heap_new w _)
 have bR : Boxed W0 (w.heap.size + 1) 3 (.int .i64 0):=by
  rw [← hW0];refine (Below.heap_alloc _ _ _ (by simp)).trans ?_
  have:=World.alloc_heap_new (w.alloc (.cells #[.int .i64 page] 3)) (.cells #[.int .i64 0] 3);rwa [World.size_alloc] at this
 have bS : W0.cell? ⟨w.heap.size + 1 + 1,0,none⟩ = some (.slice A l.length c):=by
  have : Boxed W0 (w.heap.size + 1 + 1) 24 (.slice A l.length c):=by
   rw [← hW0];have:=World.alloc_heap_new ((w.alloc (.cells #[.int .i64 page] 3)).alloc (.cells #[.int .i64 0] 3)) (.cells #[.slice A l.length c] 24);rwa [World.size_alloc,World.size_alloc] at this
  exact this.cell
 rw [hW0]
 clear hW0 b3
 have hw0 : Below w0.heap.size w0 W0:=bj HB.out hB0
 have HSZ:=As hsz
 refine wpIn_rangeFunc_ownH (α:=Jz l.length) hro h1 (gf:=133) (lb:=#[.pointer (some ⟨w.heap.size + 1 + 1,0,none⟩)]) rfl trivial (enters_of Tryz.func133 (by kernel_rfl) rfl)
  (NI Fence.wide _ trivial hro (by omega) (w.heap.size + 1 + 1) W0.heap.size c A l w0 W0 HR.out hw0.size (by omega) (Nat.le_refl _) hw0 bS) belowK_t (belowK_b (Nat.le_refl _)) (Below.refl _ _) (fun _ => rfl)
  (fun pre W => (∀ x ∈ pre,KO l page x.1 = false) ∧ Below W0.heap.size W0 W)
  (fun cc pre W => ((cc = .ret ∧ ∃ pre0 x,pre = pre0 ++ [x] ∧ (∀ y ∈ pre0,KO l page y.1 = false) ∧ KO l page x.1 = true) ∧ (∃ x : Jz l.length,pre.getLast? = some x ∧ Boxed W (w.heap.size + 1) 3 (.int .i64 ((x.1 : Int) + 1)))) ∧ Below w.heap.size w W)
  (OwnFrom.and (ownFrom_pure _ _) (ownFrom_below (Nat.le_refl _) (Nat.le_refl _)))
  (fun cc => OwnFrom.and (OwnFrom.and (ownFrom_pure _ _) (fun s X Y row hs hg hr => by obtain ⟨x,e1,e2⟩:=hs;exact ⟨x,e1,boxed_own _ _ (fun (_ : Unit) => _) () X Y row e2 hg (fun r e => (hr r e).2)⟩)) (ownFrom_below (Nat.le_refl _) (by omega)))
  ⟨by simp,Below.refl _ _⟩
  (fun x a' W => ∃ Bx,W0.heap.size ≤ Bx ∧ Blk W Bx 43 #[.int .i64 (rc l x.1).kind, .int .i64 (rc l x.1).tx, .int .i64 (rc l x.1).page, .int .i64 (rc l x.1).slot, .int .i64 (rc l x.1).old, .int .i64 (rc l x.1).new, .int .i64 (rc l x.1).prev, .int .i64 (rc l x.1).next] ∧ a' = { tmps:=#[.slice A l.length c, .int .i64 page,undef, .pointer (some ⟨w.heap.size,0,none⟩), .pointer (some ⟨w.heap.size + 1,0,none⟩), .int .i64 (x.1 : Nat), .pointer (some ⟨Bx,0,none⟩), .slice A l.length c, .func (.func 133) #[] #[.pointer (some ⟨w.heap.size + 1 + 1,0,none⟩)], .int .i64 (x.1 : Nat),(rc l x.1).val,undef,undef,undef,undef,undef,undef,undef,undef,undef,undef,undef,undef,undef,undef,undef],defers := [] })
  (fun x a' _ X Y row hs hg hr => by obtain ⟨Bx,e1,e2,e3⟩:=hs;exact ⟨Bx,e1,Tf Bx 43 (fun (_ : Unit) => #[.int .i64 (rc l x.1).kind, .int .i64 (rc l x.1).tx, .int .i64 (rc l x.1).page, .int .i64 (rc l x.1).slot, .int .i64 (rc l x.1).old, .int .i64 (rc l x.1).new, .int .i64 (rc l x.1).prev, .int .i64 (rc l x.1).next]) () X Y row e2 hg (fun r e => (hr r e).2),e3⟩)
  ?assign ?body ?done ?stop
 all_goals clear hsz
 case assign =>
  rintro lp pre x W K ⟨hp,hB1⟩ hK
  gi_wp2
  exact hK _ _ ((KeepsOthers.alloc _ _).from _) ((Below.refl _ W).alloc hB1.size _) ⟨hp,hB1.alloc hB1.size _⟩ ⟨W.heap.size,hB1.size,Blk.new W _ _,rfl⟩
 case body =>
  rintro lp pre x a' W hlp - ⟨hp,hB1⟩ ⟨Bx,hBx,bX,rfl⟩ hlt
  obtain ⟨g0,g1,g2,g3,g4,g5,g6,g7⟩:=bX.recAt
  have cT : W.cell? ⟨w.heap.size,0,none⟩ = some (.int .i64 page):=(hB1.cell (p:=⟨w.heap.size,0,none⟩) (by show w.heap.size < _;have:=HSZ.out;omega)).trans (Boxed.cell bT)
  have bR1 : Boxed W (w.heap.size + 1) 3 (.int .i64 0):=(hB1.block _ (by have:=HSZ.out;omega)).trans bR
  have cR:=bR1.cell
  have fR:=bR1.frozen
  have h1' : 1 ≤ 5 - 1 - 1:=by omega
  have hxl : ((x.1 : Nat) : Int) < 9223372036854775807:=by have:=x.2;omega
  have hx0 : (0 : Int) ≤ ((x.1 : Nat) : Int):=Int.natCast_nonneg _
  rcases BS (rc l x.1).page page with ⟨e1,b1,c1⟩ | ⟨e1,b1,c1⟩
  ·cases he : Cu (rc l x.1).kind
   ·have HE:=As he
    clear he
    rcases BS (rc l x.1).kind 3 with ⟨e3,b3,c3⟩ | ⟨e3,b3,c3⟩
    ·gi_wp2_with (refine ⟨trivial,?_⟩;gi_at_call 76;refine (CallsIn.inRound lp (callsIn_wide.2 (Fz (r:=rc l x.1) HE.out _))).mono ?_;rintro e w1 ⟨rfl,hb1⟩;have cR1:=CO hb1 cR;have fR1:=(hb1.frozen (p:=⟨w.heap.size + 1,0,none⟩) (World.block_lt_of_cell? _ _ cR)).trans fR;obtain ⟨y0,y1,y2,y3,y4,y5,y6,y7⟩:=GH.up ⟨g0,g1,g2,g3,g4,g5,g6,g7⟩ hb1)
     refine ⟨(Eg hb1).trans ((KeepsOthers.setCell _ _ _).from _),⟨⟨rfl,pre,x,rfl,hp,by simp [KO,b1,HE.out,b3]⟩,x,by simp,?_⟩,((hB0.trans (hB1.mono hB0.size)).trans (hb1.mono ((hB0.trans (hB1.mono hB0.size)).size))).setCell (p:=⟨w.heap.size + 1,0,none⟩) (by simp) _⟩
     exact (show Boxed w1 (w.heap.size + 1) 3 (.int .i64 0) from (hb1.block _ bR1.lt).trans bR1).set _
    ·gi_wp2_with (refine ⟨trivial,?_⟩;gi_at_call 76;refine (CallsIn.inRound lp (callsIn_wide.2 (Fz (r:=rc l x.1) HE.out _))).mono ?_;rintro e w1 ⟨rfl,hb1⟩;have cR1:=CO hb1 cR;have fR1:=(hb1.frozen (p:=⟨w.heap.size + 1,0,none⟩) (World.block_lt_of_cell? _ _ cR)).trans fR;obtain ⟨y0,y1,y2,y3,y4,y5,y6,y7⟩:=GH.up ⟨g0,g1,g2,g3,g4,g5,g6,g7⟩ hb1)
     exact ⟨Eg hb1,hb1.mono hB1.size,by first | exact fun z hz => (List.mem_append.1 hz).elim (hp z) (fun e => by have e2:=List.mem_singleton.1 e;rw [e2];simp [KO,HE.out,b3]) | exact fun z hzl hz => (List.mem_append.1 hz).elim (hp ⟨z,hzl⟩) (fun e => by have e2:=List.mem_singleton.1 e;have e3 : z = x.1:=congrArg Subtype.val e2;rw [e3];simp [KO,HE.out,b3]),hB1.trans (hb1.mono hB1.size)⟩
   ·have HE:=As he
    clear he
    gi_wp2_with (refine ⟨trivial,?_⟩;gi_at_call 76;refine (CallsIn.inRound lp (callsIn_wide.2 (Fz (r:=rc l x.1) HE.out _))).mono ?_;rintro e w1 ⟨rfl,hb1⟩;have cR1:=CO hb1 cR;have fR1:=(hb1.frozen (p:=⟨w.heap.size + 1,0,none⟩) (World.block_lt_of_cell? _ _ cR)).trans fR;obtain ⟨y0,y1,y2,y3,y4,y5,y6,y7⟩:=GH.up ⟨g0,g1,g2,g3,g4,g5,g6,g7⟩ hb1)
    refine ⟨(Eg hb1).trans ((KeepsOthers.setCell _ _ _).from _),⟨⟨rfl,pre,x,rfl,hp,by simp [KO,b1,HE.out]⟩,x,by simp,?_⟩,((hB0.trans (hB1.mono hB0.size)).trans (hb1.mono ((hB0.trans (hB1.mono hB0.size)).size))).setCell (p:=⟨w.heap.size + 1,0,none⟩) (by simp) _⟩
    exact (show Boxed w1 (w.heap.size + 1) 3 (.int .i64 0) from (hb1.block _ bR1.lt).trans bR1).set _
  ·gi_wp2
   refine ⟨trivial,?_⟩
   gi_wp2
   exact ⟨KeepsFrom.refl _ _,Below.refl _ _,by first | exact fun z hz => (List.mem_append.1 hz).elim (hp z) (fun e => by have e2:=List.mem_singleton.1 e;rw [e2];simp [KO,b1]) | exact fun z hzl hz => (List.mem_append.1 hz).elim (hp ⟨z,hzl⟩) (fun e => by have e2:=List.mem_singleton.1 e;have e3 : z = x.1:=congrArg Subtype.val e2;rw [e3];simp [KO,b1]),hB1⟩
 case done =>
  rintro D xs W hD hS ⟨hp,hB1⟩ hK
  have bR1 : Boxed W (w.heap.size + 1) 3 (.int .i64 0):=(hB1.block _ (by have:=HSZ.out;omega)).trans bR
  have cR:=bR1.cell
  have fR:=bR1.frozen
  gi_wp2
  have hK':=(KeepsOthers.setCell W ⟨w.heap.size + 1,0,none⟩ (.int .i64 0)).same D _ hK rfl
  refine ⟨by simp, .inl ⟨_,_,rfl,run_takeDeferred hK',?_⟩⟩
  have hc5:=cell_kept (bR1.set (.int .i64 0)).cell (grownBy_putObj' _ D (.deferred none)) (fun r e => by cases e;exact ⟨_,hK',rfl⟩)
  refine ⟨.int .i64 0,?_,?_,((hB0.trans (hB1.mono hB0.size)).setCell (p:=⟨w.heap.size + 1,0,none⟩) (by simp) _).trans (belowK_b (w:=w) (Nat.le_refl _) _ D _ _ (by have:=HSZ.out;omega) hK' rfl rfl)⟩
  ·simp [results,Tryz.f83,go_sem,hc5]
  ·refine Dz ?_
   have:=Jq (l:=l) (page:=page) (Nat.le_refl _) (fun y hy => by
    rw [← hS] at hy
    obtain ⟨z,hz,rfl⟩:=List.mem_map.1 hy
    exact hp z hz)
   rw [this,Nat.sub_self]
   rfl
 case stop =>
  rintro D cc pre W hD ⟨k,hk,hpk⟩ ⟨⟨⟨rfl,pre0,x,rfl,hp,hx⟩,x',hl',bR1⟩,hB1⟩ hK
  obtain rfl : x = x':=by simpa using hl'
  gi_wp2
  refine ⟨by simp, .inl ⟨_,_,rfl,run_takeDeferred hK,?_⟩⟩
  have hc5:=cell_kept bR1.cell (grownBy_putObj' _ D (.deferred none)) (fun r e => by cases e;exact ⟨_,hK,rfl⟩)
  refine ⟨.int .i64 ((x.1 : Int) + 1),?_,?_,hB1.trans (belowK_b (w:=w) (Nat.le_refl _) W D _ _ (by have:=HSZ.out;omega) hK rfl rfl)⟩
  ·simp [results,Tryz.f83,go_sem,hc5]
  ·refine Dz ?_
   rw [List.map_append,List.map_cons,List.map_nil] at hpk
   have hkl : k = pre0.length + 1:=by
    have:=congrArg List.length hpk
    rw [FW] at this
    simp at this
    omega
   subst hkl
   rw [Gj] at hpk
   obtain ⟨h2,h3⟩:=List.append_inj hpk (by simp [FW])
   have hx2 : x.1 = l.length - 1 - pre0.length:=by simpa using h3
   have:=Jq (l:=l) (page:=page) (n:=l.length) (k:=pre0.length) (by omega) (fun y hy => by
    rw [← h2] at hy
    obtain ⟨z,hz,rfl⟩:=List.mem_map.1 hy
    exact hp z hz)
   rw [this,show l.length - pre0.length = x.1 + 1 by have:=x.2;omega,QE hx]
   simp
end Go.Proofs.YtjeodgfkilhkhaaGreat
namespace Go.Proofs.YtjeodgfkilhkhaaGreat
open Go.RowKit Go.Proofs.YtjeodgfkilhkhaaGreatW.PrintWords Go.Proofs.YtjeodgfkilhkhaaGreatW.PrintLast Go.Proofs.YtjeodgfkilhkhaaGreatW.PrintMore
set_option maxHeartbeats 8000000 in
theorem GJ {w0 w : World} {A : Option Addr} {c : Nat} {l : List Rec} (hb : Below w0.heap.size w0 w) (hr : Kd.C kRec w0 A l.length l) (hc : l.length ≤ c) : Calls Tryz.prog 52 #[.slice A l.length c] w fun e w' => e = .returned (.bool (Au l)) ∧ Below w0.heap.size w0 w':=by
 have HR:=As hr
 have HB:=As hb
 have hm:=(CY hr).2
 clear hr hb
 go_enter Tryz.func52,Tryz.ntmps52
 go_wp2
 go_loopw [3] (fun i wr => ∃ k : Nat,k ≤ l.length ∧ i = .int .i64 (k : Int) ∧ A7 (DK l k = true) ∧ A7 (Below w0.heap.size w0 wr)) (fun i _ => (l.length - (intOf i)).toNat)
 case atStart => exact ⟨0,Nat.zero_le _,rfl,⟨rfl⟩,HB⟩
 case round =>
  obtain ⟨k,hk,rfl,HL,HW⟩:=hrel
  by_cases hlt : k < l.length
  ·obtain ⟨ad,rfl,QR⟩:=Cs HR.out k hlt
   obtain ⟨g0,g1,g2,g3,g4,g5,g6,g7⟩:=QR.up HW.out
   have p0 : (0 : Int) ≤ (k : Int):=Int.natCast_nonneg _
   have p1 : (k : Int) < (l.length : Int):=by omega
   have p2 : (k : Int) ≤ (l.length : Int):=by omega
   have p3 : (k : Int) ≤ (c : Int):=by omega
   have HF:=As (fun h => Jm (n:=l.length) (show atOk l k = false from h) hlt)
   go_wp2
   cases h1 : Cv (rc l k)
   ·have K1:=As h1
    clear h1
    refine Aq (fun w' => Below w0.heap.size w0 w') rfl rfl (by kernel_rfl) (Ac HW.out) (fun HT => ?_)
    repeat (first
     | (refine AQ (fun wx hS => ?_))
     | ((with_reducible refine Ay (f:=92) rfl ?_);refine Az (v:=.bool false) (args:=#[(rc l k).val]) HT rfl Tryz.func92 (by kernel_rfl) rfl rfl (by rfl) (fun _ _ _ h => h) (by simp only [List.map_toArray,List.map_cons,List.map_nil];rfl) (fun wx hS => (Fg (r:=rc l k) K1.out _).mono fun e w1 h => ⟨h.1,bj hS h.2⟩) ?_;simp only [sc0,sc1])
     | (refine AB HT rfl (by rfl) (fun _ _ _ h => h) ?_;simp only [sc0,sc1])
     | (refine AP (v:=?_) HT rfl (by rfl) (fun _ _ _ h => h) (fun wx hS => ?_) ?_;rotate_left;(obtain ⟨x0,x1,x2,x3,x4,x5,x6,x7⟩:=QR.up hS;go_simp;with_reducible rfl);rotate_left;simp only [sc0,sc1]))
    go_wp2
    go_ret
    exact ⟨by simp [Au,HF.out (by simp [atOk,K1.out])],hS⟩
   ·have K1:=As h1
    clear h1
    rcases BS (rc l k).prev (Ae l (rc l k).tx k) with ⟨e2,b2,c2⟩ | ⟨e2,b2,c2⟩
    ·rcases lts (k : Int) (rc l k).next with ⟨e3,b3,c3⟩ | ⟨e3,b3,c3⟩
     ·refine Aq (fun w' => Below w0.heap.size w0 w') rfl rfl (by kernel_rfl) (Ac HW.out) (fun HT => ?_)
      repeat (first
       | (refine AQ (fun wx hS => ?_))
       | ((with_reducible refine Ay (f:=92) rfl ?_);refine Az (v:=.bool true) (args:=#[(rc l k).val]) HT rfl Tryz.func92 (by kernel_rfl) rfl rfl (by rfl) (fun _ _ _ h => h) (by simp only [List.map_toArray,List.map_cons,List.map_nil];rfl) (fun wx hS => (Fg (r:=rc l k) K1.out _).mono fun e w1 h => ⟨h.1,bj hS h.2⟩) ?_;simp only [sc0,sc1])
       | ((with_reducible refine Ay (f:=93) rfl ?_);refine Az (v:=.int .i64 (Ae l (rc l k).tx k)) (args:=#[.slice (some ad) k c, .int .i64 (rc l k).tx]) HT rfl Tryz.func93 (by kernel_rfl) rfl rfl (by rfl) (fun _ _ _ h => h) (by simp only [List.map_toArray,List.map_cons,List.map_nil];rfl) (fun wx hS => (JO (rc l k).tx hS HR.out (Nat.le_of_lt hlt)).mono fun e w1 h => ⟨h.1,h.2 ▸ hS⟩) ?_;simp only [sc0,sc1])
       | (refine AB HT rfl (by rfl) (fun _ _ _ h => h) ?_;simp only [sc0,sc1])
       | (refine AP (v:=?_) HT rfl (by rfl) (fun _ _ _ h => h) (fun wx hS => ?_) ?_;rotate_left;(obtain ⟨x0,x1,x2,x3,x4,x5,x6,x7⟩:=QR.up hS;go_simp;with_reducible rfl);rotate_left;simp only [sc0,sc1]))
      go_wp2
      go_ret
      exact ⟨by simp [Au,HF.out (by simp [atOk,K1.out,c3])],hS⟩
     ·have e3':=e3.out
      refine Aq (fun w' => Below w0.heap.size w0 w') rfl rfl (by kernel_rfl) (Ac HW.out) (fun HT => ?_)
      repeat (first
       | (refine AQ (fun wx hS => ?_))
       | ((with_reducible refine Ay (f:=92) rfl ?_);refine Az (v:=.bool true) (args:=#[(rc l k).val]) HT rfl Tryz.func92 (by kernel_rfl) rfl rfl (by rfl) (fun _ _ _ h => h) (by simp only [List.map_toArray,List.map_cons,List.map_nil];rfl) (fun wx hS => (Fg (r:=rc l k) K1.out _).mono fun e w1 h => ⟨h.1,bj hS h.2⟩) ?_;simp only [sc0,sc1])
       | ((with_reducible refine Ay (f:=93) rfl ?_);refine Az (v:=.int .i64 (Ae l (rc l k).tx k)) (args:=#[.slice (some ad) k c, .int .i64 (rc l k).tx]) HT rfl Tryz.func93 (by kernel_rfl) rfl rfl (by rfl) (fun _ _ _ h => h) (by simp only [List.map_toArray,List.map_cons,List.map_nil];rfl) (fun wx hS => (JO (rc l k).tx hS HR.out (Nat.le_of_lt hlt)).mono fun e w1 h => ⟨h.1,h.2 ▸ hS⟩) ?_;simp only [sc0,sc1])
       | (refine AB HT rfl (by rfl) (fun _ _ _ h => h) ?_;simp only [sc0,sc1])
       | (refine AP (v:=?_) HT rfl (by rfl) (fun _ _ _ h => h) (fun wx hS => ?_) ?_;rotate_left;(obtain ⟨x0,x1,x2,x3,x4,x5,x6,x7⟩:=QR.up hS;go_simp;with_reducible rfl);rotate_left;simp only [sc0,sc1]))
      have HX:=As hS
      clear hS
      rcases lts 0 (rc l k).next with ⟨e4,b4,c4⟩ | ⟨e4,b4,c4⟩
      ·obtain ⟨j,hj⟩ : ∃ j : Nat,(rc l k).next - 1 = j:=⟨((rc l k).next - 1).toNat,by have:=e4.out;omega⟩
       have hj2 : (rc l k).next.toNat - 1 = j:=by have:=e4.out;omega
       have hjl : j < l.length:=by have:=e4.out;omega
       obtain ⟨ad',ea,QJ⟩:=Cs HR.out j hjl
       obtain rfl:=Option.some.inj ea
       have s0 : IntKind.i64.wrap ((rc l k).next - 1) = (j : Int):=by rw [hj];exact IntWalk.i64_in _ (by omega)
       have s1 : (0 : Int) ≤ (j : Int):=Int.natCast_nonneg _
       have s2 : (j : Int) < (l.length : Int):=by omega
       have J2:=As hj2
       clear hj hj2 ea e3'
       rcases BS (rc l j).tx (rc l k).tx with ⟨e5,b5,c5⟩ | ⟨e5,b5,c5⟩
       all_goals
        go_wp2
        refine Aq (fun w' => Below w0.heap.size w0 w') rfl rfl (by kernel_rfl) (Ac HX.out) (fun HT => ?_)
        repeat (first
         | (refine AQ (fun wx hS => ?_))
         | (refine AB HT rfl (by rfl) (fun _ _ _ h => h) ?_;simp only [sc0,sc1])
         | (refine AP (v:=?_) HT rfl (by rfl) (fun _ _ _ h => h) (fun wx hS => ?_) ?_;rotate_left;(obtain ⟨x0,x1,x2,x3,x4,x5,x6,x7⟩:=QR.up hS;obtain ⟨y0,y1,y2,y3,y4,y5,y6,y7⟩:=QJ.up hS;go_simp;with_reducible rfl);rotate_left;simp only [sc0,sc1]))
        go_wp2
       ·go_roundw
        case rel => exact ⟨k + 1,by omega,by go_num,⟨by simp [DK,HL.out,atOk,K1.out,b2,e3.out,J2.out,b5]⟩,⟨hS⟩⟩
        case measure => simp [intOf];omega
       ·go_ret
        exact ⟨by simp [Au,HF.out (by simp [atOk,K1.out,J2.out,b5];intro _ _;exact e4.out)],hS⟩
      ·clear e3'
       go_wp2
       refine Aq (fun w' => Below w0.heap.size w0 w') rfl rfl (by kernel_rfl) (Ac HX.out) (fun HT => ?_)
       repeat (first
        | (refine AQ (fun wx hS => ?_))
        | (refine AB HT rfl (by rfl) (fun _ _ _ h => h) ?_;simp only [sc0,sc1])
        | (refine AP (v:=?_) HT rfl (by rfl) (fun _ _ _ h => h) (fun wx hS => ?_) ?_;rotate_left;(obtain ⟨x0,x1,x2,x3,x4,x5,x6,x7⟩:=QR.up hS;go_simp;with_reducible rfl);rotate_left;simp only [sc0,sc1]))
       go_wp2
       go_roundw
       case rel => exact ⟨k + 1,by omega,by go_num,⟨by simp [DK,HL.out,atOk,K1.out,b2,e3.out,e4.out]⟩,⟨hS⟩⟩
       case measure => simp [intOf];omega
    ·refine Aq (fun w' => Below w0.heap.size w0 w') rfl rfl (by kernel_rfl) (Ac HW.out) (fun HT => ?_)
     repeat (first
      | (refine AQ (fun wx hS => ?_))
      | ((with_reducible refine Ay (f:=92) rfl ?_);refine Az (v:=.bool true) (args:=#[(rc l k).val]) HT rfl Tryz.func92 (by kernel_rfl) rfl rfl (by rfl) (fun _ _ _ h => h) (by simp only [List.map_toArray,List.map_cons,List.map_nil];rfl) (fun wx hS => (Fg (r:=rc l k) K1.out _).mono fun e w1 h => ⟨h.1,bj hS h.2⟩) ?_;simp only [sc0,sc1])
      | ((with_reducible refine Ay (f:=93) rfl ?_);refine Az (v:=.int .i64 (Ae l (rc l k).tx k)) (args:=#[.slice (some ad) k c, .int .i64 (rc l k).tx]) HT rfl Tryz.func93 (by kernel_rfl) rfl rfl (by rfl) (fun _ _ _ h => h) (by simp only [List.map_toArray,List.map_cons,List.map_nil];rfl) (fun wx hS => (JO (rc l k).tx hS HR.out (Nat.le_of_lt hlt)).mono fun e w1 h => ⟨h.1,h.2 ▸ hS⟩) ?_;simp only [sc0,sc1])
      | (refine AB HT rfl (by rfl) (fun _ _ _ h => h) ?_;simp only [sc0,sc1])
      | (refine AP (v:=?_) HT rfl (by rfl) (fun _ _ _ h => h) (fun wx hS => ?_) ?_;rotate_left;(obtain ⟨x0,x1,x2,x3,x4,x5,x6,x7⟩:=QR.up hS;go_simp;with_reducible rfl);rotate_left;simp only [sc0,sc1]))
     go_wp2
     go_ret
     exact ⟨by simp [Au,HF.out (by simp [atOk,b2])],hS⟩
  ·obtain rfl : k = l.length:=by omega
   go_wp2
   go_ret
   exact ⟨Af (by simp only [Au,HL.out,Bool.true_and];exact decide_eq_decide.mpr (by omega)),HW.out⟩
set_option maxHeartbeats 16000000 in
set_option maxRecDepth 100000 in
theorem EM {r : Rec} {b : Bool} (h : Cv r = b) (w : World) : Calls Tryz.prog 73 #[r.val] w fun e w' => e = .returned (.bool b) ∧ Below w.heap.size w w':=by
 have H:=As h
 clear h
 obtain ⟨m,hm⟩ : ∃ m : Int,(if r.slot = -1 then 3 else 9) = m:=⟨_,rfl⟩
 have HM:=As hm
 clear hm
 rcases BS r.slot (-1) with ⟨s1,t1,u1⟩ | ⟨s1,t1,u1⟩
 ·obtain rfl : 3 = m:=by rw [← HM.out,if_pos s1.out]
  rcases BS r.kind 1 with ⟨e1,b1,c1⟩ | ⟨e1,b1,c1⟩
  ·go_enter Tryz.func73,Tryz.ntmps73
   go_wp2
   go_quiet ((go_at_call 40;exact Calls.quiet_of_same (EA _ _ _ _)))
   go_wp2_with (first | (go_at_call 40;refine (CG _ _ _ _).mono ?_;rintro e w' ⟨rfl,rfl⟩) | (go_at_call 63;refine (BQ _ _).mono ?_;rintro e w' ⟨rfl,rfl⟩) | (go_at_call 109;refine (CQ _ _).mono ?_;rintro e w' ⟨rfl,rfl⟩))
   all_goals (go_ret;exact ⟨Af (by rw [← H.out];simp [Cv,HM.out, *,e1.out]),Bz ((Below.refl _ _).alloc (Nat.le_refl _) _) _⟩)
  ·skip
   rcases BS r.kind 2 with ⟨e2,b2,c2⟩ | ⟨e2,b2,c2⟩
   ·go_enter Tryz.func73,Tryz.ntmps73
    go_wp2
    go_quiet ((go_at_call 40;exact Calls.quiet_of_same (EA _ _ _ _)))
    go_wp2_with (first | (go_at_call 40;refine (CG _ _ _ _).mono ?_;rintro e w' ⟨rfl,rfl⟩) | (go_at_call 63;refine (BQ _ _).mono ?_;rintro e w' ⟨rfl,rfl⟩) | (go_at_call 109;refine (CQ _ _).mono ?_;rintro e w' ⟨rfl,rfl⟩))
    all_goals (go_ret;exact ⟨Af (by rw [← H.out];simp [Cv,HM.out, *,e2.out]),Bz ((Below.refl _ _).alloc (Nat.le_refl _) _) _⟩)
   ·skip
    rcases BS r.kind 3 with ⟨e3,b3,c3⟩ | ⟨e3,b3,c3⟩
    ·go_enter Tryz.func73,Tryz.ntmps73
     go_wp2
     go_quiet ((go_at_call 40;exact Calls.quiet_of_same (EA _ _ _ _)))
     go_wp2_with (first | (go_at_call 40;refine (CG _ _ _ _).mono ?_;rintro e w' ⟨rfl,rfl⟩) | (go_at_call 63;refine (BQ _ _).mono ?_;rintro e w' ⟨rfl,rfl⟩) | (go_at_call 109;refine (CQ _ _).mono ?_;rintro e w' ⟨rfl,rfl⟩))
     all_goals (go_ret;exact ⟨Af (by rw [← H.out];simp [Cv,HM.out, *,e3.out]),Bz ((Below.refl _ _).alloc (Nat.le_refl _) _) _⟩)
    ·skip
     rcases BS r.kind 4 with ⟨e4,b4,c4⟩ | ⟨e4,b4,c4⟩
     ·go_enter Tryz.func73,Tryz.ntmps73
      go_wp2
      go_quiet ((go_at_call 40;exact Calls.quiet_of_same (EA _ _ _ _)))
      go_wp2_with (first | (go_at_call 40;refine (CG _ _ _ _).mono ?_;rintro e w' ⟨rfl,rfl⟩) | (go_at_call 63;refine (BQ _ _).mono ?_;rintro e w' ⟨rfl,rfl⟩) | (go_at_call 109;refine (CQ _ _).mono ?_;rintro e w' ⟨rfl,rfl⟩))
      all_goals (go_ret;exact ⟨Af (by rw [← H.out];simp [Cv,HM.out, *,e4.out]),Bz ((Below.refl _ _).alloc (Nat.le_refl _) _) _⟩)
     ·skip
      rcases BS r.kind 5 with ⟨e5,b5,c5⟩ | ⟨e5,b5,c5⟩
      ·go_enter Tryz.func73,Tryz.ntmps73
       go_wp2
       go_quiet ((go_at_call 40;exact Calls.quiet_of_same (EA _ _ _ _)))
       go_wp2_with (first | (go_at_call 40;refine (CG _ _ _ _).mono ?_;rintro e w' ⟨rfl,rfl⟩) | (go_at_call 63;refine (BQ _ _).mono ?_;rintro e w' ⟨rfl,rfl⟩) | (go_at_call 109;refine (CQ _ _).mono ?_;rintro e w' ⟨rfl,rfl⟩))
       all_goals (go_ret;exact ⟨Af (by rw [← H.out];simp [Cv,HM.out, *,e5.out]),Bz ((Below.refl _ _).alloc (Nat.le_refl _) _) _⟩)
      ·skip
       rcases BS r.kind 6 with ⟨e6,b6,c6⟩ | ⟨e6,b6,c6⟩
       ·go_enter Tryz.func73,Tryz.ntmps73
        go_wp2
        go_quiet ((go_at_call 40;exact Calls.quiet_of_same (EA _ _ _ _)))
        go_wp2_with (first | (go_at_call 40;refine (CG _ _ _ _).mono ?_;rintro e w' ⟨rfl,rfl⟩) | (go_at_call 63;refine (BQ _ _).mono ?_;rintro e w' ⟨rfl,rfl⟩) | (go_at_call 109;refine (CQ _ _).mono ?_;rintro e w' ⟨rfl,rfl⟩))
        all_goals (go_ret;exact ⟨Af (by rw [← H.out];simp [Cv,HM.out, *,e6.out]),Bz ((Below.refl _ _).alloc (Nat.le_refl _) _) _⟩)
       ·go_enter Tryz.func73,Tryz.ntmps73
        go_wp2
        go_quiet ((go_at_call 40;exact Calls.quiet_of_same (EA _ _ _ _)))
        go_wp2_with (first | (go_at_call 40;refine (CG _ _ _ _).mono ?_;rintro e w' ⟨rfl,rfl⟩) | (go_at_call 63;refine (BQ _ _).mono ?_;rintro e w' ⟨rfl,rfl⟩) | (go_at_call 109;refine (CQ _ _).mono ?_;rintro e w' ⟨rfl,rfl⟩))
        all_goals (go_ret;exact ⟨Af (by rw [← H.out];simp [Cv,HM.out, *,e1.out,e2.out,e3.out,e4.out,e5.out,e6.out]),Bz ((Below.refl _ _).alloc (Nat.le_refl _) _) _⟩)
 ·obtain rfl : 9 = m:=by rw [← HM.out,if_neg s1.out]
  rcases BS r.kind 1 with ⟨e1,b1,c1⟩ | ⟨e1,b1,c1⟩
  ·go_enter Tryz.func73,Tryz.ntmps73
   go_wp2
   go_quiet ((go_at_call 40;exact Calls.quiet_of_same (EA _ _ _ _)))
   go_wp2_with (first | (go_at_call 40;refine (CG _ _ _ _).mono ?_;rintro e w' ⟨rfl,rfl⟩) | (go_at_call 63;refine (BQ _ _).mono ?_;rintro e w' ⟨rfl,rfl⟩) | (go_at_call 109;refine (CQ _ _).mono ?_;rintro e w' ⟨rfl,rfl⟩))
   all_goals (go_ret;exact ⟨Af (by rw [← H.out];simp [Cv,HM.out, *,e1.out]),Bz ((Below.refl _ _).alloc (Nat.le_refl _) _) _⟩)
  ·skip
   rcases BS r.kind 2 with ⟨e2,b2,c2⟩ | ⟨e2,b2,c2⟩
   ·go_enter Tryz.func73,Tryz.ntmps73
    go_wp2
    go_quiet ((go_at_call 40;exact Calls.quiet_of_same (EA _ _ _ _)))
    go_wp2_with (first | (go_at_call 40;refine (CG _ _ _ _).mono ?_;rintro e w' ⟨rfl,rfl⟩) | (go_at_call 63;refine (BQ _ _).mono ?_;rintro e w' ⟨rfl,rfl⟩) | (go_at_call 109;refine (CQ _ _).mono ?_;rintro e w' ⟨rfl,rfl⟩))
    all_goals (go_ret;exact ⟨Af (by rw [← H.out];simp [Cv,HM.out, *,e2.out]),Bz ((Below.refl _ _).alloc (Nat.le_refl _) _) _⟩)
   ·skip
    rcases BS r.kind 3 with ⟨e3,b3,c3⟩ | ⟨e3,b3,c3⟩
    ·go_enter Tryz.func73,Tryz.ntmps73
     go_wp2
     go_quiet ((go_at_call 40;exact Calls.quiet_of_same (EA _ _ _ _)))
     go_wp2_with (first | (go_at_call 40;refine (CG _ _ _ _).mono ?_;rintro e w' ⟨rfl,rfl⟩) | (go_at_call 63;refine (BQ _ _).mono ?_;rintro e w' ⟨rfl,rfl⟩) | (go_at_call 109;refine (CQ _ _).mono ?_;rintro e w' ⟨rfl,rfl⟩))
     all_goals (go_ret;exact ⟨Af (by rw [← H.out];simp [Cv,HM.out, *,e3.out]),Bz ((Below.refl _ _).alloc (Nat.le_refl _) _) _⟩)
    ·skip
     rcases BS r.kind 4 with ⟨e4,b4,c4⟩ | ⟨e4,b4,c4⟩
     ·go_enter Tryz.func73,Tryz.ntmps73
      go_wp2
      go_quiet ((go_at_call 40;exact Calls.quiet_of_same (EA _ _ _ _)))
      go_wp2_with (first | (go_at_call 40;refine (CG _ _ _ _).mono ?_;rintro e w' ⟨rfl,rfl⟩) | (go_at_call 63;refine (BQ _ _).mono ?_;rintro e w' ⟨rfl,rfl⟩) | (go_at_call 109;refine (CQ _ _).mono ?_;rintro e w' ⟨rfl,rfl⟩))
      all_goals (go_ret;exact ⟨Af (by rw [← H.out];simp [Cv,HM.out, *,e4.out]),Bz ((Below.refl _ _).alloc (Nat.le_refl _) _) _⟩)
     ·skip
      rcases BS r.kind 5 with ⟨e5,b5,c5⟩ | ⟨e5,b5,c5⟩
      ·go_enter Tryz.func73,Tryz.ntmps73
       go_wp2
       go_quiet ((go_at_call 40;exact Calls.quiet_of_same (EA _ _ _ _)))
       go_wp2_with (first | (go_at_call 40;refine (CG _ _ _ _).mono ?_;rintro e w' ⟨rfl,rfl⟩) | (go_at_call 63;refine (BQ _ _).mono ?_;rintro e w' ⟨rfl,rfl⟩) | (go_at_call 109;refine (CQ _ _).mono ?_;rintro e w' ⟨rfl,rfl⟩))
       all_goals (go_ret;exact ⟨Af (by rw [← H.out];simp [Cv,HM.out, *,e5.out]),Bz ((Below.refl _ _).alloc (Nat.le_refl _) _) _⟩)
      ·skip
       rcases BS r.kind 6 with ⟨e6,b6,c6⟩ | ⟨e6,b6,c6⟩
       ·go_enter Tryz.func73,Tryz.ntmps73
        go_wp2
        go_quiet ((go_at_call 40;exact Calls.quiet_of_same (EA _ _ _ _)))
        go_wp2_with (first | (go_at_call 40;refine (CG _ _ _ _).mono ?_;rintro e w' ⟨rfl,rfl⟩) | (go_at_call 63;refine (BQ _ _).mono ?_;rintro e w' ⟨rfl,rfl⟩) | (go_at_call 109;refine (CQ _ _).mono ?_;rintro e w' ⟨rfl,rfl⟩))
        all_goals (go_ret;exact ⟨Af (by rw [← H.out];simp [Cv,HM.out, *,e6.out]),Bz ((Below.refl _ _).alloc (Nat.le_refl _) _) _⟩)
       ·go_enter Tryz.func73,Tryz.ntmps73
        go_wp2
        go_quiet ((go_at_call 40;exact Calls.quiet_of_same (EA _ _ _ _)))
        go_wp2_with (first | (go_at_call 40;refine (CG _ _ _ _).mono ?_;rintro e w' ⟨rfl,rfl⟩) | (go_at_call 63;refine (BQ _ _).mono ?_;rintro e w' ⟨rfl,rfl⟩) | (go_at_call 109;refine (CQ _ _).mono ?_;rintro e w' ⟨rfl,rfl⟩))
        all_goals (go_ret;exact ⟨Af (by rw [← H.out];simp [Cv,HM.out, *,e1.out,e2.out,e3.out,e4.out,e5.out,e6.out]),Bz ((Below.refl _ _).alloc (Nat.le_refl _) _) _⟩)
structure Z4 (W : World) (B : Nat) (l : List Rec) (k : Nat) : Prop where
 out : ∃ x1 x2 x3 : Int,W.heap[B]? = some (.cells #[.int .i64 0, .int .i64 x1, .int .i64 x2, .int .i64 x3] 80 (0,0)) ∧ x1 = Ae l 1 k ∧ x2 = Ae l 2 k ∧ x3 = Ae l 3 k
theorem UZ {W : World} {B k : Nat} {l : List Rec} {x1 x2 x3 tx : Int} {T : TypeId} (h : W.heap[B]? = some (.cells #[.int .i64 0, .int .i64 x1, .int .i64 x2, .int .i64 x3] T (0,0))) (hx : x1 = Ae l 1 k ∧ x2 = Ae l 2 k ∧ x3 = Ae l 3 k) (h1 : 1 ≤ tx) (h3 : tx ≤ 3) : W.cell? ⟨B,tx.toNat,none⟩ = some (.int .i64 (Ae l tx k)):=by
 obtain ⟨rfl,rfl,rfl⟩:=hx
 have e : tx = 1 ∨ tx = 2 ∨ tx = 3:=by omega
 rcases e with rfl | rfl | rfl <;> simp [World.cell?,h]
theorem LA {W : World} {B : Nat} {x1 x2 x3 tx v : Int} {T : TypeId} (h : W.heap[B]? = some (.cells #[.int .i64 0, .int .i64 x1, .int .i64 x2, .int .i64 x3] T (0,0))) (h1 : 1 ≤ tx) (h3 : tx ≤ 3) :
  (W.setCell ⟨B,tx.toNat,none⟩ (.int .i64 v)).heap[B]? = some (.cells #[.int .i64 0, .int .i64 (if tx = 1 then v else x1), .int .i64 (if tx = 2 then v else x2), .int .i64 (if tx = 3 then v else x3)] T (0,0)):=by
 have:=Te h tx.toNat (.int .i64 v)
 rw [this]
 have e : tx = 1 ∨ tx = 2 ∨ tx = 3:=by omega
 rcases e with rfl | rfl | rfl <;> simp
theorem Px {W : World} {B : Nat} {x1 x2 x3 tx : Int} {T : TypeId} (h : W.heap[B]? = some (.cells #[.int .i64 0, .int .i64 x1, .int .i64 x2, .int .i64 x3] T (0,0))) (h1 : 1 ≤ tx) (h3 : tx ≤ 3) : ∃ y,W.cell? ⟨B,tx.toNat,none⟩ = some (.int .i64 y):=by
 have e : tx = 1 ∨ tx = 2 ∨ tx = 3:=by omega
 rcases e with rfl | rfl | rfl <;> simp [World.cell?,h]
theorem QS {W : World} {B B' j o : Nat} {v u : Value} (hne : B ≠ B') (h : W.cell? ⟨B',o,none⟩ = some u) : (W.setCell ⟨B,j,none⟩ v).cell? ⟨B',o,none⟩ = some u:=by
 rw [World.cell?_setCell_far _ _ _ _ (by simp;exact fun e => hne e)]
 exact h
theorem Nu {l : List Rec} {k : Nat} {tx t x : Int} (e : (rc l k).tx = tx) (h : x = Ae l t k) : (if tx = t then (if EK (rc l k).kind = true then 0 else (k : Int) + 1) else x) = Ae l t (k + 1):=by
 subst e
 unfold Ae
 split
 ·split <;> simp
 ·exact h
theorem Gh {l : List Rec} {k : Nat} {t x : Int} (he : EK (rc l k).kind = false) (h : x = Ae l t k) : (if (rc l k).tx = t then (k : Int) + 1 else x) = Ae l t (k + 1):=by
 have:=Nu (t:=t) rfl h
 rwa [he,if_neg (by simp : ¬ false = true)] at this
theorem Hf {l : List Rec} {k : Nat} {t x : Int} (he : EK (rc l k).kind = true) (h : x = Ae l t k) : (if (rc l k).tx = t then 0 else (if (rc l k).tx = t then (k : Int) + 1 else x)) = Ae l t (k + 1):=by
 have:=Nu (t:=t) rfl h
 rw [he,if_pos rfl] at this
 rw [← this]
 split <;> rfl
set_option maxHeartbeats 16000000 in
theorem FL {w0 w : World} {A : Option Addr} {c : Nat} {l : List Rec} {b : Bool} (hv : Au l = b) (hb : Below w0.heap.size w0 w) (hr : Kd.C kRec w0 A l.length l) : Calls Tryz.prog 39 #[.slice A l.length c] w fun e w' => e = .returned (.bool b) ∧ Below w.heap.size w w':=by
 have HR:=As hr
 have HB:=As hb
 have HV:=As hv
 clear hr hb hv
 by_cases hlen : l.length ≤ 150
 ·go_enter Tryz.func39,Tryz.ntmps39
  go_wp2
  have HLEN:=As hlen
  go_loopw [11] (fun i wr => ∃ k : Nat,k ≤ l.length ∧ i = .int .i64 (k : Int) ∧ A7 (DK l k = true) ∧ A7 (Z4 wr w.heap.size l k) ∧ A7 (Below w.heap.size w wr)) (fun i _ => (l.length - (intOf i)).toNat)
  case atStart => exact ⟨0,Nat.zero_le _,rfl,⟨rfl⟩,⟨⟨0,0,0,blk_new _ _,rfl,rfl,rfl⟩⟩,⟨(Below.refl _ _).alloc (Nat.le_refl _) _⟩⟩
  case round =>
   obtain ⟨k,hk,rfl,HL,HA,HW⟩:=hrel
   by_cases hlt : k < l.length
   ·obtain ⟨ad,rfl,QR⟩:=Cs HR.out k hlt
    have HW0:=As (bj HB.out HW.out)
    obtain ⟨g0,g1,g2,g3,g4,g5,g6,g7⟩:=QR.up HW0.out
    have p0 : (0 : Int) ≤ (k : Int):=Int.natCast_nonneg _
    have p1 : (k : Int) < (l.length : Int):=by omega
    obtain ⟨x1,x2,x3,hA,hx1,hx2,hx3⟩:=HA.out.out
    have HF:=As (fun h => Jm (n:=l.length) (show atOk l k = false from h) hlt)
    have HA2:=As hA
    have HX:=As (And.intro hx1 (And.intro hx2 hx3))
    clear hA hx1 hx2 hx3
    go_wp2
    refine Rm (fun w2 hb2 Q2 => ?_)
    have hA3:=(hb2.block w.heap.size (Array.getElem?_eq_some_iff.1 HA2.out).1).trans HA2.out
    cases h1 : Cv (rc l k)
    ·have K1:=As h1
     clear h1
     refine Aq (fun w' => Below w2.heap.size w2 w') rfl rfl (by kernel_rfl) (Ac (Below.refl _ _)) (fun HT => ?_)
     repeat (first
      | (refine AQ (fun wx hS => ?_))
      | ((with_reducible refine Ay (f:=73) rfl ?_);refine Az (v:=.bool false) (args:=#[(rc l k).val]) HT rfl Tryz.func73 (by kernel_rfl) rfl rfl (by rfl) (fun _ _ _ h => h) (by simp only [List.map_toArray,List.map_cons,List.map_nil];rfl) (fun wx hS => (EM (r:=rc l k) K1.out _).mono fun e w1 h => ⟨h.1,bj hS h.2⟩) ?_;simp only [sc0,sc1])
      | (refine AB HT rfl (by rfl) (fun _ _ _ h => h) ?_;simp only [sc0,sc1])
      | (refine AP (v:=?_) HT rfl (by rfl) (fun _ _ _ h => h) (fun wx hS => ?_) ?_;rotate_left;(obtain ⟨z0,z1,z2,z3,z4,z5,z6,z7⟩:=Q2.up hS;go_simp;with_reducible rfl);rotate_left;simp only [sc0,sc1]))
     go_wp2
     go_ret
     exact ⟨Af (by rw [← HV.out];simp [Au,HF.out (by simp [atOk,K1.out])]),(HW.out.trans (hb2.mono HW.out.size)).trans (hS.mono ((HW.out.trans (hb2.mono HW.out.size)).size))⟩
    ·have K1:=As h1
     clear h1
     have htx:=Qa K1.out
     have t1:=htx.1
     have t3 : (rc l k).tx < 4:=by omega
     have t0 : 0 ≤ (rc l k).tx:=by omega
     have hAt:=HA2.out
     replace hAt : w2.cell? ⟨w.heap.size,(rc l k).tx.toNat,none⟩ = some (.int .i64 (Ae l (rc l k).tx k)):=UZ hA3 HX.out htx.1 htx.2.1
     clear htx
     rcases BS (rc l k).prev (Ae l (rc l k).tx k) with ⟨e2,b2,c2⟩ | ⟨e2,b2,c2⟩
     ·rcases lts (k : Int) (rc l k).next with ⟨e3,b3,c3⟩ | ⟨e3,b3,c3⟩
      ·refine Aq (fun w' => Below w2.heap.size w2 w') rfl rfl (by kernel_rfl) (Ac (Below.refl _ _)) (fun HT => ?_)
       repeat (first
        | (refine AQ (fun wx hS => ?_))
        | ((with_reducible refine Ay (f:=73) rfl ?_);refine Az (v:=.bool true) (args:=#[(rc l k).val]) HT rfl Tryz.func73 (by kernel_rfl) rfl rfl (by rfl) (fun _ _ _ h => h) (by simp only [List.map_toArray,List.map_cons,List.map_nil];rfl) (fun wx hS => (EM (r:=rc l k) K1.out _).mono fun e w1 h => ⟨h.1,bj hS h.2⟩) ?_;simp only [sc0,sc1])
        | (refine AB HT rfl (by rfl) (fun _ _ _ h => h) ?_;simp only [sc0,sc1])
        | (refine AP (v:=?_) HT rfl (by rfl) (fun _ _ _ h => h) (fun wx hS => ?_) ?_;rotate_left;(obtain ⟨z0,z1,z2,z3,z4,z5,z6,z7⟩:=Q2.up hS;have zA:=bc hS hAt;go_simp;with_reducible rfl);rotate_left;simp only [sc0,sc1]))
       go_wp2
       go_ret
       exact ⟨Af (by rw [← HV.out];simp [Au,HF.out (by simp [atOk,c3])]),(HW.out.trans (hb2.mono HW.out.size)).trans (hS.mono ((HW.out.trans (hb2.mono HW.out.size)).size))⟩
      ·rcases lts 0 (rc l k).next with ⟨e4,b4,c4⟩ | ⟨e4,b4,c4⟩
       ·obtain ⟨j,hj⟩ : ∃ j : Nat,(rc l k).next - 1 = j:=⟨((rc l k).next - 1).toNat,by have:=e4.out;omega⟩
        have hj2 : (rc l k).next.toNat - 1 = j:=by have:=e4.out;omega
        have hjl : j < l.length:=by have:=e4.out;have:=e3.out;omega
        obtain ⟨ad',ea,QJ⟩:=Cs HR.out j hjl
        obtain rfl:=Option.some.inj ea
        have s0 : IntKind.i64.wrap ((rc l k).next - 1) = (j : Int):=by rw [hj];exact IntWalk.i64_in _ (by omega)
        have s1 : (0 : Int) ≤ (j : Int):=Int.natCast_nonneg _
        have s2 : (j : Int) < (l.length : Int):=by omega
        have J2:=As hj2
        have QJ2:=(QJ.up HW0.out).up hb2
        clear hj hj2 ea
        rcases BS (rc l j).tx (rc l k).tx with ⟨e5,b5,c5⟩ | ⟨e5,b5,c5⟩
        ·refine Aq (fun w' => Below w2.heap.size w2 w') rfl rfl (by kernel_rfl) (Ac (Below.refl _ _)) (fun HT => ?_)
         repeat (first
          | (refine AQ (fun wx hS => ?_))
          | ((with_reducible refine Ay (f:=73) rfl ?_);refine Az (v:=.bool true) (args:=#[(rc l k).val]) HT rfl Tryz.func73 (by kernel_rfl) rfl rfl (by rfl) (fun _ _ _ h => h) (by simp only [List.map_toArray,List.map_cons,List.map_nil];rfl) (fun wx hS => (EM (r:=rc l k) K1.out _).mono fun e w1 h => ⟨h.1,bj hS h.2⟩) ?_;simp only [sc0,sc1])
          | (refine AB HT rfl (by rfl) (fun _ _ _ h => h) ?_;simp only [sc0,sc1])
          | (refine AP (v:=?_) HT rfl (by rfl) (fun _ _ _ h => h) (fun wx hS => ?_) ?_;rotate_left;(obtain ⟨z0,z1,z2,z3,z4,z5,z6,z7⟩:=Q2.up hS;obtain ⟨y0,y1,y2,y3,y4,y5,y6,y7⟩:=QJ2.up hS;have zA:=bc hS hAt;go_simp;with_reducible rfl);rotate_left;simp only [sc0,sc1]))
         have HBX:=As ((HW.out.trans (hb2.mono HW.out.size)).trans (hS.mono ((HW.out.trans (hb2.mono HW.out.size)).size)))
         have hA4:=(hS.block w.heap.size (Array.getElem?_eq_some_iff.1 hA3).1).trans hA3
         have HA5:=As (LA (v:=(k : Int) + 1) hA4 t1 (by omega : (rc l k).tx ≤ 3))
         obtain ⟨yA,hyA⟩:=Px hA4 t1 (by omega : (rc l k).tx ≤ 3)
         have hfA:=Gl hA4 (rc l k).tx.toNat
         obtain ⟨z0,z1,z2,z3,z4,z5,z6,z7⟩:=Q2.up hS
         have HNE:=As (show w.heap.size ≠ wr.heap.size by have:=HW.out.size;have:=(Array.getElem?_eq_some_iff.1 HA2.out).1;omega)
         have hne:=HNE.out
         have HAT:=As (show atOk l k = true by simp [atOk,K1.out,b2,c3,J2.out,b5])
         clear s0 s1 s2 QJ QJ2 hA4 hA3 hAt Q2 QR g0 g1 g2 g3 g4 g5 g6 g7
         cases he : EK (rc l k).kind
         ·have HE:=As he
          clear he
          go_wp2_with (go_at_call 74;refine (Ls (r:=rc l k) HE.out _).mono ?_;rintro e w3 ⟨rfl,hb3⟩;have HA6:=As ((hb3.block w.heap.size (by have:=(Array.getElem?_eq_some_iff.1 HA5.out).1;exact this)).trans HA5.out);have HB3:=As hb3;clear hb3)
          go_roundw
          case rel => exact ⟨k + 1,by omega,by go_num,⟨by rw [DK,HL.out,HAT.out];rfl⟩,⟨⟨_,_,_,HA6.out,Gh HE.out HX.out.1,Gh HE.out HX.out.2.1,Gh HE.out HX.out.2.2⟩⟩,⟨(HBX.out.setCell (p:=⟨w.heap.size,_,none⟩) (Nat.le_refl _) _).trans (HB3.out.mono (by rw [World.size_setCell];exact HBX.out.size))⟩⟩
          case measure => simp [intOf];omega
         ·have HE:=As he
          clear he
          go_wp2_with (go_at_call 74;refine (Ls (r:=rc l k) HE.out _).mono ?_;rintro e w3 ⟨rfl,hb3⟩;have hA6:=(hb3.block w.heap.size (by have:=(Array.getElem?_eq_some_iff.1 HA5.out).1;exact this)).trans HA5.out;have HB3:=As hb3;obtain ⟨yB,hyB⟩:=Px hA6 t1 (by omega : (rc l k).tx ≤ 3);have hfB:=Gl hA6 (rc l k).tx.toNat;have HA7:=As (LA (v:=0) hA6 t1 (by omega : (rc l k).tx ≤ 3));have y1:=CO hb3 (QS HNE.out z1);clear hb3 hA6)
          go_roundw
          case rel => exact ⟨k + 1,by omega,by go_num,⟨by rw [DK,HL.out,HAT.out];rfl⟩,⟨⟨_,_,_,HA7.out,Hf HE.out HX.out.1,Hf HE.out HX.out.2.1,Hf HE.out HX.out.2.2⟩⟩,⟨((HBX.out.setCell (p:=⟨w.heap.size,_,none⟩) (Nat.le_refl _) _).trans (HB3.out.mono (by rw [World.size_setCell];exact HBX.out.size))).setCell (p:=⟨w.heap.size,_,none⟩) (Nat.le_refl _) _⟩⟩
          case measure => simp [intOf];omega
        ·refine Aq (fun w' => Below w2.heap.size w2 w') rfl rfl (by kernel_rfl) (Ac (Below.refl _ _)) (fun HT => ?_)
         repeat (first
          | (refine AQ (fun wx hS => ?_))
          | ((with_reducible refine Ay (f:=73) rfl ?_);refine Az (v:=.bool true) (args:=#[(rc l k).val]) HT rfl Tryz.func73 (by kernel_rfl) rfl rfl (by rfl) (fun _ _ _ h => h) (by simp only [List.map_toArray,List.map_cons,List.map_nil];rfl) (fun wx hS => (EM (r:=rc l k) K1.out _).mono fun e w1 h => ⟨h.1,bj hS h.2⟩) ?_;simp only [sc0,sc1])
          | (refine AB HT rfl (by rfl) (fun _ _ _ h => h) ?_;simp only [sc0,sc1])
          | (refine AP (v:=?_) HT rfl (by rfl) (fun _ _ _ h => h) (fun wx hS => ?_) ?_;rotate_left;(obtain ⟨z0,z1,z2,z3,z4,z5,z6,z7⟩:=Q2.up hS;obtain ⟨y0,y1,y2,y3,y4,y5,y6,y7⟩:=QJ2.up hS;have zA:=bc hS hAt;go_simp;with_reducible rfl);rotate_left;simp only [sc0,sc1]))
         go_wp2
         go_ret
         exact ⟨Af (by rw [← HV.out];simp [Au,HF.out (by simp [atOk,J2.out,b5];intro _ _ _;exact e4.out)]),(HW.out.trans (hb2.mono HW.out.size)).trans (hS.mono ((HW.out.trans (hb2.mono HW.out.size)).size))⟩
       ·refine Aq (fun w' => Below w2.heap.size w2 w') rfl rfl (by kernel_rfl) (Ac (Below.refl _ _)) (fun HT => ?_)
        repeat (first
         | (refine AQ (fun wx hS => ?_))
         | ((with_reducible refine Ay (f:=73) rfl ?_);refine Az (v:=.bool true) (args:=#[(rc l k).val]) HT rfl Tryz.func73 (by kernel_rfl) rfl rfl (by rfl) (fun _ _ _ h => h) (by simp only [List.map_toArray,List.map_cons,List.map_nil];rfl) (fun wx hS => (EM (r:=rc l k) K1.out _).mono fun e w1 h => ⟨h.1,bj hS h.2⟩) ?_;simp only [sc0,sc1])
         | (refine AB HT rfl (by rfl) (fun _ _ _ h => h) ?_;simp only [sc0,sc1])
         | (refine AP (v:=?_) HT rfl (by rfl) (fun _ _ _ h => h) (fun wx hS => ?_) ?_;rotate_left;(obtain ⟨z0,z1,z2,z3,z4,z5,z6,z7⟩:=Q2.up hS;have zA:=bc hS hAt;go_simp;with_reducible rfl);rotate_left;simp only [sc0,sc1]))
        have HBX:=As ((HW.out.trans (hb2.mono HW.out.size)).trans (hS.mono ((HW.out.trans (hb2.mono HW.out.size)).size)))
        have hA4:=(hS.block w.heap.size (Array.getElem?_eq_some_iff.1 hA3).1).trans hA3
        have HA5:=As (LA (v:=(k : Int) + 1) hA4 t1 (by omega : (rc l k).tx ≤ 3))
        obtain ⟨yA,hyA⟩:=Px hA4 t1 (by omega : (rc l k).tx ≤ 3)
        have hfA:=Gl hA4 (rc l k).tx.toNat
        obtain ⟨z0,z1,z2,z3,z4,z5,z6,z7⟩:=Q2.up hS
        have HNE:=As (show w.heap.size ≠ wr.heap.size by have:=HW.out.size;have:=(Array.getElem?_eq_some_iff.1 HA2.out).1;omega)
        have hne:=HNE.out
        have HAT:=As (show atOk l k = true by simp [atOk,K1.out,b2,c3,c4])
        clear hA4 hA3 hAt Q2 QR g0 g1 g2 g3 g4 g5 g6 g7
        cases he : EK (rc l k).kind
        ·have HE:=As he
         clear he
         go_wp2_with (go_at_call 74;refine (Ls (r:=rc l k) HE.out _).mono ?_;rintro e w3 ⟨rfl,hb3⟩;have HA6:=As ((hb3.block w.heap.size (by have:=(Array.getElem?_eq_some_iff.1 HA5.out).1;exact this)).trans HA5.out);have HB3:=As hb3;clear hb3)
         go_roundw
         case rel => exact ⟨k + 1,by omega,by go_num,⟨by rw [DK,HL.out,HAT.out];rfl⟩,⟨⟨_,_,_,HA6.out,Gh HE.out HX.out.1,Gh HE.out HX.out.2.1,Gh HE.out HX.out.2.2⟩⟩,⟨(HBX.out.setCell (p:=⟨w.heap.size,_,none⟩) (Nat.le_refl _) _).trans (HB3.out.mono (by rw [World.size_setCell];exact HBX.out.size))⟩⟩
         case measure => simp [intOf];omega
        ·have HE:=As he
         clear he
         go_wp2_with (go_at_call 74;refine (Ls (r:=rc l k) HE.out _).mono ?_;rintro e w3 ⟨rfl,hb3⟩;have hA6:=(hb3.block w.heap.size (by have:=(Array.getElem?_eq_some_iff.1 HA5.out).1;exact this)).trans HA5.out;have HB3:=As hb3;obtain ⟨yB,hyB⟩:=Px hA6 t1 (by omega : (rc l k).tx ≤ 3);have hfB:=Gl hA6 (rc l k).tx.toNat;have HA7:=As (LA (v:=0) hA6 t1 (by omega : (rc l k).tx ≤ 3));have y1:=CO hb3 (QS HNE.out z1);clear hb3 hA6)
         go_roundw
         case rel => exact ⟨k + 1,by omega,by go_num,⟨by rw [DK,HL.out,HAT.out];rfl⟩,⟨⟨_,_,_,HA7.out,Hf HE.out HX.out.1,Hf HE.out HX.out.2.1,Hf HE.out HX.out.2.2⟩⟩,⟨((HBX.out.setCell (p:=⟨w.heap.size,_,none⟩) (Nat.le_refl _) _).trans (HB3.out.mono (by rw [World.size_setCell];exact HBX.out.size))).setCell (p:=⟨w.heap.size,_,none⟩) (Nat.le_refl _) _⟩⟩
         case measure => simp [intOf];omega
     ·refine Aq (fun w' => Below w2.heap.size w2 w') rfl rfl (by kernel_rfl) (Ac (Below.refl _ _)) (fun HT => ?_)
      repeat (first
       | (refine AQ (fun wx hS => ?_))
       | ((with_reducible refine Ay (f:=73) rfl ?_);refine Az (v:=.bool true) (args:=#[(rc l k).val]) HT rfl Tryz.func73 (by kernel_rfl) rfl rfl (by rfl) (fun _ _ _ h => h) (by simp only [List.map_toArray,List.map_cons,List.map_nil];rfl) (fun wx hS => (EM (r:=rc l k) K1.out _).mono fun e w1 h => ⟨h.1,bj hS h.2⟩) ?_;simp only [sc0,sc1])
       | (refine AB HT rfl (by rfl) (fun _ _ _ h => h) ?_;simp only [sc0,sc1])
       | (refine AP (v:=?_) HT rfl (by rfl) (fun _ _ _ h => h) (fun wx hS => ?_) ?_;rotate_left;(obtain ⟨z0,z1,z2,z3,z4,z5,z6,z7⟩:=Q2.up hS;have zA:=bc hS hAt;go_simp;with_reducible rfl);rotate_left;simp only [sc0,sc1]))
      go_outline
      go_wp2
      go_ret
      exact ⟨Af (by rw [← HV.out];simp [Au,HF.out (by simp [atOk,b2])]),(HW.out.trans (hb2.mono HW.out.size)).trans (hS.mono ((HW.out.trans (hb2.mono HW.out.size)).size))⟩
   ·obtain rfl : k = l.length:=by omega
    go_wp2
    go_ret
    exact ⟨Af (by rw [← HV.out,Au,HL.out,decide_eq_true HLEN.out];rfl),HW.out⟩
 ·go_enter Tryz.func39,Tryz.ntmps39
  go_wp2
  go_ret
  exact ⟨Af (by rw [← HV.out,Au,decide_eq_false hlen,Bool.and_false]),(Below.refl _ _).alloc (Nat.le_refl _) _⟩
end Go.Proofs.YtjeodgfkilhkhaaGreat
