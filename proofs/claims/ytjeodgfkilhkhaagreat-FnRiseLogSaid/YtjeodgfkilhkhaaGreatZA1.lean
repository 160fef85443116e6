/- A part of the proof: what the last text of the claim says leans on this one. -/
import Derived.Test.YtjeodgfkilhkhaaGreatRows
import Derived.WalkKit
import Derived.ProofKit
import Derived.JoinedOf
import Derived.Test.YtjeodgfkilhkhaaGreatProg
import Derived.Below
import Derived.Deep.Draws
import Derived.Deep.AppendLies
import Derived.Maps.AppendAt
import Derived.OwnWalk
import Derived.Laws.BytesArg
import Derived.Laws.MakeOwn
import Derived.Laws.OwnMore
import Derived.Deep.OwnRows
import Derived.Tactics
import Derived.Lib.ConvBytes
import Derived.Lib.Hide
import Derived.Laws.Slices
import Derived.KernelRfl
import Derived.RowKit3
import Derived.Deep.LoopGhost
import Derived.Deep.QuietTactic
import Derived.BigQuiet
import Derived.WideLaws
import Derived.Deep.DeepCutAuto
import Derived.Deep.CutBlock
import Derived.Deep.RegionHeld3
import Derived.Deep.RegionWith
import Derived.Laws.Rows
import Derived.Lib.AppendStr
import Derived.ArgAppend
import Derived.Laws.IdiomCopy
import Derived.OrdersHeld
import Derived.Laws.BitsLemmas
import Derived.RowKit
import Derived.Outline
import Derived.Test.YtjeodgfkilhkhaaGreatXWWords
import Derived.Test.YtjeodgfkilhkhaaGreatXWLast
import Derived.Test.YtjeodgfkilhkhaaGreatXWApart
import Derived.Test.YtjeodgfkilhkhaaGreatXWMore
import Derived.IntWalk
import Derived.Test.YtjeodgfkilhkhaaGreatXShelf
import Derived.Lib.Bytes
import Derived.Handy
import Derived.RangeFuncNested
import Derived.RangeFuncBound
import Derived.RangeFuncCalls
import Derived.RangeFuncLeaves
import Derived.RangeFuncBox
import Derived.Shelf.Abstract
import Derived.Shelf.RegionOpen
import Derived.OwnWalkIn
import Derived.TacticsInMore
import Derived.LoopNIn
import Derived.LoopIn
set_option linter.unusedVariables false
set_option linter.unusedSimpArgs false
namespace Go.Proofs.YtjeodgfkilhkhaaGreat
def Kh : List Char:=([104,97,114,110,101,115,115] : List Nat).map Char.ofNat
def Kg : List Char:=([51,55,98,48,55,50,99,102,48,49,97,99,99,57,101,102,55,54,99,49,53,54,56,49,101,52,57,98,99,56,55,97,49,101,57,102,55,52,50,54,55,56,56,51,98,55,97,49,52,49,98,57,48,57,55,50,100,53,97,52,52,54,50,49] : List Nat).map Char.ofNat
def Er : List Char:=([99,117,116] : List Nat).map Char.ofNat
def FV : List Char:=([97,116] : List Nat).map Char.ofNat
def QL : List Char:=([108,111,111,112,46,101,120,97,109,112,108,101,47,116,97,98,117,108,97,114,105,117,109,47,108,97,119,115,46,70,110,70,97,108,108,32,108,111,111,112,46,101,120,97,109,112,108,101,47,116,97,98,117,108,97,114,105,117,109,47,108,97,119,115,46,70,110,70,97,108,108,84,119,105,99,101,32,108,111,111,112,46,101,120,97,109,112,108,101,47,116,97,98,117,108,97,114,105,117,109,47,108,97,119,115,46,70,110,70,111,114,99,101,70,97,108,108,32,108,111,111,112,46,101,120,97,109,112,108,101,47,116,97,98,117,108,97,114,105,117,109,47,108,97,119,115,46,70,110,82,105,115,101,78,111,116,32,108,111,111,112,46,101,120,97,109,112,108,101,47,116,97,98,117,108,97,114,105,117,109,47,108,97,119,115,46,70,110,82,105,115,101,76,111,103,32,108,111,111,112,46,101,120,97,109,112,108,101,47,116,97,98,117,108,97,114,105,117,109,47,108,97,119,115,46,70,110,82,105,115,101,78,111,110,101,32,108,111,111,112,46,101,120,97,109,112,108,101,47,116,97,98,117,108,97,114,105,117,109,47,108,97,119,115,46,70,110,87,114,105,116,101,70,97,108,108] : List Nat).map Char.ofNat
def gap : Char:=Char.ofNat 32
def M9 : List Char:=Kh ++ gap :: (Kg ++ gap :: (Er ++ gap :: (FV ++ gap :: QL)))
theorem Wo : Tryz.prog.initOrder = String.ofList M9:=by kernel_rfl
theorem UB : Tryz.prog.initOrder.toList = M9:=by rw [Wo,String.toList_ofList]
theorem Ho : ∀ (w r : List Char),(w.all fun c => c != gap) = true → wordsSigns (w ++ gap :: r) = w :: wordsSigns r
 | [],r,_ => rfl
 | c :: w,r,h => by
  simp only [List.all_cons,Bool.and_eq_true,bne_iff_ne,ne_eq] at h
  have hne : c ≠ gap:=h.1
  have ih:=Ho w r (by simpa using h.2)
  show wordsSigns (c :: (w ++ gap :: r)) = _
  rw [wordsSigns.eq_3 _ _ (by intro e;exact hne e),ih]
theorem MZ : wordsSigns Tryz.prog.initOrder.toList = Kh :: Kg :: Er :: FV :: wordsSigns QL:=by
 rw [UB,M9,Ho _ _ (by kernel_rfl),Ho _ _ (by kernel_rfl),Ho _ _ (by kernel_rfl),Ho _ _ (by kernel_rfl)]
theorem Jd (ws : List (List Char)) : behindMainWord (Kh :: Kg :: Er :: FV :: ws) = Er :: FV :: ws:=by kernel_rfl
theorem MX (ws : List (List Char)) : stripLifts liftWords (Er :: FV :: ws) = ([],Er :: FV :: ws):=by kernel_rfl
theorem Na : Er = "cut".toList:=by kernel_rfl
theorem P6 {P : Program} {r : List (List Char)} (h : wordsSigns P.initOrder.toList = Kh :: Kg :: Er :: FV :: r) (h1 : P.laysLater = false) (h2 : P.bearsReflect = false) (h3 : P.doorFits [] = true) : P.mayEnter = true:=by
 unfold Program.mayEnter
 rw [h,Jd]
 simp only [MX,h1,h2,h3]
 simp [Na]
theorem UX {P : Program} {r : List (List Char)} (h : wordsSigns P.initOrder.toList = Kh :: Kg :: Er :: FV :: r) : P.liftsFinal = false:=by
 unfold Program.liftsFinal Program.headLifts
 rw [h,Jd]
 simp only [MX]
 simp [Na]
theorem Wj {P : Program} {r : List (List Char)} (h : wordsSigns P.initOrder.toList = Kh :: Kg :: Er :: FV :: r) : P.make = some Make.cut:=by
 unfold Program.make
 rw [h,Jd]
 simp [Na]
theorem RL : Tryz.prog.laysLater = false:=by kernel_rfl
theorem Oa : Tryz.prog.bearsReflect = false:=by kernel_rfl
theorem Ue : Tryz.prog.doorFits [] = true:=by kernel_rfl
theorem U8 : Tryz.prog.mayEnter = true:=P6 MZ RL Oa Ue
theorem Qy : Tryz.prog.liftsFinal = false:=UX MZ
theorem UR : Tryz.prog.make = some Make.cut:=Wj MZ
open Go.RowKit Go.Proofs.YtjeodgfkilhkhaaGreatW.PrintWords Go.Proofs.YtjeodgfkilhkhaaGreatW.PrintLast Go.Proofs.YtjeodgfkilhkhaaGreatW.PrintMore
theorem sc0 {α : Type _} {a b : α} {l : List α} : (a :: l).set 0 b = b :: l:=rfl
theorem sc1 {α : Type _} {a b : α} {l : List α} {n : Nat} : (a :: l).set (n + 1) b = a :: l.set n b:=rfl
theorem As {p : Prop} (h : p) : A7 p:=⟨h⟩
structure Page where
 lsn : Int
 owner : Int
 vals : List Int
structure Rec where
 kind : Int
 tx : Int
 page : Int
 slot : Int
 old : Int
 new : Int
 prev : Int
 next : Int
structure Eng where
 disk : List Page
 mem : List Page
 log : List Rec
 safe : Int
 down : Bool
structure Evt where
 kind : Int
 tx : Int
 page : Int
 slot : Int
 n : Int
 vals : List Int
def z0 : Page:=⟨0,0, []⟩
def r0 : Rec:=⟨0,0,0,0,0,0,0,0⟩
def v0 : Evt:=⟨0,0,0,0,0, []⟩
def CJ : Kd Page:=Kd.iso (Kd.pair (Kd.int .i64) (Kd.pair (Kd.int .i64) (Kd.slice 3 (Kd.int .i64)))) (fun x => (x.lsn,x.owner,x.vals))
def kRec : Kd Rec:=Kd.iso (Kd.pair (Kd.int .i64) (Kd.pair (Kd.int .i64) (Kd.pair (Kd.int .i64) (Kd.pair (Kd.int .i64) (Kd.pair (Kd.int .i64) (Kd.pair (Kd.int .i64) (Kd.pair (Kd.int .i64) (Kd.int .i64)))))))) (fun x => (x.kind,x.tx,x.page,x.slot,x.old,x.new,x.prev,x.next))
def kEvt : Kd Evt:=Kd.iso (Kd.pair (Kd.int .i64) (Kd.pair (Kd.int .i64) (Kd.pair (Kd.int .i64) (Kd.pair (Kd.int .i64) (Kd.pair (Kd.int .i64) (Kd.slice 3 (Kd.int .i64))))))) (fun x => (x.kind,x.tx,x.page,x.slot,x.n,x.vals))
abbrev Rec.cells (r : Rec) : List Value := [.int .i64 r.kind, .int .i64 r.tx, .int .i64 r.page, .int .i64 r.slot, .int .i64 r.old, .int .i64 r.new, .int .i64 r.prev, .int .i64 r.next]
theorem Kb {w : World} {x : Rec} {cs : List Value} (h : kRec.K w x cs) : cs = x.cells:=by
 obtain ⟨_,_,rfl,rfl,⟨_,_,rfl,rfl,⟨_,_,rfl,rfl,⟨_,_,rfl,rfl,⟨_,_,rfl,rfl,⟨_,_,rfl,rfl,⟨_,_,rfl,rfl,rfl⟩⟩⟩⟩⟩⟩⟩:=h
 exact rfl
theorem RU {w : World} {x : Page} {cs : List Value} (h : CJ.K w x cs) : ∃ A c,cs = [.int .i64 x.lsn, .int .i64 x.owner, .slice A x.vals.length c] ∧ x.vals.length ≤ c ∧ (Kd.int .i64).C w A x.vals.length x.vals:=by
 obtain ⟨_,_,rfl,rfl,⟨_,_,rfl,rfl,⟨A2,c2,rfl,l2,g2⟩⟩⟩:=h
 exact ⟨A2,c2,rfl,l2,g2⟩
theorem JS {w : World} {base : Nat} {ok : Nat → Prop} {x : Page} {cs : List Value} (h : CJ.M w base ok x cs) : ∃ v,cs = [.int .i64 x.lsn, .int .i64 x.owner,v] ∧ (Kd.int .i64).R 3 w base ok v x.vals:=by
 obtain ⟨_,_,rfl,rfl,⟨_,_,rfl,rfl,⟨v2,rfl,g2⟩⟩⟩:=h
 exact ⟨v2,rfl,g2⟩
theorem QI (w : World) (x : Page) {A : Option Addr} {c : Nat} (l2 : x.vals.length ≤ c) (g2 : (Kd.int .i64).C w A x.vals.length x.vals) : CJ.K w x [.int .i64 x.lsn, .int .i64 x.owner, .slice A x.vals.length c]:=⟨[.int .i64 x.lsn], [.int .i64 x.owner, .slice A x.vals.length c],rfl,rfl,⟨[.int .i64 x.owner], [.slice A x.vals.length c],rfl,rfl,⟨A,c,rfl,l2,g2⟩⟩⟩
theorem FH (w : World) (base : Nat) (ok : Nat → Prop) (x : Page) {v : Value} (g2 : (Kd.int .i64).R 3 w base ok v x.vals) : CJ.M w base ok x [.int .i64 x.lsn, .int .i64 x.owner,v]:=⟨[.int .i64 x.lsn], [.int .i64 x.owner,v],rfl,rfl,⟨[.int .i64 x.owner], [v],rfl,rfl,⟨v,rfl,g2⟩⟩⟩
def rc (l : List Rec) (k : Nat) : Rec:=l.getD k r0
def pg (l : List Page) (k : Nat) : Page:=l.getD k z0
def iv (l : List Int) (k : Nat) : Int:=l.getD k 0
def ev (l : List Evt) (k : Nat) : Evt:=l.getD k v0
structure GH (w : World) (a : Addr) (r : Rec) : Prop where
 c0 : w.cell? a = some (.int .i64 r.kind)
 c1 : w.cell? ⟨a.block,a.off + 1,none⟩ = some (.int .i64 r.tx)
 c2 : w.cell? ⟨a.block,a.off + 2,none⟩ = some (.int .i64 r.page)
 c3 : w.cell? ⟨a.block,a.off + 3,none⟩ = some (.int .i64 r.slot)
 c4 : w.cell? ⟨a.block,a.off + 4,none⟩ = some (.int .i64 r.old)
 c5 : w.cell? ⟨a.block,a.off + 5,none⟩ = some (.int .i64 r.new)
 c6 : w.cell? ⟨a.block,a.off + 6,none⟩ = some (.int .i64 r.prev)
 c7 : w.cell? ⟨a.block,a.off + 7,none⟩ = some (.int .i64 r.next)
structure GL (w : World) (a : Addr) (p : Page) (A : Option Addr) (c : Nat) : Prop where
 c0 : w.cell? a = some (.int .i64 p.lsn)
 c1 : w.cell? ⟨a.block,a.off + 1,none⟩ = some (.int .i64 p.owner)
 c2 : w.cell? ⟨a.block,a.off + 2,none⟩ = some (.slice A p.vals.length c)
theorem bc {w0 w : World} (h : Below w0.heap.size w0 w) {a : Addr} {v : Value} (hc : w0.cell? a = some v) : w.cell? a = some v:=CO h hc
theorem GH.up {w0 w : World} {a : Addr} {r : Rec} (h : GH w0 a r) (hb : Below w0.heap.size w0 w) : GH w a r:=
 ⟨bc hb h.c0,bc hb h.c1,bc hb h.c2,bc hb h.c3,bc hb h.c4,bc hb h.c5,bc hb h.c6,bc hb h.c7⟩
theorem GL.up {w0 w : World} {a : Addr} {p : Page} {A : Option Addr} {c : Nat} (h : GL w0 a p A c) (hb : Below w0.heap.size w0 w) : GL w a p A c:=
 ⟨bc hb h.c0,bc hb h.c1,bc hb h.c2⟩
theorem Cs {w : World} {A : Option Addr} {n : Nat} {xs : List Rec} (h : Kd.C kRec w A n xs) (i : Nat) (h1 : i < n) : ∃ ad,A = some ad ∧ GH w (ad.add (i * 8)) (rc xs i):=by
 obtain ⟨ad,c,e,_,hK,hc0⟩:=Kd.TA h r0 (i : Int) (by omega) (by omega)
 have hc : ∀ j u,c[j]? = some u → w.cell? (ad.add (i * 8 + j)) = some u:=hc0
 obtain rfl:=Kb hK
 exact ⟨ad,e,hc 0 _ rfl,by rw [← EX _ _ 1 (by omega)];exact hc 1 _ rfl,by rw [← EX _ _ 2 (by omega)];exact hc 2 _ rfl,by rw [← EX _ _ 3 (by omega)];exact hc 3 _ rfl,by rw [← EX _ _ 4 (by omega)];exact hc 4 _ rfl,by rw [← EX _ _ 5 (by omega)];exact hc 5 _ rfl,by rw [← EX _ _ 6 (by omega)];exact hc 6 _ rfl,by rw [← EX _ _ 7 (by omega)];exact hc 7 _ rfl⟩
theorem DT {w : World} {A : Option Addr} {n : Nat} {xs : List Page} (h : Kd.C CJ w A n xs) (i : Nat) (h1 : i < n) : ∃ ad A2 c2,A = some ad ∧ GL w (ad.add (i * 3)) (pg xs i) A2 c2 ∧ (pg xs i).vals.length ≤ c2 ∧ (Kd.int .i64).C w A2 (pg xs i).vals.length (pg xs i).vals:=by
 obtain ⟨ad,c,e,_,hK,hc0⟩:=Kd.TA h z0 (i : Int) (by omega) (by omega)
 have hc : ∀ j u,c[j]? = some u → w.cell? (ad.add (i * 3 + j)) = some u:=hc0
 obtain ⟨A2,c2,rfl,l2,g2⟩:=RU hK
 exact ⟨ad,A2,c2,e,⟨hc 0 _ rfl,by rw [← EX _ _ 1 (by omega)];exact hc 1 _ rfl,by rw [← EX _ _ 2 (by omega)];exact hc 2 _ rfl⟩,l2,g2⟩
theorem DW {w : World} {A : Option Addr} {n : Nat} {xs : List Int} (h : Kd.C (Kd.int .i64) w A n xs) (i : Nat) (h1 : i < n) : ∃ ad,A = some ad ∧ w.cell? (ad.add i) = some (.int .i64 (iv xs i)):=by
 obtain ⟨ad,c,e,_,hK,hc0⟩:=Kd.TA h 0 (i : Int) (by omega) (by omega)
 have hc : ∀ j u,c[j]? = some u → w.cell? (ad.add (i * 1 + j)) = some u:=hc0
 obtain rfl : c = [.int .i64 (iv xs i)]:=hK
 have:=hc 0 _ rfl
 rw [Nat.mul_one,Nat.add_zero] at this
 exact ⟨ad,e,this⟩
abbrev Rec.val (r : Rec) : Value:=.agg #[.int .i64 r.kind, .int .i64 r.tx, .int .i64 r.page, .int .i64 r.slot, .int .i64 r.old, .int .i64 r.new, .int .i64 r.prev, .int .i64 r.next]
theorem CY {α : Type} {d : Kd α} {w : World} {A : Option Addr} {n : Nat} {xs : List α} (h : Kd.C d w A n xs) : xs.length = n ∧ n ≤ 9223372036854775807:=⟨h.1,h.2.1⟩
theorem Af {a b : Bool} (h : a = b) : Ending.returned (.bool a) = .returned (.bool b):=by rw [h]
theorem Dz {k : IntKind} {a b : Int} (h : a = b) : Ending.returned (.int k a) = .returned (.int k b):=by rw [h]
theorem bj {w0 w w' : World} (h : Below w0.heap.size w0 w) (k : Below w.heap.size w w') : Below w0.heap.size w0 w':=Sg h h.size k
theorem BF {α : Type} {d : Kd α} {w0 w : World} {A : Option Addr} {n : Nat} {xs : List α} (h : Kd.C d w0 A n xs) (hb : Below w0.heap.size w0 w) : Kd.C d w A n xs:=Kd.LH h hb
theorem BS (a b : Int) : (A7 (a = b) ∧ (a == b) = true ∧ (a != b) = false) ∨ (A7 (a ≠ b) ∧ (a == b) = false ∧ (a != b) = true):=by
 by_cases h : a = b
 ·exact .inl ⟨⟨h⟩,by simp [h],by simp [h]⟩
 ·exact .inr ⟨⟨h⟩,by simp [h],by simp [h]⟩
theorem lts (a b : Int) : (A7 (a < b) ∧ decide (a < b) = true ∧ decide (b ≤ a) = false) ∨ (A7 (b ≤ a) ∧ decide (a < b) = false ∧ decide (b ≤ a) = true):=by
 by_cases h : a < b
 ·exact .inl ⟨⟨h⟩,by simp [h],by simp;omega⟩
 ·exact .inr ⟨⟨by omega⟩,by simp;omega,by simp;omega⟩
def inB (a b c : Int) : Bool:=decide (b ≤ a) && decide (a ≤ c)
theorem CU {a b c : Int} : inB a b c = true ↔ b ≤ a ∧ a ≤ c:=by simp [inB]
theorem CG (a b c : Int) (w : World) : Calls Tryz.prog 40 #[.int .i64 a, .int .i64 b, .int .i64 c] w fun e w' => e = .returned (.bool (inB a b c)) ∧ w = w':=by
 go_enter Tryz.func40,Tryz.ntmps40
 go_wp2 <;> (go_ret;exact ⟨by simp [inB];try omega,rfl⟩)
theorem EA (a b c : Int) (w : World) : Calls Tryz.prog 40 #[.int .i64 a, .int .i64 b, .int .i64 c] w fun e w' => e = .returned (.bool (inB a b c)) ∧ w' = w:=(CG a b c w).mono fun _ _ h => ⟨h.1,h.2.symm⟩
theorem AX (a b c : Int) (w : World) : Calls Tryz.prog 53 #[.int .i64 a, .int .i64 b, .int .i64 c] w fun e w' => e = .returned (.bool (inB a b c)) ∧ w = w':=by
 go_enter Tryz.func53,Tryz.ntmps53
 go_wp2 <;> (go_ret;exact ⟨by simp [inB];try omega,rfl⟩)
theorem BQ (a : Int) (w : World) : Calls Tryz.prog 63 #[.int .i64 a] w fun e w' => e = .returned (.bool (inB a 0 4)) ∧ w = w':=by
 go_enter Tryz.func63,Tryz.ntmps63
 go_wp2_with (go_at_call 40;refine (CG _ _ _ _).mono ?_;rintro e w' ⟨rfl,rfl⟩)
 go_ret
 exact ⟨rfl,rfl⟩
theorem CQ (a : Int) (w : World) : Calls Tryz.prog 109 #[.int .i64 a] w fun e w' => e = .returned (.bool (inB a 1 3)) ∧ w = w':=by
 go_enter Tryz.func109,Tryz.ntmps109
 go_wp2_with (go_at_call 40;refine (CG _ _ _ _).mono ?_;rintro e w' ⟨rfl,rfl⟩)
 go_ret
 exact ⟨rfl,rfl⟩
def Cu (k : Int) : Bool:=k == 1 || k == 2 || k == 6
def EK (k : Int) : Bool:=k == 4 || k == 5
theorem O9 (r : Rec) (w : World) : Calls Tryz.prog 76 #[r.val] w fun e w' => e = .returned (.bool (Cu r.kind)) ∧ Below w.heap.size w w':=by
 go_enter Tryz.func76,Tryz.ntmps76
 go_wp2 <;> (go_ret;exact ⟨by simp [Cu, *],(Below.refl _ _).alloc (Nat.le_refl _) _⟩)
theorem Sb (r : Rec) (w : World) : Calls Tryz.prog 74 #[r.val] w fun e w' => e = .returned (.bool (EK r.kind)) ∧ Below w.heap.size w w':=by
 go_enter Tryz.func74,Tryz.ntmps74
 go_wp2 <;> (go_ret;exact ⟨by simp [EK, *],(Below.refl _ _).alloc (Nat.le_refl _) _⟩)
theorem MJ (k : Int) (w : World) : Calls Tryz.prog 94 #[.int .i64 k] w fun e w' => e = .returned (.bool (Cu k)) ∧ w = w':=by
 go_enter Tryz.func94,Tryz.ntmps94
 go_wp2 <;> (go_ret;exact ⟨by simp [Cu, *],rfl⟩)
theorem DC {k : Int} {b : Bool} (h : Cu k = b) (w : World) : Calls Tryz.prog 94 #[.int .i64 k] w fun e w' => e = .returned (.bool b) ∧ w = w':=(MJ k w).mono fun _ _ x => ⟨h ▸ x.1,x.2⟩
theorem Fz {r : Rec} {b : Bool} (h : Cu r.kind = b) (w : World) : Calls Tryz.prog 76 #[r.val] w fun e w' => e = .returned (.bool b) ∧ Below w.heap.size w w':=(O9 r w).mono fun _ _ x => ⟨h ▸ x.1,x.2⟩
theorem Ls {r : Rec} {b : Bool} (h : EK r.kind = b) (w : World) : Calls Tryz.prog 74 #[r.val] w fun e w' => e = .returned (.bool b) ∧ Below w.heap.size w w':=(Sb r w).mono fun _ _ x => ⟨h ▸ x.1,x.2⟩
theorem SX {a b c : Int} {t : Bool} (h : inB a b c = t) (w : World) : Calls Tryz.prog 40 #[.int .i64 a, .int .i64 b, .int .i64 c] w fun e w' => e = .returned (.bool t) ∧ w' = w:=(CG a b c w).mono fun _ _ x => ⟨h ▸ x.1,x.2.symm⟩
def Cv (r : Rec) : Bool:=
  (if r.kind = 1 then inB r.page 0 4 && inB r.slot 0 2 && inB r.old 0 (if r.slot = -1 then 3 else 9) && inB r.new 0 (if r.slot = -1 then 3 else 9) && r.next == 0
   else if r.kind = 2 then inB r.page 0 4 && r.slot == -1 && inB r.old 0 (if r.slot = -1 then 3 else 9) && inB r.new 0 (if r.slot = -1 then 3 else 9) && r.next == 0
   else if r.kind = 3 then inB r.page 0 4 && r.slot == 0 && r.old == 0 && r.new == 0 && r.next == 0
   else if r.kind = 4 then r.page == 0 && r.slot == 0 && r.old == 0 && r.new == 0 && r.next == 0
   else if r.kind = 5 then r.page == 0 && r.slot == 0 && r.old == 0 && r.new == 0 && r.next == 0
   else if r.kind = 6 then inB r.page 0 4 && inB r.slot (-1) 2 && r.old == 0 && inB r.new 0 (if r.slot = -1 then 3 else 9) && inB r.next 0 150
   else false) && inB r.tx 1 3 && inB r.prev 0 150
theorem D7 {r : Rec} : Cv r = true ↔ ((r.kind = 1 ∧ 0 ≤ r.page ∧ r.page ≤ 4 ∧ 0 ≤ r.slot ∧ r.slot ≤ 2 ∧ 0 ≤ r.old ∧ r.old ≤ 9 ∧ 0 ≤ r.new ∧ r.new ≤ 9 ∧ r.next = 0) ∨
  (r.kind = 2 ∧ 0 ≤ r.page ∧ r.page ≤ 4 ∧ r.slot = -1 ∧ 0 ≤ r.old ∧ r.old ≤ 3 ∧ 0 ≤ r.new ∧ r.new ≤ 3 ∧ r.next = 0) ∨
  (r.kind = 3 ∧ 0 ≤ r.page ∧ r.page ≤ 4 ∧ r.slot = 0 ∧ r.old = 0 ∧ r.new = 0 ∧ r.next = 0) ∨
  ((r.kind = 4 ∨ r.kind = 5) ∧ r.page = 0 ∧ r.slot = 0 ∧ r.old = 0 ∧ r.new = 0 ∧ r.next = 0) ∨
  (r.kind = 6 ∧ 0 ≤ r.page ∧ r.page ≤ 4 ∧ -1 ≤ r.slot ∧ r.slot ≤ 2 ∧ r.old = 0 ∧ 0 ≤ r.new ∧ (r.slot = -1 → r.new ≤ 3) ∧ r.new ≤ 9 ∧ 0 ≤ r.next ∧ r.next ≤ 150)) ∧ 1 ≤ r.tx ∧ r.tx ≤ 3 ∧ 0 ≤ r.prev ∧ r.prev ≤ 150:=by
 unfold Cv
 by_cases hs : r.slot = -1
 ·rw [if_pos hs]
  by_cases k1 : r.kind = 1
  ·simp [inB,k1];omega
  by_cases k2 : r.kind = 2
  ·simp [inB,k2];omega
  by_cases k3 : r.kind = 3
  ·simp [inB,k3];omega
  by_cases k4 : r.kind = 4
  ·simp [inB,k4];omega
  by_cases k5 : r.kind = 5
  ·simp [inB,k5];omega
  by_cases k6 : r.kind = 6
  ·simp [inB,k6];omega
  simp [k1,k2,k3,k4,k5,k6]
 ·rw [if_neg hs]
  by_cases k1 : r.kind = 1
  ·simp [inB,k1];omega
  by_cases k2 : r.kind = 2
  ·simp [inB,k2];omega
  by_cases k3 : r.kind = 3
  ·simp [inB,k3];omega
  by_cases k4 : r.kind = 4
  ·simp [inB,k4];omega
  by_cases k5 : r.kind = 5
  ·simp [inB,k5];omega
  by_cases k6 : r.kind = 6
  ·simp [inB,k6];omega
  simp [k1,k2,k3,k4,k5,k6]
def Br (r : Rec) (prev : Int) : Rec:=⟨6,r.tx,r.page,r.slot,0,r.old,prev,r.prev⟩
theorem NJ (r : Rec) (n : Int) (w : World) : Calls Tryz.prog 89 #[r.val, .int .i64 n] w fun e w' => e = .returned (Br r n).val ∧ Below w.heap.size w w':=by
 go_enter Tryz.func89,Tryz.ntmps89
 go_wp2
 exact bodyPost_ret (v:=(Br r n).val) (by simp [results,Tryz.results89,go_sem,Br]) rfl ⟨rfl,(((Below.refl _ _).alloc (Nat.le_refl _) _).alloc (by simp) _)⟩
def Ae (l : List Rec) (tx : Int) : Nat → Nat
 | 0 => 0
 | n + 1 => if (rc l n).tx = tx then (if EK (rc l n).kind = true then 0 else n + 1) else Ae l tx n
theorem FT {w0 w : World} {A : Option Addr} {n c : Nat} {l : List Rec} (tx : Int) (hb : Below w0.heap.size w0 w) (hr : Kd.C kRec w0 A n l) : Calls Tryz.prog 93 #[.slice A n c, .int .i64 tx] w fun e w' => e = .returned (.int .i64 (Ae l tx n)) ∧ w = w':=by
 have HR:=As (BF hr hb)
 have hm:=(CY hr).2
 clear hr hb
 go_enter Tryz.func93,Tryz.ntmps93
 go_wp2
 go_loop [5] (fun i => ∃ k : Nat,k ≤ n ∧ i = .int .i64 ((k : Int) - 1) ∧ A7 (Ae l tx n = Ae l tx k)) (fun i => (intOf i + 1).toNat)
 case atStart => exact ⟨n,Nat.le_refl _,rfl,⟨rfl⟩⟩
 case round =>
  obtain ⟨k,hk,rfl,HL⟩:=hrel
  rcases k with _ | k
  ·go_wp2
   go_ret
   exact ⟨by rw [HL.out];rfl,rfl⟩
  ·obtain ⟨ad,rfl,⟨g0,g1,g2,g3,g4,g5,g6,g7⟩⟩:=Cs HR.out k (by omega)
   rcases BS (rc l k).tx tx with ⟨e1,b1,c1⟩ | ⟨e1,b1,c1⟩
   ·rcases BS (rc l k).kind 4 with ⟨e2,b2,c2⟩ | ⟨e2,b2,c2⟩
    ·go_wp2
     go_ret
     exact ⟨by rw [HL.out];simp [Ae,EK,e1.out,e2.out],rfl⟩
    ·rcases BS (rc l k).kind 5 with ⟨e3,b3,c3⟩ | ⟨e3,b3,c3⟩
     ·go_wp2
      go_ret
      exact ⟨by rw [HL.out];simp [Ae,EK,e1.out,e3.out],rfl⟩
     ·go_wp2
      go_ret
      exact ⟨by rw [HL.out];simp [Ae,EK,e1.out,e2.out,e3.out],rfl⟩
   ·go_wp2
    go_round
    case rel => exact ⟨k,by omega,by go_num,⟨by rw [HL.out];simp [Ae,e1.out]⟩⟩
    case measure => simp [intOf]
theorem Dn {w0 w : World} {A : Option Addr} {n c m : Nat} {l : List Rec} {tx : Int} (h : Ae l tx n = m) (hb : Below w0.heap.size w0 w) (hr : Kd.C kRec w0 A n l) : Calls Tryz.prog 93 #[.slice A n c, .int .i64 tx] w fun e w' => e = .returned (.int .i64 m) ∧ w = w':=(FT tx hb hr).mono fun _ _ x => ⟨h ▸ x.1,x.2⟩
def atOk (l : List Rec) (k : Nat) : Bool:=Cv (rc l k) && (rc l k).prev == Ae l (rc l k).tx k && decide ((rc l k).next ≤ k) && (decide ((rc l k).next ≤ 0) || (rc l ((rc l k).next.toNat - 1)).tx == (rc l k).tx)
def DK (l : List Rec) : Nat → Bool
 | 0 => true
 | n + 1 => DK l n && atOk l n
def Au (l : List Rec) : Bool:=DK l l.length && decide (l.length ≤ 150)
theorem Jm {l : List Rec} {k n : Nat} (h : atOk l k = false) (hk : k < n) : DK l n = false:=by
 induction n with
 | zero => omega
 | succ n ih =>
  by_cases e : k = n
  ·subst e;simp [DK,h]
  ·simp [DK,ih (by omega)]
theorem Oy {l : List Rec} {n k : Nat} (h : DK l n = true) (hk : k < n) : atOk l k = true:=by
 cases e : atOk l k
 ·rw [Jm e hk] at h;cases h
 ·rfl
theorem Bc (l : List Rec) (tx : Int) (n : Nat) : Ae l tx n ≤ n:=by
 induction n with
 | zero => simp [Ae]
 | succ n ih =>
  unfold Ae
  split
  ·split <;> omega
  ·omega
def Bu (l : List Rec) (n : Nat) : Nat:=(rc l (n - 1)).prev.toNat
def EY (l : List Rec) (n : Nat) : Nat:=(rc l (n - 1)).next.toNat
structure Vv (l : List Rec) (k : Nat) : Prop where
 ok : Cv (rc l k) = true
 prev : (rc l k).prev = Bu l (k + 1)
 prev_le : Bu l (k + 1) ≤ k
 next : (rc l k).next = EY l (k + 1)
 next_le : EY l (k + 1) ≤ k
 last : Bu l (k + 1) = Ae l (rc l k).tx k
 tx1 : 1 ≤ (rc l k).tx
 tx3 : (rc l k).tx ≤ 3
theorem Qa {r : Rec} (h : Cv r = true) : 1 ≤ r.tx ∧ r.tx ≤ 3 ∧ 0 ≤ r.prev ∧ r.prev ≤ 150:=by
 simp only [Cv,Bool.and_eq_true,CU] at h
 omega
theorem Rz {r : Rec} (h : Cv r = true) : 0 ≤ r.next ∧ r.next ≤ 150:=by
 rw [D7] at h
 omega
theorem Ag {l : List Rec} (h : Au l = true) {k : Nat} (hk : k < l.length) : Vv l k:=by
 simp only [Au,Bool.and_eq_true] at h
 have ha:=Oy h.1 hk
 simp only [atOk,Bool.and_eq_true,beq_iff_eq,decide_eq_true_eq] at ha
 obtain ⟨⟨⟨h1,h2⟩,h3⟩,h4⟩:=ha
 have h5:=Qa h1
 have h6:=Rz h1
 have hl:=Bc l (rc l k).tx k
 refine ⟨h1,?_,?_,?_,?_,?_,h5.1,h5.2.1⟩ <;> simp only [Bu,EY,Nat.add_sub_cancel] <;> omega
theorem BA {l : List Rec} (h : Au l = true) : l.length ≤ 150:=by
 simp only [Au,Bool.and_eq_true,decide_eq_true_eq] at h
 exact h.2
def BO (l : List Rec) : Nat → List Nat
 | 0 => []
 | n + 1 => (n + 1) :: if h : Bu l (n + 1) ≤ n then BO l (Bu l (n + 1)) else []
 termination_by n => n
theorem Dk {l : List Rec} {n : Nat} (h : Bu l (n + 1) ≤ n) : BO l (n + 1) = (n + 1) :: BO l (Bu l (n + 1)):=by
 rw [BO,dif_pos h]
theorem C9 (l : List Rec) : BO l 0 = []:=by rw [BO]
def CW (l : List Rec) : Nat → List Nat
 | 0 => []
 | n + 1 =>
  if (rc l n).kind = 1 ∨ (rc l n).kind = 2 then (n + 1) :: (if h : Bu l (n + 1) ≤ n then CW l (Bu l (n + 1)) else [])
  else if (rc l n).kind = 6 then (if h : EY l (n + 1) ≤ n then CW l (EY l (n + 1)) else [])
  else if h : Bu l (n + 1) ≤ n then CW l (Bu l (n + 1)) else []
 termination_by n => n
theorem Cn (l : List Rec) : CW l 0 = []:=by rw [CW]
theorem JF {l : List Rec} {n : Nat} (hk : (rc l n).kind = 1 ∨ (rc l n).kind = 2) (h : Bu l (n + 1) ≤ n) : CW l (n + 1) = (n + 1) :: CW l (Bu l (n + 1)):=by
 rw [CW,if_pos hk,dif_pos h]
theorem LM {l : List Rec} {n : Nat} (hk : (rc l n).kind = 6) (h : EY l (n + 1) ≤ n) : CW l (n + 1) = CW l (EY l (n + 1)):=by
 rw [CW,if_neg (by omega),if_pos hk,dif_pos h]
theorem K6 {l : List Rec} {n : Nat} (h1 : (rc l n).kind ≠ 1) (h2 : (rc l n).kind ≠ 2) (h6 : (rc l n).kind ≠ 6) (h : Bu l (n + 1) ≤ n) : CW l (n + 1) = CW l (Bu l (n + 1)):=by
 rw [CW,if_neg (by omega),if_neg h6,dif_pos h]
def Bt (l : List Rec) (n : Nat) : Nat:=(CW l n).headD 0
theorem Gb {l : List Rec} (n m : Nat) (ms : List Nat) (h : CW l n = m :: ms) : 0 < m ∧ m ≤ n ∧ ((rc l (m - 1)).kind = 1 ∨ (rc l (m - 1)).kind = 2) ∧ (Bu l m < m → ms = CW l (Bu l m) ∧ CW l m = m :: ms):=by
 induction n using Nat.strongRecOn with
 | _ n ih =>
  match n with
  | 0 => rw [Cn] at h;cases h
  | n + 1 =>
   rw [CW] at h
   split at h
   ·rename_i hk
    obtain ⟨rfl,h2⟩:=List.cons.inj h
    refine ⟨by omega,by omega,by simpa using hk,fun hp => ?_⟩
    rw [dif_pos (by omega)] at h2
    exact ⟨h2.symm,by rw [JF hk (by omega),h2]⟩
   ·split at h
    ·split at h
     ·rename_i hle
      obtain ⟨h1,h2,h3,h4⟩:=ih _ (by omega) h
      exact ⟨h1,by omega,h3,h4⟩
     ·cases h
    ·split at h
     ·rename_i hle
      obtain ⟨h1,h2,h3,h4⟩:=ih _ (by omega) h
      exact ⟨h1,by omega,h3,h4⟩
     ·cases h
theorem FM {l : List Rec} {n : Nat} (h : Bt l n = 0) : CW l n = []:=by
 cases e : CW l n with
 | nil => rfl
 | cons m ms =>
  have:=(Gb n m ms e).1
  simp [Bt,e] at h
  omega
theorem Mi {l : List Rec} {n m : Nat} (h : Bt l n = m) (hm : 0 < m) : ∃ ms,CW l n = m :: ms:=by
 cases e : CW l n with
 | nil => simp [Bt,e] at h;omega
 | cons a ms => simp [Bt,e] at h;subst h;exact ⟨ms,rfl⟩
theorem K5 {l : List Rec} {n m : Nat} (hl : Au l = true) (hn : n ≤ l.length) (h : Bt l n = m + 1) : CW l n = (m + 1) :: CW l (Bu l (m + 1)) ∧ m < l.length ∧ Bu l (m + 1) ≤ m ∧ ((rc l m).kind = 1 ∨ (rc l m).kind = 2):=by
 obtain ⟨ms,e⟩:=Mi h (by omega)
 obtain ⟨h1,h2,h3,h4⟩:=Gb n _ ms e
 have F:=Ag hl (k:=m) (by omega)
 exact ⟨by rw [e,(h4 (by have:=F.prev_le;omega)).1],by omega,F.prev_le,by simpa using h3⟩
theorem Gc {l : List Rec} {n : Nat} : Bt l n ≤ n:=by
 cases e : CW l n with
 | nil => simp [Bt,e]
 | cons m ms =>
  have:=(Gb n m ms e).2.1
  simp only [Bt,e,List.headD_cons]
  exact this
def EZ (l : List Rec) (n : Nat) (page : Int) : Bool:=(BO l n).any fun m => (rc l (m - 1)).kind == 3 && (rc l (m - 1)).page == page
theorem I6 (l : List Rec) (p : Int) : EZ l 0 p = false:=by simp [EZ,C9]
theorem Nq {l : List Rec} {n : Nat} {p : Int} (h : Bu l (n + 1) ≤ n) : EZ l (n + 1) p = (((rc l n).kind == 3 && (rc l n).page == p) || EZ l (Bu l (n + 1)) p):=by
 simp [EZ,Dk h]
def FR (l : List Rec) (page : Int) : Nat → Bool
 | 0 => false
 | j + 1 => EZ l (Ae l (3 - j : Int) l.length) page || FR l page j
def J6 (l : List Rec) : Nat → Nat
 | 0 => 0
 | j + 1 => (CW l (Ae l (3 - j : Int) l.length)).length + (if Ae l (3 - j : Int) l.length = 0 then 0 else 1) + J6 l j
def need (l : List Rec) : Nat:=J6 l 3
def AA (w : World) (base : Nat) (v : Value) (xs : List Int) : Prop:=w.ownsRow base 3 1 v xs.length (nums .i64 xs)
theorem Ym {w : World} {A : Option Addr} {n : Nat} {xs : List Int} (h : Dc w .i64 A n xs) : Kd.C (Kd.int .i64) w A n xs:=Kd.NT (enc:=Value.int .i64) (d:=(0 : Int)) (h1:=fun _ => rfl) h
theorem AA.reads {w : World} {base : Nat} {v : Value} {xs : List Int} (h : AA w base v xs) : ∃ A c,v = .slice A xs.length c ∧ xs.length ≤ c ∧ Kd.C (Kd.int .i64) w A xs.length xs:=by
 obtain ⟨A,c,he,hr⟩:=TU h
 refine ⟨A,c,he,?_,Ym hr⟩
 rcases h.2 with ⟨h1,h2⟩ | ⟨g,cap,cur,h1,_,_,h2,_⟩
 ·omega
 ·rw [h1] at he
  cases he
  exact h2
theorem AA.below {w w1 : World} {base : Nat} {v : Value} {xs : List Int} (h : AA w base v xs) (hb : Below w.heap.size w w1) : AA w1 base v xs:=Lc h hb
theorem AA.nil (w : World) (base : Nat) : AA w base (.slice none 0 0) []:=SK w base _ _
theorem AA.lower {w : World} {b b' : Nat} {v : Value} {xs : List Int} (h : AA w b v xs) (hb : b' ≤ b) : AA w b' v xs:=DI h hb
def Vs (w : World) (xs : List Int) (e : Ending) (w' : World) : Prop := ∃ v,e = .returned v ∧ AA w' w.heap.size v xs ∧ Below w.heap.size w w'
theorem Gz : (Tryz.prog.info? 3).map (fun i => (i.zero,i.size,i.bytes)) = some (some (.int .i64 0),1,8):=by kernel_rfl
theorem EB : Tryz.prog.underlying 39 = some (.slice 3):=Tryz.underlying39
open Go.RowKit Go.Proofs.YtjeodgfkilhkhaaGreatW.PrintWords Go.Proofs.YtjeodgfkilhkhaaGreatW.PrintLast
section
variable {P : Program} {ops : Array Oper} {Q : Exit → Act → World → Prop} {md : Region.Mode} {S : World → Prop}
theorem Rm {c : Code} {a : Act} {w : World} {r : Rec} {T : TypeId} (h : ∀ w1,Below w.heap.size w w1 → GH w1 ⟨w.heap.size,0,none⟩ r → c.wp P Q a w1) : c.wp P Q a (w.alloc (.cells #[.int .i64 r.kind, .int .i64 r.tx, .int .i64 r.page, .int .i64 r.slot, .int .i64 r.old, .int .i64 r.new, .int .i64 r.prev, .int .i64 r.next] T (0,0))):=
 h _ ((Below.refl _ _).alloc (Nat.le_refl _) _) ⟨by go_simp,by go_simp,by go_simp,by go_simp,by go_simp,by go_simp,by go_simp,by go_simp⟩
def Eff (P : Program) (S : World → Prop) (v : Value) : Result Next → Prop
 | .ok (.value u) w' => u = v ∧ S w'
 | .ok .skip w' => v = undef ∧ S w'
 | .ok (.enter f args) w' => Calls P f args w' fun e w'' => e = .returned v ∧ S w''
 | _ => False
def Ij (P : Program) (ops : Array Oper) (S : World → Prop) (o : Oper) (v : Value) (a : Act) : Prop:=
 (Region.wanted o (yielded ops a.tmps) = true ∧ ∀ w,S w → Eff P S v ((execOp a.eval o).run P w)) ∨
 (Region.wanted o (yielded ops a.tmps) = false ∧ v = undef)
theorem Ij.wpOp {i : Nat} {o : Oper} {v : Value} {a : Act} (hi : ops[i]? = some o) (hy : Ij P ops S o v a)
  {K : Act → World → Prop} {w : World} (hS : S w) (h : ∀ w',S w' → K (a.put o.dst v) w') : wpOp P ops Q i K a w:=by
 unfold Go.wpOp
 simp only [hi]
 rcases hy with ⟨hw,hv⟩ | ⟨hw,rfl⟩
 ·simp only [hw,if_true]
  refine .inl ?_
  have h1:=hv w hS
  unfold Oper.wp
  generalize (execOp a.eval o).run P w = r at h1 ⊢
  cases r with
  | ok n w' =>
   cases n <;> simp only [Eff] at h1 <;> try exact h1.elim
   case value u => obtain ⟨rfl,h2⟩:=h1;exact h _ h2
   case skip => obtain ⟨rfl,h2⟩:=h1;exact h _ h2
   case enter f args => exact Calls.mono h1 fun e w'' he => by obtain ⟨rfl,h2⟩:=he;exact h _ h2
  | halt x w' => simp only [Eff] at h1
 ·simp only [hw,Bool.false_eq_true,if_false];exact h _ hS
theorem Ij.of_same {o : Oper} {v : Value} {a a' : Act} (hy : Ij P ops S o v a) (he : execOp a'.eval o = execOp a.eval o)
  (hw : Region.wanted o (yielded ops a'.tmps) = Region.wanted o (yielded ops a.tmps)) : Ij P ops S o v a':=by
 unfold Ij at *
 rw [he,hw]
 exact hy
theorem TB {j : Nat} {oi oj : Oper} {v : Value} (hj : ops[j]? = some oj) (hap : oi.apart ops oj = true)
  (hsi : ∀ cs b,oi.op ≠ .select cs b) (hsj : ∀ cs b,oj.op ≠ .select cs b)
  (hQ : ∀ c a w,Q (.panic c) (a.put oi.dst v) w → Q (.panic c) a w) {K : Act → World → Prop} {a : Act} {w : World}
  (hy : Ij P ops S oi v a) (h : wpOp P ops Q j K (a.put oi.dst v) w) :
  wpOp P ops Q j (fun a' w' => Ij P ops S oi v a' ∧ K (a'.put oi.dst v) w') a w:=by
 obtain ⟨h1,h2,h3⟩:=Oper.apart_spec hap
 have keep : ∀ (a : Act),Ij P ops S oi v a → ∀ u,Ij P ops S oi v (a.put oj.dst u):=fun a hy u =>
  hy.of_same (execOp_put oi hsi a oj.dst u h3) (wanted_put oi a oj.dst u h3)
 have keepD : ∀ d,Ij P ops S oi v { a with defers:=d :: a.defers }:=fun d => hy.of_same rfl rfl
 unfold wpOp at *
 simp only [hj] at *
 rw [wanted_put oj a oi.dst v h1] at h
 split
 ·rename_i hw
  simp only [hw,if_true] at h
  rcases h with h | ⟨hasks,hlets⟩
  case inr => exact .inr ⟨by unfold Oper.asks at *;rw [execOp_put oj hsj a oi.dst v h1] at hasks;exact hasks,hlets⟩
  refine .inl ?_
  unfold Oper.wp at *
  rw [execOp_put oj hsj a oi.dst v h1] at h
  generalize (execOp a.eval oj).run P w = r at *
  cases r with
  | ok n w' =>
   cases n <;> simp only [Oper.upon] at h ⊢
   case value u => exact ⟨keep a hy u,by rw [← Act.put_comm a v u h2];exact h⟩
   case skip => exact ⟨keep a hy _,by rw [← Act.put_comm a v undef h2];exact h⟩
   case defer d =>
    refine ⟨keep _ (keepD d) _,?_⟩
    rw [← Act.put_comm _ v undef h2, ← Act.put_defers]
    exact h
   case enter f args =>
    refine Calls.mono h fun e w'' he => ?_
    cases e with
    | returned u => exact ⟨keep a hy u,by rw [← Act.put_comm a v u h2];exact he⟩
    | panicked c => exact hQ _ _ _ he
    | outgrown => exact he
   case row row args => exact Rows.mono h fun u w'' he => ⟨keep a hy u,by rw [← Act.put_comm a v u h2];exact he⟩
  | halt x w' =>
   cases x <;> simp only [Oper.upon] at h ⊢
   case panic u => exact hQ _ _ _ h
 ·rename_i hw
  simp only [hw] at h
  exact ⟨keep a hy _,by rw [← Act.put_comm a v undef h2];exact h⟩
def wpAnyS (P : Program) (md : Region.Mode) (ops : Array Oper) (Q : Exit → Act → World → Prop) (S : World → Prop) : Nat → Array Bool → Act → Prop
 | 0,listed,a => Region.ready md ops listed = [] ∧ ∀ w,S w → Q .normal a w
 | fuel + 1,listed,a =>
  (Region.ready md ops listed = [] → ∀ w,S w → Q .normal a w) ∧
  ∀ i ∈ Region.ready md ops listed, ∀ w,S w → wpOp P ops Q i (fun a' w' => S w' ∧ wpAnyS P md ops Q S fuel (listed.setIfInBounds i true) a') a w
theorem MW : ∀ (fuel : Nat) (listed : Array Bool) (a : Act) (w : World),S w → wpAnyS P md ops Q S fuel listed a → wpAny P md ops Q fuel listed a w
 | 0,_,_,w,hS,h => ⟨h.1,h.2 w hS⟩
 | fuel + 1,_,_,w,hS,h => ⟨fun hr => h.1 hr w hS,fun i hi => wpOp_mono (fun a' w' h' => MW fuel _ a' w' h'.1 h'.2) (h.2 i hi w hS)⟩
theorem wpAnyS_first {i : Nat} {oi : Oper} {v : Value} (hi : ops[i]? = some oi) (hsel : ∀ (j : Nat) (o : Oper) cs b,ops[j]? = some o → o.op ≠ .select cs b)
  (hQ : ∀ c a w,Q (.panic c) (a.put oi.dst v) w → Q (.panic c) a w) :
  ∀ (fuel : Nat) (listed : Array Bool) (a : Act),
   (∀ j oj,ops[j]? = some oj → j ≠ i → listed.getD j true = false → (∀ e ∈ oj.after,Region.binds md e = true → e.on ≠ i) → oi.apart ops oj = true) →
   i ∈ Region.ready md ops listed → Ij P ops S oi v a →
   wpAnyS P md ops Q S fuel (listed.setIfInBounds i true) (a.put oi.dst v) → wpAnyS P md ops Q S (fuel + 1) listed a:=by
 intro fuel
 induction fuel with
 | zero =>
  intro listed a _ hr hy H
  refine ⟨fun h => (by rw [h] at hr;cases hr),fun j hj w hS => ?_⟩
  by_cases hji : j = i
  ·subst hji;exact hy.wpOp hi hS (fun w' h' => ⟨h',H⟩)
  ·have:=ready_mono hj hji
   rw [H.1] at this
   cases this
 | succ fuel ih =>
  intro listed a hfree hr hy H
  refine ⟨fun h => (by rw [h] at hr;cases hr),fun j hj w hS => ?_⟩
  by_cases hji : j = i
  ·subst hji;exact hy.wpOp hi hS (fun w' h' => ⟨h',H⟩)
  ·have h1:=H.2 j (ready_mono hj hji) w hS
   obtain ⟨hjun,oj,hoj,hall⟩:=mem_ready.1 hj
   have hnot : ∀ e ∈ oj.after,Region.binds md e = true → e.on ≠ i:=fun e he hb heq => by
    have h1:=hall e he hb
    have h0:=(mem_ready.1 hr).1
    rw [heq] at h1
    rcases Nat.lt_or_ge i listed.size with h' | h'
    ·simp [h'] at h0 h1;rw [h0] at h1;cases h1
    ·simp [Array.getElem?_eq_none h'] at h1
   have h2:=TB hoj (hfree j oj hoj hji hjun hnot) (fun cs b => hsel i oi cs b hi) (fun cs b => hsel j oj cs b hoj) hQ hy h1
   have hfree' : ∀ k ok,ops[k]? = some ok → k ≠ i → (listed.setIfInBounds j true).getD k true = false →
     (∀ e ∈ ok.after,Region.binds md e = true → e.on ≠ i) → oi.apart ops ok = true:=fun k ok hk hki hun hno => by
    refine hfree k ok hk hki ?_ hno
    by_cases hjk : j = k
    ·subst hjk;exact hjun
    ·rw [getD_set_ne true hjk] at hun;exact hun
   refine wpOp_mono (fun a' w' h3 => ⟨h3.2.1,ih (listed.setIfInBounds j true) a' hfree' (ready_mono hr (Ne.symm hji)) h3.1 ?_⟩) h2
   rw [Array.setIfInBounds_comm _ _ hji]
   exact h3.2.2
def upTo (n k : Nat) : Array Bool:=((List.range n).map fun j => decide (j < k)).toArray
theorem TG (n : Nat) : upTo n 0 = Array.replicate n false:=by
 apply Array.ext <;> simp [upTo]
theorem TH (n k : Nat) : (upTo n k).setIfInBounds k true = upTo n (k + 1):=by
 apply Array.ext
 ·simp [upTo]
 ·intro i h1 h2
  simp [upTo] at h1
  by_cases e : k = i
  ·subst e;simp [upTo]
  ·simp [upTo,e];omega
def LQ (ops : Array Oper) : Bool:=Region.noSelect ops && (List.range ops.size).all fun k => Region.free .any ops (upTo ops.size k) k && (Region.ready .any ops (upTo ops.size k)).contains k
structure Text (P : Program) (ops : Array Oper) (Q : Exit → Act → World → Prop) (S : World → Prop) (k : Nat) (rest : List Oper) (a : Act) : Prop where
 out : ops.toList.drop k = rest → wpAnyS P .any ops Q S (ops.size - k) (upTo ops.size k) a
variable {k d : Nat} {o : Oper} {rest : List Oper} {v : Value} {L : List Value} {D : List Deferred}
theorem LP {a : Act} (ht : A7 (LQ ops = true))
  (hQ : ∀ c a w,Q (.panic c) (a.put o.dst v) w → Q (.panic c) a w) (he : Ij P ops S o v a) (h : Text P ops Q S (k + 1) rest (a.put o.dst v)) : Text P ops Q S k (o :: rest) a:=by
 refine ⟨fun hd => ?_⟩
 have hk : ops[k]? = some o:=by
  rw [← Array.getElem?_toList, ← List.head?_drop,hd,List.head?_cons]
 have hlt : k < ops.size:=(Array.getElem?_eq_some_iff.1 hk).1
 obtain ⟨hs,hall⟩:=Bool.and_eq_true_iff.1 ht.out
 have h1:=List.all_eq_true.1 hall k (by simpa using hlt)
 obtain ⟨hf,hr⟩:=Bool.and_eq_true_iff.1 h1
 rw [show ops.size - k = (ops.size - (k + 1)) + 1 by omega]
 refine wpAnyS_first hk (Region.noSelect_spec hs) hQ _ _ a (Region.free_spec hk hf) (by simpa using hr) he ?_
 rw [TH]
 exact h.out (by rw [← List.drop_drop,hd,List.drop_one,List.tail_cons])
theorem Ck : (⟨L.toArray,D⟩ : Act).put (some d) v = ⟨(L.set d v).toArray,D⟩:=by
 simp [Act.put]
theorem Ay {f : FuncId} {xs : Array Operand} {ts : Array TypeId} {a : Act} (_hop : o.op = .call { callee:=.value (.func f),args:=xs,argTypes:=ts }) (h : Text P ops Q S k (o :: rest) a) : Text P ops Q S k (o :: rest) a:=h
theorem AB (ht : A7 (LQ ops = true)) (hd : o.dst = some d) (hw : Region.wanted o (yielded ops L.toArray) = false)
  (hQ : ∀ c a w,Q (.panic c) (a.put o.dst undef) w → Q (.panic c) a w) (h : Text P ops Q S (k + 1) rest ⟨(L.set d undef).toArray,D⟩) : Text P ops Q S k (o :: rest) ⟨L.toArray,D⟩:=
 LP ht hQ (.inr ⟨hw,rfl⟩) (by rw [hd,Ck];exact h)
theorem AP (ht : A7 (LQ ops = true)) (hd : o.dst = some d) (hw : Region.wanted o (yielded ops L.toArray) = true)
  (hQ : ∀ c a w,Q (.panic c) (a.put o.dst v) w → Q (.panic c) a w) (hr : ∀ w,S w → (execOp (Act.eval ⟨L.toArray,D⟩) o).run P w = .ok (.value v) w) (h : Text P ops Q S (k + 1) rest ⟨(L.set d v).toArray,D⟩) : Text P ops Q S k (o :: rest) ⟨L.toArray,D⟩:=
 LP ht hQ (.inl ⟨hw,fun w hS => by rw [hr w hS];exact ⟨rfl,hS⟩⟩) (by rw [hd,Ck];exact h)
theorem Az {f : FuncId} {fn : Func} {xs : Array Operand} {ts : Array TypeId} {args : Array Value} (ht : A7 (LQ ops = true))
    (hop : o.op = .call { callee:=.value (.func f),args:=xs,argTypes:=ts }) (hf : P.funcs[f]? = some fn) (hname : (fn.name == "runtime.NumGoroutine") = false) (hb : fn.body.isSome = true) (hd : o.dst = some d) (hw : Region.wanted o (yielded ops L.toArray) = true)
    (hQ : ∀ c a w,Q (.panic c) (a.put o.dst v) w → Q (.panic c) a w) (hargs : xs.map (Act.eval ⟨L.toArray,D⟩) = args)
    (hc : ∀ w,S w → Calls P f args w fun e w' => e = .returned v ∧ S w') (h : Text P ops Q S (k + 1) rest ⟨(L.set d v).toArray,D⟩) : Text P ops Q S k (o :: rest) ⟨L.toArray,D⟩:=by
  refine LP (v:=v) ht hQ (.inl ⟨hw,fun w hS => ?_⟩) (by rw [hd,Ck];exact h)
  have he:=Ta hf hname hb args w
  have hrun : (execOp (Act.eval ⟨L.toArray,D⟩) o).run P w = .ok (.enter f args) w:=by
    unfold execOp
    simp [hop,resolve,Deferred.ofValue,invoke,Act.eval,hargs,he]
  rw [hrun]
  exact hc w hS
theorem AQ {a : Act} (h : ∀ w,S w → Q .normal a w) : Text P ops Q S k [] a:=by
 refine ⟨fun hd => ?_⟩
 have hk' : ops.size ≤ k:=by simpa using hd
 rw [show ops.size - k = 0 by omega]
 refine ⟨?_,h⟩
 simp only [Region.ready,List.filter_eq_nil_iff,List.mem_range]
 intro i hi
 have : (upTo ops.size k).getD i true = true:=by
  have : i < k:=by omega
  simp [upTo,hi,this]
 simp [this]
theorem Aq {id : Nat} {l : List Oper} {a : Act} {w : World} (S : World → Prop) (hm : P.follows .mixedOrders = true) (hl : ops.toList = l) (ht : LQ ops = true) (hS : S w.drew)
  (h : A7 (LQ ops = true) → Text P ops Q S 0 l a) : (Code.region id ops true).wp P Q a w:=by
 have h1:=(h ⟨ht⟩).out hl
 rw [TG] at h1
 exact wp_region_any hm (MW _ _ _ _ hS h1)
end
end Go.Proofs.YtjeodgfkilhkhaaGreat
namespace Go.Proofs.YtjeodgfkilhkhaaGreat
open Go.RowKit Go.Proofs.YtjeodgfkilhkhaaGreatW.PrintWords Go.Proofs.YtjeodgfkilhkhaaGreatW.PrintLast Go.Proofs.YtjeodgfkilhkhaaGreatW.PrintMore
theorem Ke {xs : List Int} {k : Nat} (h : k < xs.length) : xs.drop k = iv xs k :: xs.drop (k + 1):=by
 rw [List.drop_eq_getElem_cons h]
 simp [iv,List.getD_eq_getElem?_getD,h]
def Vr (b : Bool) (w : World) (e : Ending) (w' : World) : Prop := ∃ i : Int,e = .returned (.int .i64 i) ∧ decide (0 ≤ i) = b ∧ w = w'
theorem Md (n : Int) (w : World) : Calls Tryz.prog 129 #[.int .i64 n] w fun e w' => e = .returned (.bool (n != 0)) ∧ w = w':=by
 go_enter Tryz.func129,Tryz.ntmps129
 go_wp2
 go_ret
 exact ⟨rfl,rfl⟩
theorem Me (n : Int) (w : World) : Calls Tryz.prog 128 #[.int .i64 n] w fun e w' => e = .returned (.bool (!inB n 0 9)) ∧ w = w':=by
 go_enter Tryz.func128,Tryz.ntmps128
 go_wp2_with (go_at_call 40;refine (CG _ _ _ _).mono ?_;rintro e w' ⟨rfl,rfl⟩)
 go_ret
 exact ⟨rfl,rfl⟩
set_option maxHeartbeats 2000000 in
theorem RX {w0 w : World} {A : Option Addr} {c : Nat} {l : List Int} (hb : Below w0.heap.size w0 w) (hr : Kd.C (Kd.int .i64) w0 A l.length l) : Calls Tryz.prog 132 #[.slice A l.length c, .func (.func 129) #[] #[]] w (Vr (l.any fun x => x != 0) w):=by
 have HR:=As (BF hr hb)
 have hm:=(CY hr).2
 clear hr hb
 go_enter Tryz.func132,Tryz.ntmps132
 go_wp2
 go_loop [8] (fun i => ∃ k : Nat,k ≤ l.length ∧ i = .int .i64 (k : Int) ∧ A7 ((l.any fun x => x != 0) = (l.drop k).any fun x => x != 0)) (fun i => (l.length - intOf i).toNat)
 case atStart => exact ⟨0,Nat.zero_le _,rfl,⟨rfl⟩⟩
 case round =>
  obtain ⟨k,hk,rfl,HK⟩:=hrel
  by_cases hlt : k < l.length
  ·obtain ⟨ad,rfl,g0⟩:=DW HR.out k hlt
   have HD:=As (Ke hlt)
   cases hp : (fun x => x != 0) (iv l k)
   ·have HP:=As hp
    clear hp
    go_wp2_with (go_at_call 129;refine (Md (iv l k) _).mono ?_;rintro e w' ⟨rfl,rfl⟩;(try rw [show (iv l k != 0) = false from HP.out]))
    go_round
    case rel => exact ⟨k + 1,by omega,by go_num,⟨by rw [HK.out,HD.out,List.any_cons,show (iv l k != 0) = false from HP.out,Bool.false_or]⟩⟩
    case measure => simp [intOf];omega
   ·have HP:=As hp
    clear hp
    go_wp2_with (go_at_call 129;refine (Md (iv l k) _).mono ?_;rintro e w' ⟨rfl,rfl⟩;(try rw [show (iv l k != 0) = true from HP.out]))
    go_ret
    exact ⟨k,rfl,by rw [HK.out,HD.out,List.any_cons,show (iv l k != 0) = true from HP.out];simp,rfl⟩
  ·have hke : k = l.length:=by omega
   go_wp2
   go_ret
   exact ⟨-1,rfl,by rw [HK.out,hke,List.drop_length];rfl,rfl⟩
theorem O6 {w0 w : World} {A : Option Addr} {c : Nat} {l : List Int} (hb : Below w0.heap.size w0 w) (hr : Kd.C (Kd.int .i64) w0 A l.length l) : Calls Tryz.prog 115 #[.slice A l.length c, .func (.func 129) #[] #[]] w fun e w' => e = .returned (.bool (l.any fun x => x != 0)) ∧ w = w':=by
 have HR:=As (BF hr hb)
 clear hr hb
 go_enter Tryz.func115,Tryz.ntmps115
 go_wp2_with (go_at_call 132;refine (RX (Below.refl _ _) HR.out).mono ?_;rintro e w' ⟨i,rfl,hi,rfl⟩)
 go_ret
 exact ⟨by first | exact Af hi | rfl,rfl⟩
set_option maxHeartbeats 2000000 in
theorem RY {w0 w : World} {A : Option Addr} {c : Nat} {l : List Int} (hb : Below w0.heap.size w0 w) (hr : Kd.C (Kd.int .i64) w0 A l.length l) : Calls Tryz.prog 132 #[.slice A l.length c, .func (.func 128) #[] #[]] w (Vr (l.any fun x => !inB x 0 9) w):=by
 have HR:=As (BF hr hb)
 have hm:=(CY hr).2
 clear hr hb
 go_enter Tryz.func132,Tryz.ntmps132
 go_wp2
 go_loop [8] (fun i => ∃ k : Nat,k ≤ l.length ∧ i = .int .i64 (k : Int) ∧ A7 ((l.any fun x => !inB x 0 9) = (l.drop k).any fun x => !inB x 0 9)) (fun i => (l.length - intOf i).toNat)
 case atStart => exact ⟨0,Nat.zero_le _,rfl,⟨rfl⟩⟩
 case round =>
  obtain ⟨k,hk,rfl,HK⟩:=hrel
  by_cases hlt : k < l.length
  ·obtain ⟨ad,rfl,g0⟩:=DW HR.out k hlt
   have HD:=As (Ke hlt)
   cases hp : (fun x => !inB x 0 9) (iv l k)
   ·have HP:=As hp
    clear hp
    go_wp2_with (go_at_call 128;refine (Me (iv l k) _).mono ?_;rintro e w' ⟨rfl,rfl⟩;(try rw [show (!inB (iv l k) 0 9) = false from HP.out]))
    go_round
    case rel => exact ⟨k + 1,by omega,by go_num,⟨by rw [HK.out,HD.out,List.any_cons,show (!inB (iv l k) 0 9) = false from HP.out,Bool.false_or]⟩⟩
    case measure => simp [intOf];omega
   ·have HP:=As hp
    clear hp
    go_wp2_with (go_at_call 128;refine (Me (iv l k) _).mono ?_;rintro e w' ⟨rfl,rfl⟩;(try rw [show (!inB (iv l k) 0 9) = true from HP.out]))
    go_ret
    exact ⟨k,rfl,by rw [HK.out,HD.out,List.any_cons,show (!inB (iv l k) 0 9) = true from HP.out];simp,rfl⟩
  ·have hke : k = l.length:=by omega
   go_wp2
   go_ret
   exact ⟨-1,rfl,by rw [HK.out,hke,List.drop_length];rfl,rfl⟩
theorem O7 {w0 w : World} {A : Option Addr} {c : Nat} {l : List Int} (hb : Below w0.heap.size w0 w) (hr : Kd.C (Kd.int .i64) w0 A l.length l) : Calls Tryz.prog 115 #[.slice A l.length c, .func (.func 128) #[] #[]] w fun e w' => e = .returned (.bool (l.any fun x => !inB x 0 9)) ∧ w = w':=by
 have HR:=As (BF hr hb)
 clear hr hb
 go_enter Tryz.func115,Tryz.ntmps115
 go_wp2_with (go_at_call 132;refine (RY (Below.refl _ _) HR.out).mono ?_;rintro e w' ⟨i,rfl,hi,rfl⟩)
 go_ret
 exact ⟨by first | exact Af hi | rfl,rfl⟩
def Ik (l : List Int) : Bool := !(l.any fun x => x != 0)
def Hq (l : List Int) : Bool:=l.length == 3 && !(l.any fun x => !inB x 0 9)
theorem Ob {w0 w : World} {A : Option Addr} {c : Nat} {l : List Int} {b : Bool} (hv : Ik l = b) (hb : Below w0.heap.size w0 w) (hr : Kd.C (Kd.int .i64) w0 A l.length l) : Calls Tryz.prog 108 #[.slice A l.length c] w fun e w' => e = .returned (.bool b) ∧ w' = w:=by
 have HR:=As (BF hr hb)
 subst hv
 clear hr hb
 go_enter Tryz.func108,Tryz.ntmps108
 go_wp2_with (go_at_call 115;refine (O6 (Below.refl _ _) HR.out).mono ?_;rintro e w' ⟨rfl,rfl⟩)
 go_ret
 exact ⟨rfl,rfl⟩
theorem OP {w0 w : World} {A : Option Addr} {c : Nat} {l : List Int} {b : Bool} (hv : Hq l = b) (hb : Below w0.heap.size w0 w) (hr : Kd.C (Kd.int .i64) w0 A l.length l) : Calls Tryz.prog 107 #[.slice A l.length c] w fun e w' => e = .returned (.bool b) ∧ w' = w:=by
 have HR:=As (BF hr hb)
 have HV:=As hv
 clear hr hb hv
 rcases BS (l.length : Int) 3 with ⟨e1,b1,c1⟩ | ⟨e1,b1,c1⟩
 ·go_enter Tryz.func107,Tryz.ntmps107
  go_wp2_with (go_at_call 115;refine (O7 (Below.refl _ _) HR.out).mono ?_;rintro e w' ⟨rfl,rfl⟩)
  go_ret
  exact ⟨Af (by rw [← HV.out,Hq,show (l.length == 3) = true by have:=e1.out;simp;omega];rfl),rfl⟩
 ·go_enter Tryz.func107,Tryz.ntmps107
  go_wp2
  go_ret
  exact ⟨Af (by rw [← HV.out,Hq,show (l.length == 3) = false by have:=e1.out;simp;omega];rfl),rfl⟩
def AL (p : Page) : Bool:=inB p.lsn 0 150 && inB p.owner 0 3 && Hq p.vals && (p.owner != 0 || Ik p.vals)
abbrev Page.val (p : Page) (A : Option Addr) (c : Nat) : Value:=.agg #[.int .i64 p.lsn, .int .i64 p.owner, .slice A p.vals.length c]
set_option maxHeartbeats 4000000 in
theorem Ec {w0 w : World} {A : Option Addr} {c : Nat} {p : Page} {b : Bool} (hv : AL p = b) (hb : Below w0.heap.size w0 w) (hr : Kd.C (Kd.int .i64) w0 A p.vals.length p.vals) : Calls Tryz.prog 72 #[p.val A c] w fun e w' => e = .returned (.bool b) ∧ Below w.heap.size w w':=by
 have HR:=As (BF hr hb)
 have HV:=As hv
 clear hr hb hv
 obtain ⟨v1,hv1⟩ : ∃ v1,Hq p.vals = v1:=⟨_,rfl⟩
 obtain ⟨z1,hz1⟩ : ∃ z1,Ik p.vals = z1:=⟨_,rfl⟩
 have HV1:=As hv1
 have HZ1:=As hz1
 clear hv1 hz1
 rcases BS p.owner 0 with ⟨e1,b1,c1⟩ | ⟨e1,b1,c1⟩
 all_goals
  go_enter Tryz.func72,Tryz.ntmps72
  go_wp2_with (first | (go_at_call 40;refine (CG _ _ _ _).mono ?_;rintro e w' ⟨rfl,rfl⟩) | (go_at_call 107;refine (OP HV1.out ((Below.refl _ _).alloc (Nat.le_refl _) _) HR.out).mono ?_;rintro e w' ⟨rfl,rfl⟩) | (go_at_call 108;refine (Ob HZ1.out ((Below.refl _ _).alloc (Nat.le_refl _) _) HR.out).mono ?_;rintro e w' ⟨rfl,rfl⟩))
  all_goals (go_ret;exact ⟨Af (by rw [← HV.out,AL,HV1.out,HZ1.out];simp [c1, *]),(Below.refl _ _).alloc (Nat.le_refl _) _⟩)
theorem Ka {a b c : Int} {t : Bool} (h : inB a b c = t) (w : World) : Calls Tryz.prog 53 #[.int .i64 a, .int .i64 b, .int .i64 c] w fun e w' => e = .returned (.bool t) ∧ w' = w:=(AX a b c w).mono fun _ _ x => ⟨h ▸ x.1,x.2.symm⟩
def Nw (r : Rec) : Bool:=inB r.page 0 4 && inB r.slot (-1) 2 && (inB r.old 0 (if r.slot < 0 then 3 else 9) && inB r.new 0 (if r.slot < 0 then 3 else 9))
def Gm (r : Rec) : Bool:=inB r.tx 1 3 && inB r.prev 0 150 && inB r.next 0 150 &&
  (if r.kind = 1 then Nw r && decide (0 ≤ r.slot) && r.next == 0
   else if r.kind = 2 then Nw r && decide (r.slot < 0) && r.next == 0
   else if r.kind = 6 then Nw r && r.old == 0
   else if r.kind = 3 then inB r.page 0 4 && r.slot == 0 && r.old == 0 && r.new == 0 && r.next == 0
   else if r.kind = 4 ∨ r.kind = 5 then r.page == 0 && r.slot == 0 && r.old == 0 && r.new == 0 && r.next == 0
   else false)
theorem Fq (r : Rec) : Cv r = Gm r:=by
 have key : ∀ m m' : Int,(r.slot = -1 → m = 3 ∧ m' = 3) → (r.slot < -1 → m' = 3) → (0 ≤ r.slot → m = 9 ∧ m' = 9) → (if r.slot = -1 then (3 : Int) else 9) = m → (if r.slot < 0 then (3 : Int) else 9) = m' → Cv r = Gm r:=by
  intro m m' h1 h2 h3 e1 e2
  unfold Cv Gm Nw
  rw [e1,e2]
  rw [Bool.eq_iff_iff]
  by_cases k1 : r.kind = 1
  ·simp [inB,k1];omega
  by_cases k2 : r.kind = 2
  ·simp [inB,k2];omega
  by_cases k3 : r.kind = 3
  ·simp [inB,k3];omega
  by_cases k4 : r.kind = 4
  ·simp [inB,k4];omega
  by_cases k5 : r.kind = 5
  ·simp [inB,k5];omega
  by_cases k6 : r.kind = 6
  ·simp [inB,k6];omega
  simp [k1,k2,k3,k4,k5,k6]
 by_cases hs : r.slot = -1
 ·exact key 3 3 (by omega) (by omega) (by omega) (if_pos hs) (if_pos (by omega))
 ·by_cases ht : r.slot < 0
  ·exact key 9 3 (by omega) (by omega) (by omega) (if_neg hs) (if_pos ht)
  ·exact key 9 9 (by omega) (by omega) (by omega) (if_neg hs) (if_neg ht)
set_option maxHeartbeats 4000000 in
theorem Fx {r : Rec} {b : Bool} (h : Nw r = b) (w : World) : Calls Tryz.prog 121 #[r.val] w fun e w' => e = .returned (.bool b) ∧ Below w.heap.size w w':=by
 have H:=As h
 clear h
 obtain ⟨m,hm⟩ : ∃ m : Int,(if r.slot < 0 then 3 else 9) = m:=⟨_,rfl⟩
 have HM:=As hm
 clear hm
 rcases lts r.slot 0 with ⟨s1,t1,u1⟩ | ⟨s1,t1,u1⟩
 ·obtain rfl : 3 = m:=by rw [← HM.out,if_pos s1.out]
  go_enter Tryz.func121,Tryz.ntmps121
  go_wp2_with (go_at_call 53;refine (AX _ _ _ _).mono ?_;rintro e w' ⟨rfl,rfl⟩)
  all_goals (go_ret;exact ⟨Af (by rw [← H.out];(try simp only [Bool.not_eq_true',Bool.not_eq_false'] at *);simp [Nw,HM.out, *]),(Below.refl _ _).alloc (Nat.le_refl _) _⟩)
 ·obtain rfl : 9 = m:=by rw [← HM.out,if_neg (by have:=s1.out;omega)]
  go_enter Tryz.func121,Tryz.ntmps121
  go_wp2_with (go_at_call 53;refine (AX _ _ _ _).mono ?_;rintro e w' ⟨rfl,rfl⟩)
  all_goals (go_ret;exact ⟨Af (by rw [← H.out];(try simp only [Bool.not_eq_true',Bool.not_eq_false'] at *);simp [Nw,HM.out, *]),(Below.refl _ _).alloc (Nat.le_refl _) _⟩)
theorem NH {W w1 : World} (hb : Below W.heap.size W w1) : (∀ b o,b < W.heap.size → w1.cell? ⟨b,o,none⟩ = W.cell? ⟨b,o,none⟩) ∧ (∀ b o,b < W.heap.size → w1.frozen? ⟨b,o,none⟩ = W.frozen? ⟨b,o,none⟩):=
 ⟨fun b o h => hb.cell (p:=⟨b,o,none⟩) h,fun b o h => hb.frozen (p:=⟨b,o,none⟩) h⟩
set_option maxHeartbeats 16000000 in
set_option maxRecDepth 100000 in
theorem Fg {r : Rec} {b : Bool} (h : Cv r = b) (w : World) : Calls Tryz.prog 92 #[r.val] w fun e w' => e = .returned (.bool b) ∧ Below w.heap.size w w':=by
 have H:=As h
 clear h
 rcases BS r.kind 1 with ⟨e1,b1,c1⟩ | ⟨e1,b1,c1⟩
 ·go_enter Tryz.func92,Tryz.ntmps92
  go_wp2_with (first | (go_at_call 53;refine (AX _ _ _ _).mono ?_;rintro e w' ⟨rfl,rfl⟩) | (go_at_call 121;refine (Fx rfl _).mono ?_;rintro e w1 ⟨rfl,hb1⟩;obtain ⟨hc,hf⟩:=NH hb1))
  all_goals (go_ret;exact ⟨Af (by rw [← H.out,Fq];(try simp only [Bool.not_eq_true',Bool.not_eq_false'] at *);simp [Gm,e1.out, *] <;> (intros;omega)),by first | exact (Below.refl _ _).alloc (Nat.le_refl _) _ | exact bj ((Below.refl _ _).alloc (Nat.le_refl _) _) hb1⟩)
 ·skip
  rcases BS r.kind 2 with ⟨e2,b2,c2⟩ | ⟨e2,b2,c2⟩
  ·go_enter Tryz.func92,Tryz.ntmps92
   go_wp2_with (first | (go_at_call 53;refine (AX _ _ _ _).mono ?_;rintro e w' ⟨rfl,rfl⟩) | (go_at_call 121;refine (Fx rfl _).mono ?_;rintro e w1 ⟨rfl,hb1⟩;obtain ⟨hc,hf⟩:=NH hb1))
   all_goals (go_ret;exact ⟨Af (by rw [← H.out,Fq];(try simp only [Bool.not_eq_true',Bool.not_eq_false'] at *);simp [Gm,e2.out, *] <;> (intros;omega)),by first | exact (Below.refl _ _).alloc (Nat.le_refl _) _ | exact bj ((Below.refl _ _).alloc (Nat.le_refl _) _) hb1⟩)
  ·skip
   rcases BS r.kind 3 with ⟨e3,b3,c3⟩ | ⟨e3,b3,c3⟩
   ·go_enter Tryz.func92,Tryz.ntmps92
    go_wp2_with (first | (go_at_call 53;refine (AX _ _ _ _).mono ?_;rintro e w' ⟨rfl,rfl⟩) | (go_at_call 121;refine (Fx rfl _).mono ?_;rintro e w1 ⟨rfl,hb1⟩;obtain ⟨hc,hf⟩:=NH hb1))
    all_goals (go_ret;exact ⟨Af (by rw [← H.out,Fq];(try simp only [Bool.not_eq_true',Bool.not_eq_false'] at *);simp [Gm,e3.out, *] <;> (intros;omega)),by first | exact (Below.refl _ _).alloc (Nat.le_refl _) _ | exact bj ((Below.refl _ _).alloc (Nat.le_refl _) _) hb1⟩)
   ·skip
    rcases BS r.kind 4 with ⟨e4,b4,c4⟩ | ⟨e4,b4,c4⟩
    ·go_enter Tryz.func92,Tryz.ntmps92
     go_wp2_with (first | (go_at_call 53;refine (AX _ _ _ _).mono ?_;rintro e w' ⟨rfl,rfl⟩) | (go_at_call 121;refine (Fx rfl _).mono ?_;rintro e w1 ⟨rfl,hb1⟩;obtain ⟨hc,hf⟩:=NH hb1))
     all_goals (go_ret;exact ⟨Af (by rw [← H.out,Fq];(try simp only [Bool.not_eq_true',Bool.not_eq_false'] at *);simp [Gm,e4.out, *] <;> (intros;omega)),by first | exact (Below.refl _ _).alloc (Nat.le_refl _) _ | exact bj ((Below.refl _ _).alloc (Nat.le_refl _) _) hb1⟩)
    ·skip
     rcases BS r.kind 5 with ⟨e5,b5,c5⟩ | ⟨e5,b5,c5⟩
     ·go_enter Tryz.func92,Tryz.ntmps92
      go_wp2_with (first | (go_at_call 53;refine (AX _ _ _ _).mono ?_;rintro e w' ⟨rfl,rfl⟩) | (go_at_call 121;refine (Fx rfl _).mono ?_;rintro e w1 ⟨rfl,hb1⟩;obtain ⟨hc,hf⟩:=NH hb1))
      all_goals (go_ret;exact ⟨Af (by rw [← H.out,Fq];(try simp only [Bool.not_eq_true',Bool.not_eq_false'] at *);simp [Gm,e5.out, *] <;> (intros;omega)),by first | exact (Below.refl _ _).alloc (Nat.le_refl _) _ | exact bj ((Below.refl _ _).alloc (Nat.le_refl _) _) hb1⟩)
     ·skip
      rcases BS r.kind 6 with ⟨e6,b6,c6⟩ | ⟨e6,b6,c6⟩
      ·go_enter Tryz.func92,Tryz.ntmps92
       go_wp2_with (first | (go_at_call 53;refine (AX _ _ _ _).mono ?_;rintro e w' ⟨rfl,rfl⟩) | (go_at_call 121;refine (Fx rfl _).mono ?_;rintro e w1 ⟨rfl,hb1⟩;obtain ⟨hc,hf⟩:=NH hb1))
       all_goals (go_ret;exact ⟨Af (by rw [← H.out,Fq];(try simp only [Bool.not_eq_true',Bool.not_eq_false'] at *);simp [Gm,e6.out, *] <;> (intros;omega)),by first | exact (Below.refl _ _).alloc (Nat.le_refl _) _ | exact bj ((Below.refl _ _).alloc (Nat.le_refl _) _) hb1⟩)
      ·go_enter Tryz.func92,Tryz.ntmps92
       go_wp2_with (first | (go_at_call 53;refine (AX _ _ _ _).mono ?_;rintro e w' ⟨rfl,rfl⟩) | (go_at_call 121;refine (Fx rfl _).mono ?_;rintro e w1 ⟨rfl,hb1⟩;obtain ⟨hc,hf⟩:=NH hb1))
       all_goals (go_ret;exact ⟨Af (by rw [← H.out,Fq];(try simp only [Bool.not_eq_true',Bool.not_eq_false'] at *);simp [Gm,e1.out,e2.out,e3.out,e4.out,e5.out,e6.out, *] <;> (intros;omega)),by first | exact (Below.refl _ _).alloc (Nat.le_refl _) _ | exact bj ((Below.refl _ _).alloc (Nat.le_refl _) _) hb1⟩)
theorem Be {p : Page} : AL p = true ↔ 0 ≤ p.lsn ∧ p.lsn ≤ 150 ∧ 0 ≤ p.owner ∧ p.owner ≤ 3 ∧ p.vals.length = 3 ∧ ∀ x ∈ p.vals,0 ≤ x ∧ x ≤ 9 ∧ (p.owner = 0 → x = 0):=by
 simp only [AL,Hq,Ik,Bool.and_eq_true,CU,Bool.or_eq_true,bne_iff_ne,Bool.not_eq_true',List.any_eq_false,beq_iff_eq]
 constructor
 ·rintro ⟨⟨⟨⟨h1,h2⟩,h3,h4⟩,h5,h6⟩,h7⟩
  refine ⟨h1,h2,h3,h4,h5,fun x hx => ?_⟩
  have:=h6 x hx
  simp [inB] at this
  refine ⟨this.1,this.2,fun h0 => ?_⟩
  rcases h7 with h7 | h7
  ·exact absurd h0 h7
  ·have:=h7 x hx
   simpa using this
 ·rintro ⟨h1,h2,h3,h4,h5,h6⟩
  refine ⟨⟨⟨⟨h1,h2⟩,h3,h4⟩,h5,fun x hx => ?_⟩,?_⟩
  ·have:=h6 x hx
   simp [inB]
   omega
  ·by_cases h0 : p.owner = 0
   ·refine .inr fun x hx => ?_
    have:=(h6 x hx).2.2 h0
    simp [this]
   ·exact .inl h0
theorem RV {l : List Int} {k : Nat} (h : k < l.length) : iv l k ∈ l:=by
 simp [iv,List.getD_eq_getElem?_getD,h]
theorem XF {l : List Int} {x : Int} (h : x ∈ l) : ∃ k,k < l.length ∧ iv l k = x:=by
 obtain ⟨k,hk,rfl⟩:=List.getElem_of_mem h
 exact ⟨k,hk,by simp [iv,List.getD_eq_getElem?_getD,hk]⟩
set_option maxHeartbeats 4000000 in
theorem EQ {w0 w : World} {A : Option Addr} {c : Nat} {p : Page} {b : Bool} (hv : AL p = b) (hb : Below w0.heap.size w0 w) (hr : Kd.C (Kd.int .i64) w0 A p.vals.length p.vals) : Calls Tryz.prog 91 #[p.val A c] w fun e w' => e = .returned (.bool b) ∧ Below w.heap.size w w':=by
 have HR:=As (BF hr hb)
 have HV:=As hv
 have hm:=(CY hr).2
 clear hr hb hv
 rcases BS (p.vals.length : Int) 3 with ⟨e1,b1,c1⟩ | ⟨e1,b1,c1⟩
 ·go_enter Tryz.func91,Tryz.ntmps91
  go_wp2_with (go_at_call 53;refine (AX _ _ _ _).mono ?_;rintro e w' ⟨rfl,rfl⟩)
  all_goals (try (go_ret;exact ⟨Af (by rw [← HV.out,AL];(try simp only [Bool.not_eq_true',Bool.not_eq_false'] at *);simp [*]),(Below.refl _ _).alloc (Nat.le_refl _) _⟩))
  have h1:=As (show inB p.lsn 0 150 = true by assumption)
  have h2:=As (show inB p.owner 0 3 = true by assumption)
  go_loop [3] (fun i => ∃ k : Nat,k ≤ p.vals.length ∧ i = .int .i64 (k : Int) ∧ A7 (∀ j,j < k → 0 ≤ iv p.vals j ∧ iv p.vals j ≤ 9 ∧ (p.owner = 0 → iv p.vals j = 0))) (fun i => (p.vals.length - intOf i).toNat)
  case atStart => exact ⟨0,Nat.zero_le _,rfl,⟨fun j hj => by omega⟩⟩
  case round =>
   obtain ⟨k,hk,rfl,HK⟩:=hrel
   by_cases hlt : k < p.vals.length
   ·obtain ⟨ad,rfl,g0⟩:=DW HR.out k hlt
    replace g0:=bc ((Below.refl _ w).alloc (Nat.le_refl _) (.cells #[.int .i64 p.lsn, .int .i64 p.owner, .slice (some ad) p.vals.length c] 47)) g0
    have HF:=As (show ¬ (0 ≤ iv p.vals k ∧ iv p.vals k ≤ 9 ∧ (p.owner = 0 → iv p.vals k = 0)) → AL p = false from fun h => by
     rw [Bool.eq_false_iff]
     intro hp
     exact h ((Be.1 hp).2.2.2.2.2 _ (RV hlt)))
    cases hi : inB (iv p.vals k) 0 9
    ·have HI:=As hi
     clear hi
     go_wp2_with (go_at_call 53;refine (Ka HI.out _).mono ?_;rintro e w' ⟨rfl,rfl⟩)
     go_ret
     exact ⟨Af (by rw [← HV.out,HF.out (by have:=HI.out;rw [Bool.eq_false_iff,ne_eq,CU] at this;omega)]),(Below.refl _ _).alloc (Nat.le_refl _) _⟩
    ·have HI:=As hi
     clear hi
     have hi2:=CU.1 HI.out
     have HI2:=As hi2
     clear hi2
     rcases BS p.owner 0 with ⟨e2,b2,c2⟩ | ⟨e2,b2,c2⟩
     ·rcases BS (iv p.vals k) 0 with ⟨e3,b3,c3⟩ | ⟨e3,b3,c3⟩
      ·go_wp2_with (go_at_call 53;refine (Ka HI.out _).mono ?_;rintro e w' ⟨rfl,rfl⟩)
       go_round
       case rel => exact ⟨k + 1,by omega,by go_num,⟨fun j hj => by
        by_cases ej : j = k
        ·subst ej;exact ⟨HI2.out.1,HI2.out.2,fun _ => e3.out⟩
        ·exact HK.out j (by omega)⟩⟩
       case measure => simp [intOf];omega
      ·go_wp2_with (go_at_call 53;refine (Ka HI.out _).mono ?_;rintro e w' ⟨rfl,rfl⟩)
       go_ret
       exact ⟨Af (by rw [← HV.out,HF.out (fun h => e3.out (h.2.2 e2.out))]),(Below.refl _ _).alloc (Nat.le_refl _) _⟩
     ·go_wp2_with (go_at_call 53;refine (Ka HI.out _).mono ?_;rintro e w' ⟨rfl,rfl⟩)
      go_round
      case rel => exact ⟨k + 1,by omega,by go_num,⟨fun j hj => by
       by_cases ej : j = k
       ·subst ej;exact ⟨HI2.out.1,HI2.out.2,fun h => absurd h e2.out⟩
       ·exact HK.out j (by omega)⟩⟩
      case measure => simp [intOf];omega
   ·go_wp2
    go_ret
    exact ⟨Af (by
     rw [← HV.out,Be.2]
     refine ⟨(CU.1 h1.out).1,(CU.1 h1.out).2,(CU.1 h2.out).1,(CU.1 h2.out).2,by have:=e1.out;omega,fun x hx => ?_⟩
     obtain ⟨j,hj,rfl⟩:=XF hx
     exact HK.out j (by omega)),(Below.refl _ _).alloc (Nat.le_refl _) _⟩
 ·go_enter Tryz.func91,Tryz.ntmps91
  go_wp2_with (go_at_call 53;refine (AX _ _ _ _).mono ?_;rintro e w' ⟨rfl,rfl⟩)
  all_goals (go_ret;exact ⟨Af (by rw [← HV.out,AL,Hq,show (p.vals.length == 3) = false by have:=e1.out;simp;omega];simp),(Below.refl _ _).alloc (Nat.le_refl _) _⟩)
theorem MS {w : World} {A : Option Addr} {n : Nat} {l : List Int} (h : Kd.C (Kd.int .i64) w A n l) (hn : 0 < n) : ∃ b off,A = some ⟨b,off,none⟩ ∧ ∀ j,j < l.length → w.cell? ⟨b,off + j,none⟩ = some (.int .i64 (l.getD j 0)):=by
 obtain ⟨ad,rfl,h0⟩:=DW h 0 hn
 have hs : ad.spot = none:=by
  have h1 : w.cell? ad = some (.int .i64 (iv l 0)):=h0
  unfold World.cell? at h1
  split at h1
  ·cases e : ad.spot with
   | none => rfl
   | some s => rw [e] at h1;simp at h1
  ·cases h1
 obtain ⟨b,off,s⟩:=ad
 obtain rfl : s = none:=hs
 refine ⟨b,off,rfl,fun j hj => ?_⟩
 obtain ⟨ad,e,h2⟩:=DW h j (by rw [h.1] at hj;exact hj)
 obtain rfl:=Option.some.inj e
 have : (⟨b,off,none⟩ : Addr).add j = ⟨b,off + j,none⟩:=by
  unfold Addr.add
  split
  ·rename_i h;subst h;rfl
  ·rfl
 rw [this] at h2
 exact h2
theorem QY {w0 w : World} {A : Option Addr} {c : Nat} {l : List Int} (hl : l.length ≤ 17592186044416) (hb : Below w0.heap.size w0 w) (hr : Kd.C (Kd.int .i64) w0 A l.length l) : Calls Tryz.prog 105 #[.slice A l.length c] w (Vs w l):=by
 have h:=BF hr hb
 rcases Nat.eq_zero_or_pos l.length with h0 | h0
 ·obtain rfl:=List.eq_nil_of_length_eq_zero h0
  cases A with
  | none => exact (Tryz.slices_Clone_int_nil 0 c w).mono fun e w' ⟨he,hw⟩ => ⟨_,he,AA.nil _ _,hw ▸ Below.refl _ _⟩
  | some a => exact (Tryz.slices_Clone_int_zero a c w).mono fun e w' ⟨v,he,ho,_,hb⟩ => ⟨v,he,ho,hb⟩
 ·obtain ⟨b,off,rfl,hc⟩:=MS h h0
  refine (Tryz.slices_Clone_int b off l.length c l w (Nat.le_refl _) (by omega) hc).mono fun e w' ⟨v,he,ho,_,hb⟩ => ⟨v,he,?_,hb⟩
  rw [List.take_length] at ho
  exact ho
theorem JV {w0 w : World} {A : Option Addr} {c : Nat} {l : List Int} (x : Int) (hb : Below w0.heap.size w0 w) (hr : Kd.C (Kd.int .i64) w0 A l.length l) : Calls Tryz.prog 78 #[.slice A l.length c, .int .i64 x] w fun e w' => e = .returned (.bool (l.contains x)) ∧ w' = w:=by
 have h:=BF hr hb
 rcases Nat.eq_zero_or_pos l.length with h0 | h0
 ·obtain rfl:=List.eq_nil_of_length_eq_zero h0
  exact Tryz.slices_Contains_int_empty A c x w
 ·obtain ⟨b,off,rfl,hc⟩:=MS h h0
  have:=Tryz.slices_Contains_int b off l.length c l x w (Nat.le_refl _) (CY h).2 hc
  rwa [List.take_length] at this
theorem QT {w0 w : World} {A B : Option Addr} {c d : Nat} {l m : List Int} {b : Bool} (hv : (l == m) = b) (hb : Below w0.heap.size w0 w) (hr : Kd.C (Kd.int .i64) w0 A l.length l) (hr2 : Kd.C (Kd.int .i64) w0 B m.length m) : Calls Tryz.prog 81 #[.slice A l.length c, .slice B m.length d] w fun e w' => e = .returned (.bool b) ∧ Below w.heap.size w w':=by
 have h:=BF hr hb
 have h2:=BF hr2 hb
 subst hv
 by_cases hn : l.length = m.length
 ·rcases Nat.eq_zero_or_pos l.length with h0 | h0
  ·obtain rfl:=List.eq_nil_of_length_eq_zero h0
   obtain rfl:=List.eq_nil_of_length_eq_zero (hn ▸ h0 : m.length = 0)
   exact (Tryz.slices_Equal_int_empty A B c 0 d w (by omega)).mono fun e w' ⟨he,hw⟩ => ⟨he,hw ▸ Below.refl _ _⟩
  ·obtain ⟨b1,o1,rfl,hc1⟩:=MS h h0
   obtain ⟨b2,o2,rfl,hc2⟩:=MS h2 (by omega)
   refine (Tryz.slices_Equal_int b1 o1 l.length c b2 o2 m.length d l m w (Nat.le_refl _) (Nat.le_refl _) (CY h).2 (CY h2).2 hc1 hc2).mono fun e w' ⟨he,q,hw⟩ => ⟨?_,hw ▸ Bz (Below.refl _ _) q⟩
   rw [List.take_length,List.take_length] at he
   exact he
 ·refine (Tryz.slices_Equal_int_lens A B l.length c m.length d w hn).mono fun e w' ⟨he,hw⟩ => ⟨?_,hw ▸ Below.refl _ _⟩
  rw [he]
  exact Af (by symm;rw [beq_eq_false_iff_ne];intro e;exact hn (by rw [e]))
set_option maxRecDepth 100000 in
set_option maxHeartbeats 2000000 in
theorem Mw {n : Int} (h0 : 0 ≤ n) (h9 : n ≤ 9) (w : World) : Calls Tryz.prog 122 #[.int .i64 n] w fun e w' => e = .returned (.string (strOfNums [48 + n])) ∧ Below w.heap.size w w':=by
 have hk : (convert 22 9 (.slice (some ⟨w.heap.size,0,none⟩) 1 1)).run Tryz.prog (w.alloc (Obj.cells #[Value.int .u8 (48 + n)] 5)) = .ok (.string (strOfNums [48 + n])) (w.alloc (Obj.cells #[Value.int .u8 (48 + n)] 5)):=by
  refine run_convert_bytes_arg _ 22 5 Tryz.underlying22 Tryz.underlying5 w.heap.size 0 1 1 [48 + n] rfl ?_ 9 Tryz.underlying9
  intro i hi
  obtain rfl : i = 0:=by omega
  go_simp
 go_enter Tryz.func122,Tryz.ntmps122
 go_wp2
 all_goals (go_ret;exact ⟨rfl,(Below.refl _ _).alloc (Nat.le_refl _) _⟩)
def D8 (p q : Page) : Bool:=p.lsn == q.lsn && p.owner == q.owner && p.vals == q.vals
set_option maxHeartbeats 2000000 in
theorem Fp {w0 w : World} {A B : Option Addr} {c d : Nat} {p q : Page} {b : Bool} (hv : D8 p q = b) (hb : Below w0.heap.size w0 w) (hr : Kd.C (Kd.int .i64) w0 A p.vals.length p.vals) (hr2 : Kd.C (Kd.int .i64) w0 B q.vals.length q.vals) : Calls Tryz.prog 45 #[p.val A c,q.val B d] w fun e w' => e = .returned (.bool b) ∧ Below w.heap.size w w':=by
 have HR:=As (BF hr hb)
 have HR2:=As (BF hr2 hb)
 have HV:=As hv
 clear hr hr2 hb hv
 obtain ⟨v1,hv1⟩ : ∃ v1,(p.vals == q.vals) = v1:=⟨_,rfl⟩
 have HV1:=As hv1
 clear hv1
 rcases BS p.lsn q.lsn with ⟨e1,b1,c1⟩ | ⟨e1,b1,c1⟩
 all_goals rcases BS p.owner q.owner with ⟨e2,b2,c2⟩ | ⟨e2,b2,c2⟩
 all_goals
  go_enter Tryz.func45,Tryz.ntmps45
  go_wp2_with (go_at_call 81;refine (QT HV1.out (((Below.refl _ _).alloc (Nat.le_refl _) _).alloc (by simp) _) HR.out HR2.out).mono ?_;rintro e w1 ⟨rfl,hb1⟩;have HX:=As (bj (((Below.refl _ _).alloc (Nat.le_refl _) _).alloc (by simp) _ : Below w.heap.size w _) hb1);clear hb1)
  all_goals (go_ret;first | exact ⟨Af (by rw [← HV.out,D8,HV1.out,b1,b2];simp),HX.out⟩ | exact ⟨Af (by rw [← HV.out,D8];simp [b1,b2]),(((Below.refl _ _).alloc (Nat.le_refl _) _).alloc (by simp) _)⟩)
abbrev Page.box (p : Page) (A : Option Addr) (c : Nat) : Obj:=.cells #[.int .i64 p.lsn, .int .i64 p.owner, .slice A p.vals.length c] 47
theorem Sc (w : World) (p : Page) (A : Option Addr) (c : Nat) : GL (w.alloc (p.box A c)) ⟨w.heap.size,0,none⟩ p A c:=⟨by go_simp,by go_simp,by go_simp⟩
theorem Lx (w : World) (p : Page) (A : Option Addr) (c : Nat) : Below w.heap.size w (w.alloc (p.box A c)):=(Below.refl _ _).alloc (Nat.le_refl _) _
theorem Wt (w : World) (p : Page) (A : Option Addr) (c : Nat) (q : Page) (B : Option Addr) (d : Nat) : GL ((w.alloc (p.box A c)).alloc (q.box B d)) ⟨w.heap.size + 1,0,none⟩ q B d:=⟨by go_simp,by go_simp,by go_simp⟩
theorem Oo (a b : List Int) : strOfNums a ++ strOfNums b = strOfNums (a ++ b):=by
 simp [strOfNums,ByteArray.ext_iff]
def DN (l : List Int) : List Int:=l.flatMap fun v => [32,48 + v]
theorem PV (l : List Int) : (DN l).length = 2 * l.length:=by
 induction l with
 | nil => rfl
 | cons a l ih =>
  have : DN (a :: l) = [32,48 + a] ++ DN l:=rfl
  rw [this,List.length_append,ih]
  simp
  omega
def Gs (p : Page) : List Int:=(48 + p.owner) :: DN p.vals
set_option maxRecDepth 100000 in
set_option maxHeartbeats 4000000 in
theorem JX {w0 w : World} {A : Option Addr} {c : Nat} {p : Page} (hv : AL p = true) (hb : Below w0.heap.size w0 w) (hr : Kd.C (Kd.int .i64) w0 A p.vals.length p.vals) : Calls Tryz.prog 98 #[p.val A c] w fun e w' => e = .returned (.string (strOfNums (Gs p))) ∧ Below w.heap.size w w':=by
 have HR:=As (BF hr hb)
 have HV:=As hv
 have hp:=Be.1 hv
 have HP:=As hp
 have HA:=As (Sc w p A c)
 have HB:=As (Lx w p A c)
 clear hr hb hv hp
 go_enter Tryz.func98,Tryz.ntmps98
 go_wp2_with (first | (go_at_call 91;refine (EQ HV.out HB.out HR.out).mono ?_;rintro e w1 ⟨rfl,hb1⟩;have HX:=As (bj HB.out hb1);obtain ⟨x0,x1,x2⟩:=HA.out.up hb1;have HA1:=As (HA.out.up hb1);clear hb1) | (go_at_call 122;refine (Mw HP.out.2.2.1 (by have:=HP.out;omega) _).mono ?_;rintro e w2 ⟨rfl,hb2⟩;have HX2:=As (bj HX.out hb2);have HA2:=As (HA1.out.up hb2);clear hb2))
 go_loopw [3,4] (fun v i wr => ∃ (k : Nat),k ≤ p.vals.length ∧ i = .int .i64 (k : Int) ∧ v = .string (strOfNums ((48 + p.owner) :: DN (p.vals.take k))) ∧ A7 (Below w2.heap.size w2 wr)) (fun _ i _ => (p.vals.length - intOf i).toNat)
 case atStart => exact ⟨0,Nat.zero_le _,rfl,rfl,⟨Below.refl _ _⟩⟩
 case round =>
  obtain ⟨k,hk,rfl,rfl,HW⟩:=hrel
  obtain ⟨y0,y1,y2⟩:=HA2.out.up HW.out
  have hm : p.vals.length ≤ 9223372036854775807:=(CY HR.out).2
  have HL3:=As HP.out.2.2.2.2.1
  by_cases hlt : k < p.vals.length
  ·obtain ⟨ad,rfl,g0⟩:=DW HR.out k hlt
   replace g0:=bc (bj HX2.out HW.out) g0
   have HV3:=As (HP.out.2.2.2.2.2 _ (RV hlt))
   have HT:=As (show DN (p.vals.take (k + 1)) = DN (p.vals.take k) ++ [32] ++ [48 + iv p.vals k] by
    rw [List.take_add_one,DN,List.flatMap_append]
    simp [iv,List.getD_eq_getElem?_getD,hlt,DN])
   have hs : (strOfNums ((48 + p.owner) :: DN (p.vals.take k))).size ≤ 7:=by
    have:=PV (p.vals.take k)
    rw [strOfNums_size,List.length_cons,this,List.length_take]
    have:=HL3.out
    omega
   have hs2 : (strOfNums [48 + iv p.vals k]).size = 1:=strOfNums_size _
   go_wp2_with (go_at_call 122;refine (Mw HV3.out.1 HV3.out.2.1 _).mono ?_;rintro e w3 ⟨rfl,hb3⟩;have HX3:=As (bj HW.out hb3);clear hb3)
   go_roundw
   case rel => exact ⟨k + 1,by omega,by go_num,by rw [HT.out,List.append_assoc, ← List.cons_append, ← Oo, ← Oo,ByteArray.append_assoc];rfl,HX3⟩
   case measure => simp [intOf];omega
  ·have HE:=As (show k = p.vals.length by omega)
   go_wp2
   go_ret
   exact ⟨by rw [HE.out,List.take_length];rfl,bj HX2.out HW.out⟩
theorem Mf : ∀ {a b : List Int},(∀ x ∈ a,0 ≤ x ∧ x ≤ 9) → (∀ x ∈ b,0 ≤ x ∧ x ≤ 9) → strOfNums (DN a) = strOfNums (DN b) → a = b
 | [], [],_,_,_ => rfl
 | [],y :: ys,_,_,h => by have:=congrArg ByteArray.size h;simp [strOfNums_size,DN] at this
 | x :: xs, [],_,_,h => by have:=congrArg ByteArray.size h;simp [strOfNums_size,DN] at this
 | x :: xs,y :: ys,ha,hb,h => by
  have h1 : strOfNums ([32,48 + x] ++ DN xs) = strOfNums ([32,48 + y] ++ DN ys):=h
  have h2:=congrArg (fun s => s.data.toList) h1
  simp only [strOfNums_data,List.map_cons,List.cons_append,List.nil_append,List.cons.injEq,true_and] at h2
  have hx:=ha x (by simp)
  have hy:=hb y (by simp)
  have e : x = y:=by
   have:=congrArg UInt8.toNat h2.1
   simp at this
   omega
  have e2 : xs = ys:=Mf (fun z hz => ha z (by simp [hz])) (fun z hz => hb z (by simp [hz])) (by
   have:=h2.2
   simp only [strOfNums,this])
  rw [e,e2]
theorem NV {p q : Page} (hp : AL p = true) (hq : AL q = true) : strOfNums (Gs p) = strOfNums (Gs q) ↔ p.owner = q.owner ∧ p.vals = q.vals:=by
 have h1:=Be.1 hp
 have h2:=Be.1 hq
 constructor
 ·intro h
  have h3:=congrArg (fun s : ByteArray => s.data.toList) h
  simp only [strOfNums_data,Gs,List.map_cons,List.cons.injEq] at h3
  refine ⟨?_,Mf (fun x hx => by have:=h1.2.2.2.2.2 x hx;omega) (fun x hx => by have:=h2.2.2.2.2.2 x hx;omega) (by simp only [strOfNums,h3.2])⟩
  have:=congrArg UInt8.toNat h3.1
  simp at this
  omega
 ·rintro ⟨ho,hv⟩
  rw [Gs,Gs,ho,hv]
set_option maxRecDepth 100000 in
set_option maxHeartbeats 4000000 in
theorem Gn {w0 w : World} {A B : Option Addr} {c d : Nat} {p q : Page} {b : Bool} (hv : D8 p q = b) (hp : AL p = true) (hq : AL q = true) (hb : Below w0.heap.size w0 w) (hr : Kd.C (Kd.int .i64) w0 A p.vals.length p.vals) (hr2 : Kd.C (Kd.int .i64) w0 B q.vals.length q.vals) : Calls Tryz.prog 57 #[p.val A c,q.val B d] w fun e w' => e = .returned (.bool b) ∧ Below w.heap.size w w':=by
 have HR:=As (BF hr hb)
 have HR2:=As (BF hr2 hb)
 have HV:=As hv
 have HP:=As hp
 have HQ:=As hq
 have HA:=As ((Sc w p A c).up ((Below.refl _ _).alloc (Nat.le_refl _) (q.box B d)))
 have HA2:=As (Wt w p A c q B d)
 have HW:=As (bj (Lx w p A c) ((Below.refl _ _).alloc (Nat.le_refl _) (q.box B d)))
 obtain ⟨t1,ht1⟩ : ∃ t1,strOfNums (Gs p) = t1:=⟨_,rfl⟩
 obtain ⟨t2,ht2⟩ : ∃ t2,strOfNums (Gs q) = t2:=⟨_,rfl⟩
 have HT1:=As ht1
 have HT2:=As ht2
 clear hr hr2 hb hv hp hq ht1 ht2
 rcases BS p.lsn q.lsn with ⟨e1,b1,c1⟩ | ⟨e1,b1,c1⟩
 ·go_enter Tryz.func57,Tryz.ntmps57
  go_wp2
  refine Aq (fun w' => Below w.heap.size w w' ∧ GL w' ⟨w.heap.size,0,none⟩ p A c ∧ GL w' ⟨w.heap.size + 1,0,none⟩ q B d) rfl rfl (by kernel_rfl) (⟨Ac HW.out,HA.out.up (Ac (Below.refl _ _)),HA2.out.up (Ac (Below.refl _ _))⟩) (fun HT => ?_)
  repeat (first
   | (refine AQ (fun wx hS => ?_))
   | ((with_reducible refine Ay (f:=98) rfl ?_);refine Az (v:=.string t1) (args:=#[p.val A c]) HT rfl Tryz.func98 (by kernel_rfl) rfl rfl (by rfl) (fun _ _ _ h => h) (by simp only [List.map_toArray,List.map_cons,List.map_nil];rfl) (fun wx hS => (HT1.out ▸ JX HP.out hS.1 HR.out).mono fun e w1 h => ⟨h.1,bj hS.1 h.2,hS.2.1.up h.2,hS.2.2.up h.2⟩) ?_;simp only [sc0,sc1])
   | ((with_reducible refine Ay (f:=98) rfl ?_);refine Az (v:=.string t2) (args:=#[q.val B d]) HT rfl Tryz.func98 (by kernel_rfl) rfl rfl (by rfl) (fun _ _ _ h => h) (by simp only [List.map_toArray,List.map_cons,List.map_nil];rfl) (fun wx hS => (HT2.out ▸ JX HQ.out hS.1 HR2.out).mono fun e w1 h => ⟨h.1,bj hS.1 h.2,hS.2.1.up h.2,hS.2.2.up h.2⟩) ?_;simp only [sc0,sc1])
   | (refine AB HT rfl (by rfl) (fun _ _ _ h => h) ?_;simp only [sc0,sc1])
   | (refine AP (v:=?_) HT rfl (by rfl) (fun _ _ _ h => h) (fun wx hS => ?_) ?_;rotate_left;(obtain ⟨-,⟨x0,x1,x2⟩,⟨y0,y1,y2⟩⟩:=hS;go_simp;with_reducible rfl);rotate_left;simp only [sc0,sc1]))
  go_wp2
  go_ret
  refine ⟨Af (a:=t1.toList == t2.toList) ?_,hS.1⟩
  rw [← HV.out,D8,b1,Bool.true_and,Bool.eq_iff_iff,Bool.and_eq_true,beq_iff_eq,beq_iff_eq,beq_iff_eq, ← NV HP.out HQ.out,HT1.out,HT2.out]
  refine ⟨fun h => ?_,fun h => by rw [h]⟩
  rw [Go.Lib.toList_data,Go.Lib.toList_data] at h
  exact ByteArray.ext (Array.ext' h)
 ·go_enter Tryz.func57,Tryz.ntmps57
  go_wp2
  refine Aq (fun w' => Below w.heap.size w w' ∧ GL w' ⟨w.heap.size,0,none⟩ p A c ∧ GL w' ⟨w.heap.size + 1,0,none⟩ q B d) rfl rfl (by kernel_rfl) (⟨Ac HW.out,HA.out.up (Ac (Below.refl _ _)),HA2.out.up (Ac (Below.refl _ _))⟩) (fun HT => ?_)
  repeat (first
   | (refine AQ (fun wx hS => ?_))
   | (refine AB HT rfl (by rfl) (fun _ _ _ h => h) ?_;simp only [sc0,sc1])
   | (refine AP (v:=?_) HT rfl (by rfl) (fun _ _ _ h => h) (fun wx hS => ?_) ?_;rotate_left;(obtain ⟨-,⟨x0,x1,x2⟩,⟨y0,y1,y2⟩⟩:=hS;go_simp;with_reducible rfl);rotate_left;simp only [sc0,sc1]))
  go_wp2
  go_ret
  exact ⟨Af (by rw [← HV.out,D8,b1];simp),hS.1⟩
open Go.RowKit Go.Proofs.YtjeodgfkilhkhaaGreatW.PrintWords Go.Proofs.YtjeodgfkilhkhaaGreatW.PrintLast
section
variable {P : Program} {ops : Array Oper} {Q : Exit → Act → World → Prop} {md : Region.Mode} {S : Array Bool → Act → World → Prop} {m : Nat}
def Keeps (S : Array Bool → Act → World → Prop) (i : Nat) (d : Option Nat) : Prop := ∀ l a v w,S (l.setIfInBounds i true) (a.put d v) w ↔ S l a w
def Sl (i s : Nat) (p : Value → World → Prop) (l : Array Bool) (a : Act) (w : World) : Prop:=l.getD i false = true → p (a.tmps.getD s undef) w
theorem Ah {p : World → Prop} {i : Nat} {d : Option Nat} : Keeps (fun _ _ w => p w) i d:=fun _ _ _ _ => Iff.rfl
theorem kA {S T : Array Bool → Act → World → Prop} {i : Nat} {d : Option Nat} (h : Keeps S i d) (k : Keeps T i d) : Keeps (fun l a w => S l a w ∧ T l a w) i d:=fun l a v w => and_congr (h l a v w) (k l a v w)
theorem Ak {j i s d : Nat} {p : Value → World → Prop} (h : (d == s) = false) (hi : (j == i) = false) : Keeps (Sl i s p) j (some d):=fun l a v w => by
 have h : d ≠ s:=by simpa using h
 have hi : j ≠ i:=by simpa using hi
 have h1 : (a.put (some d) v).tmps.getD s undef = a.tmps.getD s undef:=by simp [Act.put,h]
 have h2 : (l.setIfInBounds j true).getD i false = l.getD i false:=getD_set_ne false hi
 rw [Sl,Sl,h1,h2]
def LF (P : Program) (ops : Array Oper) (S : Array Bool → Act → World → Prop) (o : Oper) (v : Value) (a : Act) : Prop:=
 (Region.wanted o (yielded ops a.tmps) = true ∧ ∀ l a' w,S l a' w → Eff P (S l a') v ((execOp a.eval o).run P w)) ∨
 (Region.wanted o (yielded ops a.tmps) = false ∧ v = undef)
theorem LF.wpOp {i : Nat} {o : Oper} {v : Value} {a : Act} (hi : ops[i]? = some o) (hy : LF P ops S o v a)
  {K : Act → World → Prop} {w : World} {l : Array Bool} (hS : S l a w) (h : ∀ w',S l a w' → K (a.put o.dst v) w') : wpOp P ops Q i K a w:=by
 rcases hy with ⟨hw,hv⟩ | ⟨hw,rfl⟩
 ·exact Ij.wpOp (S:=S l a) hi (.inl ⟨hw,fun w hS => hv l a w hS⟩) hS h
 ·exact Ij.wpOp (S:=S l a) hi (.inr ⟨hw,rfl⟩) hS h
theorem LF.of_same {o : Oper} {v : Value} {a a' : Act} (hy : LF P ops S o v a) (he : execOp a'.eval o = execOp a.eval o)
  (hw : Region.wanted o (yielded ops a'.tmps) = Region.wanted o (yielded ops a.tmps)) : LF P ops S o v a':=by
 unfold LF at *
 rw [he,hw]
 exact hy
theorem Oh {j : Nat} {oi oj : Oper} {v : Value} (hj : ops[j]? = some oj) (hap : oi.apart ops oj = true)
  (hsi : ∀ cs b,oi.op ≠ .select cs b) (hsj : ∀ cs b,oj.op ≠ .select cs b)
  (hQ : ∀ c a w,Q (.panic c) (a.put oi.dst v) w → Q (.panic c) a w) {K : Act → World → Prop} {a : Act} {w : World}
  (hy : LF P ops S oi v a) (h : wpOp P ops Q j K (a.put oi.dst v) w) :
  wpOp P ops Q j (fun a' w' => LF P ops S oi v a' ∧ K (a'.put oi.dst v) w') a w:=by
 obtain ⟨h1,h2,h3⟩:=Oper.apart_spec hap
 have keep : ∀ (a : Act),LF P ops S oi v a → ∀ u,LF P ops S oi v (a.put oj.dst u):=fun a hy u =>
  hy.of_same (execOp_put oi hsi a oj.dst u h3) (wanted_put oi a oj.dst u h3)
 have keepD : ∀ d,LF P ops S oi v { a with defers:=d :: a.defers }:=fun d => hy.of_same rfl rfl
 unfold wpOp at *
 simp only [hj] at *
 rw [wanted_put oj a oi.dst v h1] at h
 split
 ·rename_i hw
  simp only [hw,if_true] at h
  rcases h with h | ⟨hasks,hlets⟩
  case inr => exact .inr ⟨by unfold Oper.asks at *;rw [execOp_put oj hsj a oi.dst v h1] at hasks;exact hasks,hlets⟩
  refine .inl ?_
  unfold Oper.wp at *
  rw [execOp_put oj hsj a oi.dst v h1] at h
  generalize (execOp a.eval oj).run P w = r at *
  cases r with
  | ok n w' =>
   cases n <;> simp only [Oper.upon] at h ⊢
   case value u => exact ⟨keep a hy u,by rw [← Act.put_comm a v u h2];exact h⟩
   case skip => exact ⟨keep a hy _,by rw [← Act.put_comm a v undef h2];exact h⟩
   case defer d =>
    refine ⟨keep _ (keepD d) _,?_⟩
    rw [← Act.put_comm _ v undef h2, ← Act.put_defers]
    exact h
   case enter f args =>
    refine Calls.mono h fun e w'' he => ?_
    cases e with
    | returned u => exact ⟨keep a hy u,by rw [← Act.put_comm a v u h2];exact he⟩
    | panicked c => exact hQ _ _ _ he
    | outgrown => exact he
   case row row args => exact Rows.mono h fun u w'' he => ⟨keep a hy u,by rw [← Act.put_comm a v u h2];exact he⟩
  | halt x w' =>
   cases x <;> simp only [Oper.upon] at h ⊢
   case panic u => exact hQ _ _ _ h
 ·rename_i hw
  simp only [hw] at h
  exact ⟨keep a hy _,by rw [← Act.put_comm a v undef h2];exact h⟩
def Kz (P : Program) (md : Region.Mode) (ops : Array Oper) (Q : Exit → Act → World → Prop) (S : Array Bool → Act → World → Prop) (m : Nat) : Nat → Array Bool → Act → Prop
 | 0,listed,a => Region.ready md ops listed = [] ∧ ∀ w,S listed a w → Q .normal a w
 | fuel + 1,listed,a =>
  (Region.ready md ops listed = [] → ∀ w,S listed a w → Q .normal a w) ∧
  ∀ i ∈ Region.ready md ops listed, ∀ w,S listed a w → wpOp P ops Q i (fun a' w' => (S (listed.setIfInBounds i true) a' w' ∧ Kz P md ops Q S m fuel (listed.setIfInBounds i true) a') ∨ (m ≤ i ∧ wpAny P md ops Q fuel (listed.setIfInBounds i true) a' w')) a w
theorem MV : ∀ (fuel : Nat) (listed : Array Bool) (a : Act) (w : World),S listed a w → Kz P md ops Q S m fuel listed a → wpAny P md ops Q fuel listed a w
 | 0,_,_,w,hS,h => ⟨h.1,h.2 w hS⟩
 | fuel + 1,_,_,w,hS,h => ⟨fun hr => h.1 hr w hS,fun i hi => wpOp_mono (fun a' w' h' => h'.elim (fun h' => MV fuel _ a' w' h'.1 h'.2) (fun h' => h'.2)) (h.2 i hi w hS)⟩
def Tail (md : Region.Mode) (ops : Array Oper) (m : Nat) : Prop := ∀ (listed : Array Bool) j,m ≤ j → j ∈ Region.ready md ops listed → ∀ i,i ∈ Region.ready md ops listed → i < m → False
theorem OO {i : Nat} {oi : Oper} {v : Value} (hm : Tail md ops m) (him : i < m) (hi : ops[i]? = some oi) (hk : Keeps S i oi.dst) (hsel : ∀ (j : Nat) (o : Oper) cs b,ops[j]? = some o → o.op ≠ .select cs b)
  (hQ : ∀ c a w,Q (.panic c) (a.put oi.dst v) w → Q (.panic c) a w) :
  ∀ (fuel : Nat) (listed : Array Bool) (a : Act),
   (∀ j oj,ops[j]? = some oj → j ≠ i → listed.getD j true = false → (∀ e ∈ oj.after,Region.binds md e = true → e.on ≠ i) → oi.apart ops oj = true) →
   i ∈ Region.ready md ops listed → LF P ops S oi v a →
   Kz P md ops Q S m fuel (listed.setIfInBounds i true) (a.put oi.dst v) → Kz P md ops Q S m (fuel + 1) listed a:=by
 intro fuel
 induction fuel with
 | zero =>
  intro listed a _ hr hy H
  refine ⟨fun h => (by rw [h] at hr;cases hr),fun j hj w hS => ?_⟩
  by_cases hji : j = i
  ·subst hji;exact hy.wpOp hi hS (fun w' h' => .inl ⟨(hk _ a v w').2 h',H⟩)
  ·have:=ready_mono hj hji
   rw [H.1] at this
   cases this
 | succ fuel ih =>
  intro listed a hfree hr hy H
  refine ⟨fun h => (by rw [h] at hr;cases hr),fun j hj w hS => ?_⟩
  by_cases hji : j = i
  ·subst hji;exact hy.wpOp hi hS (fun w' h' => .inl ⟨(hk _ a v w').2 h',H⟩)
  ·have hjm : j < m:=Nat.lt_of_not_le fun e => hm listed j e hj i hr him
   have h1:=H.2 j (ready_mono hj hji) w ((hk _ a v w).2 hS)
   obtain ⟨hjun,oj,hoj,hall⟩:=mem_ready.1 hj
   have hnot : ∀ e ∈ oj.after,Region.binds md e = true → e.on ≠ i:=fun e he hb heq => by
    have h1:=hall e he hb
    have h0:=(mem_ready.1 hr).1
    rw [heq] at h1
    rcases Nat.lt_or_ge i listed.size with h' | h'
    ·simp [h'] at h0 h1;rw [h0] at h1;cases h1
    ·simp [Array.getElem?_eq_none h'] at h1
   have h2:=Oh hoj (hfree j oj hoj hji hjun hnot) (fun cs b => hsel i oi cs b hi) (fun cs b => hsel j oj cs b hoj) hQ hy h1
   have hfree' : ∀ k ok,ops[k]? = some ok → k ≠ i → (listed.setIfInBounds j true).getD k true = false →
     (∀ e ∈ ok.after,Region.binds md e = true → e.on ≠ i) → oi.apart ops ok = true:=fun k ok hk hki hun hno => by
    refine hfree k ok hk hki ?_ hno
    by_cases hjk : j = k
    ·subst hjk;exact hjun
    ·rw [getD_set_ne true hjk] at hun;exact hun
   refine wpOp_mono (fun a' w' h3 => ?_) h2
   rcases h3.2 with h4 | h4
   ·rw [Array.setIfInBounds_comm _ _ (Ne.symm hji)] at h4
    exact .inl ⟨(hk _ a' v w').1 h4.1,ih (listed.setIfInBounds j true) a' hfree' (ready_mono hr (Ne.symm hji)) h3.1 h4.2⟩
   ·exact absurd h4.1 (by omega)
def lsd (n : Nat) (done : List Nat) : Array Bool:=((List.range n).map fun j => done.contains j).toArray
theorem K9 (n : Nat) : lsd n [] = Array.replicate n false:=by
 apply Array.ext <;> simp [lsd]
theorem J7 (n i : Nat) (done : List Nat) : (lsd n done).setIfInBounds i true = lsd n (i :: done):=by
 apply Array.ext
 ·simp [lsd]
 ·intro j h1 h2
  simp [lsd] at h1
  by_cases e : i = j
  ·subst e;simp [lsd]
  ·simp [lsd,e,Ne.symm e]
theorem Bp {n i s : Nat} {p : Value → World → Prop} {a : Act} {w : World} : Sl i s p (lsd n []) a w:=fun h => by
 rw [K9] at h
 simp [Array.getD] at h
def IG (ops : Array Oper) (m : Nat) : Bool:=Region.noSelect ops && (List.range ops.size).all fun j => decide (j < m) || match ops[j]? with
 | none => true
 | some o => (List.range m).all fun i => o.after.any fun e => e.on == i && Region.binds .any e
theorem Nb {m : Nat} (h : IG ops m = true) : Tail .any ops m:=by
 intro listed j hmj hj i hi him
 obtain ⟨_,o,ho,hall⟩:=mem_ready.1 hj
 obtain ⟨hiu,oi,hoi,_⟩:=mem_ready.1 hi
 have hjl : j < ops.size:=(Array.getElem?_eq_some_iff.1 ho).1
 have h1:=List.all_eq_true.1 (Bool.and_eq_true_iff.1 h).2 j (by simpa using hjl)
 rw [ho] at h1
 simp only [Bool.or_eq_true,decide_eq_true_eq] at h1
 rcases h1 with h1 | h1
 ·omega
 have h1:=List.all_eq_true.1 h1 i (by simpa using him)
 obtain ⟨e0,he0,h2⟩:=Array.any_eq_true'.1 h1
 simp only [Bool.and_eq_true,beq_iff_eq] at h2
 have h3:=hall e0 he0 h2.2
 rw [h2.1] at h3
 rcases Nat.lt_or_ge i listed.size with h' | h'
 ·simp [h'] at hiu h3;rw [hiu] at h3;cases h3
 ·simp [Array.getElem?_eq_none h'] at h3
def Fj (ops : Array Oper) (m : Nat) (done : List Nat) (i : Nat) : Bool:=Region.free .any ops (lsd ops.size done) i && (Region.ready .any ops (lsd ops.size done)).contains i && decide (done.length < ops.size) && decide (i < m)
def M0 (ops : Array Oper) (done : List Nat) (i : Nat) : Bool:=(Region.ready .any ops (lsd ops.size done) == [i]) && decide (done.length < ops.size)
structure Reg (P : Program) (ops : Array Oper) (Q : Exit → Act → World → Prop) (S : Array Bool → Act → World → Prop) (m : Nat) (done : List Nat) (a : Act) : Prop where
 out : Kz P .any ops Q S m (ops.size - done.length) (lsd ops.size done) a
structure Tt (P : Program) (ops : Array Oper) (Q : Exit → Act → World → Prop) (done : List Nat) (a : Act) (w : World) : Prop where
 out : wpAny P .any ops Q (ops.size - done.length) (lsd ops.size done) a w
variable {i d : Nat} {o : Oper} {v : Value} {L : List Value} {D : List Deferred} {done : List Nat}
theorem Nh {a : Act} (ht : A7 (IG ops m = true)) (hi : ops.toList[i]? = some o) (hok : Fj ops m done i = true) (hk : Keeps S i o.dst)
  (hQ : ∀ c a w,Q (.panic c) (a.put o.dst v) w → Q (.panic c) a w) (he : LF P ops S o v a) (h : Reg P ops Q S m (i :: done) (a.put o.dst v)) : Reg P ops Q S m done a:=by
 refine ⟨?_⟩
 have hi' : ops[i]? = some o:=by rw [← Array.getElem?_toList];exact hi
 simp only [Fj,Bool.and_eq_true,decide_eq_true_eq] at hok
 obtain ⟨⟨⟨hf,hr⟩,hl⟩,hm⟩:=hok
 have hs:=(Bool.and_eq_true_iff.1 ht.out).1
 have h1:=h.out
 rw [List.length_cons, ← J7] at h1
 rw [show ops.size - done.length = (ops.size - (done.length + 1)) + 1 by omega]
 exact OO (Nb ht.out) hm hi' hk (Region.noSelect_spec hs) hQ _ _ a (Region.free_spec hi' hf) (by simpa using hr) he h1
theorem YE (ht : A7 (IG ops m = true)) (hi : ops.toList[i]? = some o) (hok : Fj ops m done i = true) (hd : o.dst = some d) (hk : Keeps S i (some d)) (hw : Region.wanted o (yielded ops L.toArray) = false)
  (hQ : ∀ c a w,Q (.panic c) (a.put o.dst undef) w → Q (.panic c) a w) (h : Reg P ops Q S m (i :: done) ⟨(L.set d undef).toArray,D⟩) : Reg P ops Q S m done ⟨L.toArray,D⟩:=
 Nh ht hi hok (hd ▸ hk) hQ (.inr ⟨hw,rfl⟩) (by rw [hd,Ck];exact h)
theorem CZ (ht : A7 (IG ops m = true)) (hi : ops.toList[i]? = some o) (hok : Fj ops m done i = true) (hd : o.dst = some d) (hk : Keeps S i (some d)) (hw : Region.wanted o (yielded ops L.toArray) = true)
  (hQ : ∀ c a w,Q (.panic c) (a.put o.dst v) w → Q (.panic c) a w) (hr : ∀ l a w,S l a w → (execOp (Act.eval ⟨L.toArray,D⟩) o).run P w = .ok (.value v) w) (h : Reg P ops Q S m (i :: done) ⟨(L.set d v).toArray,D⟩) : Reg P ops Q S m done ⟨L.toArray,D⟩:=
 Nh ht hi hok (hd ▸ hk) hQ (.inl ⟨hw,fun l a w hS => by rw [hr l a w hS];exact ⟨rfl,hS⟩⟩) (by rw [hd,Ck];exact h)
def Uo (_ : List Nat) (p : Prop) : Prop:=p
theorem Bw (is : List Nat) {p : Prop} (h : Uo is p) : p:=h
theorem Bv {p : Prop} (h : p) : Uo [] p:=h
theorem Bq {is : List Nat} (ht : A7 (IG ops m = true)) (hi : ops.toList[i]? = some o) (hok : Fj ops m done i = true) (hd : o.dst = some d) (hk : Keeps S i (some d)) (hw : Region.wanted o (yielded ops L.toArray) = true)
  (hQ : ∀ c a w,Q (.panic c) (a.put o.dst v) w → Q (.panic c) a w) (hr : ∀ l a w,S l a w → (execOp (Act.eval ⟨L.toArray,D⟩) o).run P w = .ok (.value v) w) (h : Uo is (Reg P ops Q S m (i :: done) ⟨(L.set d v).toArray,D⟩)) : Uo (i :: is) (Reg P ops Q S m done ⟨L.toArray,D⟩):=
 CZ ht hi hok hd hk hw hQ hr h
theorem Q6 {f : FuncId} {fn : Func} {xs : Array Operand} {ts : Array TypeId} {args : Array Value} {a : Act} (hop : o.op = .call { callee:=.value (.func f),args:=xs,argTypes:=ts }) (hf : P.funcs[f]? = some fn) (hname : (fn.name == "runtime.NumGoroutine") = false) (hb : fn.body.isSome = true)
    (hargs : xs.map a.eval = args) (w : World) : (execOp a.eval o).run P w = .ok (.enter f args) w:=by
  have he:=Ta hf hname hb args w
  have hv : a.eval (.func f) = .func (.func f) #[] #[]:=rfl
  unfold execOp
  simp [hop,resolve,Deferred.ofValue,invoke,hv,hargs,he]
theorem JH {f : FuncId} {fn : Func} {xs : Array Operand} {ts : Array TypeId} {args : Array Value} (ht : A7 (IG ops m = true)) (hi : ops.toList[i]? = some o) (hok : Fj ops m done i = true)
    (hop : o.op = .call { callee:=.value (.func f),args:=xs,argTypes:=ts }) (hf : P.funcs[f]? = some fn) (hname : (fn.name == "runtime.NumGoroutine") = false) (hb : fn.body.isSome = true) (hd : o.dst = some d) (hk : Keeps S i (some d)) (hw : Region.wanted o (yielded ops L.toArray) = true)
    (hQ : ∀ c a w,Q (.panic c) (a.put o.dst v) w → Q (.panic c) a w) (hargs : xs.map (Act.eval ⟨L.toArray,D⟩) = args)
    (hc : ∀ l a w,S l a w → Calls P f args w fun e w' => e = .returned v ∧ S l a w') (h : Reg P ops Q S m (i :: done) ⟨(L.set d v).toArray,D⟩) : Reg P ops Q S m done ⟨L.toArray,D⟩:=by
  refine Nh (v:=v) ht hi hok (hd ▸ hk) hQ (.inl ⟨hw,fun l a w hS => ?_⟩) (by rw [hd,Ck];exact h)
  rw [Q6 hop hf hname hb hargs]
  exact hc l a w hS
theorem Oi {f : FuncId} {fn : Func} {xs : Array Operand} {ts : Array TypeId} {args : Array Value} {a : Act} {w : World} {K : Act → World → Prop} (hi : ops[i]? = some o)
    (hop : o.op = .call { callee:=.value (.func f),args:=xs,argTypes:=ts }) (hf : P.funcs[f]? = some fn) (hname : (fn.name == "runtime.NumGoroutine") = false) (hb : fn.body.isSome = true) (hw : Region.wanted o (yielded ops a.tmps) = true)
    (hargs : xs.map a.eval = args) (hc : Calls P f args w fun e w' => ∃ v,e = .returned v ∧ K (a.put o.dst v) w') : wpOp P ops Q i K a w:=by
  unfold Go.wpOp
  simp only [hi,hw,if_true]
  refine .inl ?_
  unfold Oper.wp
  rw [Q6 hop hf hname hb hargs]
  exact Calls.mono hc fun e w' ⟨v,he,h⟩ => by subst he;exact h
theorem BH {a : Act} {w w1 : World} {K : Act → World → Prop} (hi : ops.toList[i]? = some o) (hw : Region.wanted o (yielded ops a.tmps) = true) (hr : (execOp a.eval o).run P w = .ok .skip w1) (h : K (a.put o.dst undef) w1) : wpOp P ops Q i K a w:=by
 have hi' : ops[i]? = some o:=by rw [← Array.getElem?_toList];exact hi
 unfold Go.wpOp
 simp only [hi',hw,if_true]
 refine .inl ?_
 unfold Oper.wp
 rw [hr]
 exact h
theorem Cr {f : FuncId} {fn : Func} {xs : Array Operand} {ts : Array TypeId} {args : Array Value} (G : Value → Prop) (hi : ops.toList[i]? = some o) (hok : M0 ops done i = true)
    (hop : o.op = .call { callee:=.value (.func f),args:=xs,argTypes:=ts }) (hf : P.funcs[f]? = some fn) (hname : (fn.name == "runtime.NumGoroutine") = false) (hb : fn.body.isSome = true) (hd : o.dst = some d) (hw : Region.wanted o (yielded ops L.toArray) = true)
    (hargs : xs.map (Act.eval ⟨L.toArray,D⟩) = args)
    (hc : ∀ w,S (lsd ops.size done) ⟨L.toArray,D⟩ w → Calls P f args w fun e w' => ∃ v,e = .returned v ∧ G v ∧ S (lsd ops.size (i :: done)) ⟨(L.set d v).toArray,D⟩ w') (h : ∀ v,G v → Reg P ops Q S m (i :: done) ⟨(L.set d v).toArray,D⟩) : Reg P ops Q S m done ⟨L.toArray,D⟩:=by
  refine ⟨?_⟩
  have hi' : ops[i]? = some o:=by rw [← Array.getElem?_toList];exact hi
  simp only [M0,Bool.and_eq_true,decide_eq_true_eq,beq_iff_eq] at hok
  rw [show ops.size - done.length = (ops.size - (done.length + 1)) + 1 by omega]
  refine ⟨fun h0 => (by rw [hok.1] at h0;cases h0),fun j hj w hS => ?_⟩
  rw [hok.1,List.mem_singleton] at hj
  subst hj
  refine Oi hi' hop hf hname hb hw hargs ((hc w hS).mono fun e w' ⟨v,he,hg,hS'⟩ => ⟨v,he, .inl ?_⟩)
  rw [hd,Ck,J7]
  exact ⟨hS',(h v hg).out⟩
theorem Hl {a : Act} {w w1 : World} {K : Act → World → Prop} (v : Value) (hi : ops.toList[i]? = some o) (hw : Region.wanted o (yielded ops a.tmps) = true) (hr : (execOp a.eval o).run P w = .ok (.value v) w1) (h : K (a.put o.dst v) w1) : wpOp P ops Q i K a w:=by
 have hi' : ops[i]? = some o:=by rw [← Array.getElem?_toList];exact hi
 unfold Go.wpOp
 simp only [hi',hw,if_true]
 refine .inl ?_
 unfold Oper.wp
 rw [hr]
 exact h
theorem BG {w w1 : World} {K : Act → World → Prop} (v : Value) (hi : ops.toList[i]? = some o) (hd : o.dst = some d) (hw : Region.wanted o (yielded ops L.toArray) = true) (hr : (execOp (Act.eval ⟨L.toArray,D⟩) o).run P w = .ok (.value v) w1) (h : K ⟨(L.set d v).toArray,D⟩ w1) : wpOp P ops Q i K ⟨L.toArray,D⟩ w:=
 Hl v hi hw hr (by rw [hd,Ck];exact h)
theorem Cz {f : FuncId} {fn : Func} {xs : Array Operand} {ts : Array TypeId} {args : Array Value} {w : World} {K : Act → World → Prop} (hi : ops.toList[i]? = some o)
    (hop : o.op = .call { callee:=.value (.func f),args:=xs,argTypes:=ts }) (hf : P.funcs[f]? = some fn) (hname : (fn.name == "runtime.NumGoroutine") = false) (hb : fn.body.isSome = true) (hd : o.dst = some d) (hw : Region.wanted o (yielded ops L.toArray) = true)
    (hargs : xs.map (Act.eval ⟨L.toArray,D⟩) = args) (hc : Calls P f args w fun e w' => ∃ v,e = .returned v ∧ K ⟨(L.set d v).toArray,D⟩ w') : wpOp P ops Q i K ⟨L.toArray,D⟩ w:=by
  have hi' : ops[i]? = some o:=by rw [← Array.getElem?_toList];exact hi
  refine Oi hi' hop hf hname hb hw hargs (hc.mono fun e w' ⟨v,he,h⟩ => ⟨v,he,?_⟩)
  rw [hd,Ck]
  exact h
theorem AJ {a : Act} (l : List Nat) (hok : (Region.ready .any ops (lsd ops.size done) == l && !l.isEmpty && decide (done.length < ops.size)) = true) (h : ∀ i ∈ l, ∀ w,S (lsd ops.size done) a w → wpOp P ops Q i (fun a' w' => S (lsd ops.size (i :: done)) a' w' ∧ Reg P ops Q S m (i :: done) a') a w) : Reg P ops Q S m done a:=by
 refine ⟨?_⟩
 simp only [Bool.and_eq_true,decide_eq_true_eq,beq_iff_eq,Bool.not_eq_true'] at hok
 rw [show ops.size - done.length = (ops.size - (done.length + 1)) + 1 by omega]
 refine ⟨fun h0 => (by rw [hok.1.1] at h0;rw [h0] at hok;simp at hok),fun j hj w hS => ?_⟩
 rw [hok.1.1] at hj
 refine wpOp_mono (fun a' w' h' => .inl ?_) (h j hj w hS)
 rw [J7]
 exact ⟨h'.1,h'.2.out⟩
theorem Cb {a : Act} (hok : M0 ops done i = true) (hm : decide (m ≤ i) = true) (h : ∀ w,S (lsd ops.size done) a w → wpOp P ops Q i (fun a' w' => Tt P ops Q (i :: done) a' w') a w) : Reg P ops Q S m done a:=by
 refine ⟨?_⟩
 simp only [M0,Bool.and_eq_true,decide_eq_true_eq,beq_iff_eq] at hok hm
 rw [show ops.size - done.length = (ops.size - (done.length + 1)) + 1 by omega]
 refine ⟨fun h0 => (by rw [hok.1] at h0;cases h0),fun j hj w hS => ?_⟩
 rw [hok.1,List.mem_singleton] at hj
 subst hj
 refine wpOp_mono (fun a' w' h' => .inr ⟨hm,?_⟩) (h w hS)
 rw [J7]
 exact h'.out
theorem KF {a : Act} {w : World} (hok : M0 ops done i = true) (h : wpOp P ops Q i (fun a' w' => Tt P ops Q (i :: done) a' w') a w) : Tt P ops Q done a w:=by
 refine ⟨?_⟩
 simp only [M0,Bool.and_eq_true,decide_eq_true_eq,beq_iff_eq] at hok
 rw [show ops.size - done.length = (ops.size - (done.length + 1)) + 1 by omega]
 refine ⟨fun h0 => (by rw [hok.1] at h0;cases h0),fun j hj => ?_⟩
 rw [hok.1,List.mem_singleton] at hj
 subst hj
 refine wpOp_mono (fun a' w' h' => ?_) h
 rw [J7]
 exact h'.out
def WT (ops : Array Oper) (done : List Nat) : Bool:=Region.ready .any ops (lsd ops.size done) == []
theorem BM {a : Act} {w : World} (hok : WT ops done = true) (h : Q .normal a w) : Tt P ops Q done a w:=by
 refine ⟨?_⟩
 have hr:=beq_iff_eq.1 hok
 generalize ops.size - done.length = n
 cases n with
 | zero => exact ⟨hr,h⟩
 | succ n => exact ⟨fun _ => h,fun i hi => by rw [hr] at hi;cases hi⟩
theorem Bo {id : Nat} {a : Act} {w : World} (S : Array Bool → Act → World → Prop) (m : Nat) (hm : P.follows .mixedOrders = true) (ht : IG ops m = true) (hS : S (lsd ops.size []) a w.drew)
  (h : A7 (IG ops m = true) → Reg P ops Q S m [] a) : (Code.region id ops true).wp P Q a w:=by
 have h1:=(h ⟨ht⟩).out
 rw [K9] at h1 hS
 exact wp_region_any hm (MV _ _ _ _ hS h1)
end
end Go.Proofs.YtjeodgfkilhkhaaGreat
namespace Go.Proofs.YtjeodgfkilhkhaaGreat
open Go.RowKit Go.Proofs.YtjeodgfkilhkhaaGreatW.PrintWords Go.Proofs.YtjeodgfkilhkhaaGreatW.PrintLast Go.Proofs.YtjeodgfkilhkhaaGreatW.PrintMore
abbrev Page.own (p : Page) (v : Value) : Value:=.agg #[.int .i64 p.lsn, .int .i64 p.owner,v]
def Oc (w : World) (p : Page) (e : Ending) (w' : World) : Prop := ∃ v,e = .returned (p.own v) ∧ AA w' w.heap.size v p.vals ∧ Below w.heap.size w w'
abbrev CX : Obj:=.cells #[.int .i64 0, .int .i64 0, .slice none 0 0] 47
theorem Wu (w : World) (p : Page) (A : Option Addr) (c : Nat) : GL ((w.alloc (p.box A c)).alloc CX) ⟨w.heap.size,0,none⟩ p A c:=(Sc w p A c).up ((Below.refl _ _).alloc (Nat.le_refl _) _)
def AU (w : World) (g : Nat) (p : Page) (v : Value) : Prop:=w.heap[g]? = some (.cells #[.int .i64 p.lsn, .int .i64 p.owner,v] 47 (0,0))
theorem AU.c0 {w : World} {g : Nat} {p : Page} {v : Value} (h : AU w g p v) : w.cell? ⟨g,0,none⟩ = some (.int .i64 p.lsn):=by unfold AU at h;simp [World.cell?,h]
theorem AU.c1 {w : World} {g : Nat} {p : Page} {v : Value} (h : AU w g p v) : w.cell? ⟨g,1,none⟩ = some (.int .i64 p.owner):=by unfold AU at h;simp [World.cell?,h]
theorem AU.c2 {w : World} {g : Nat} {p : Page} {v : Value} (h : AU w g p v) : w.cell? ⟨g,2,none⟩ = some v:=by unfold AU at h;simp [World.cell?,h]
theorem AU.frz {w : World} {g : Nat} {p : Page} {v : Value} (h : AU w g p v) (k : Nat) : w.frozen? ⟨g,k,none⟩ = false:=by unfold AU at h;simp [World.frozen?,h]
theorem AU.up {w w1 : World} {g : Nat} {p : Page} {v : Value} (h : AU w g p v) (hb : Below w.heap.size w w1) : AU w1 g p v:=by
 have hg : g < w.heap.size:=(Array.getElem?_eq_some_iff.1 h).1
 exact (hb.block g hg).trans h
theorem AU.mk1 (w : World) (p : Page) (v : Value) : AU (w.alloc (.cells #[.int .i64 p.lsn, .int .i64 p.owner,v] 47)) w.heap.size p v:=by
 show (w.heap.push _)[w.heap.size]? = _
 simp
theorem heap_setCell_same {w : World} {g j : Nat} {cs : Array Value} {t : TypeId} {f : Nat × Nat} (h : w.heap[g]? = some (.cells cs t f)) (u : Value) : (w.setCell ⟨g,j,none⟩ u).heap[g]? = some (.cells (cs.setIfInBounds j u) t f):=by
 simp only [World.setCell,Array.getElem?_modify,h]
 simp
theorem AU.set0 {w : World} {g : Nat} {p : Page} {v : Value} (h : AU w g p v) (x : Int) : AU (w.setCell ⟨g,0,none⟩ (.int .i64 x)) g ⟨x,p.owner,p.vals⟩ v:=heap_setCell_same h _
theorem AU.set1 {w : World} {g : Nat} {p : Page} {v : Value} (h : AU w g p v) (x : Int) : AU (w.setCell ⟨g,1,none⟩ (.int .i64 x)) g ⟨p.lsn,x,p.vals⟩ v:=heap_setCell_same h _
theorem AU.set2 {w : World} {g : Nat} {p : Page} {v : Value} (h : AU w g p v) (x : Value) : AU (w.setCell ⟨g,2,none⟩ x) g p x:=heap_setCell_same h _
def zp : Page:=⟨0,0, []⟩
theorem R3 (w : World) (p : Page) (A : Option Addr) (c : Nat) : AU ((w.alloc (p.box A c)).alloc CX) (w.heap.size + 1) zp (.slice none 0 0):=by
 have:=AU.mk1 (w.alloc (p.box A c)) zp (.slice none 0 0)
 rwa [show (w.alloc (p.box A c)).heap.size = w.heap.size + 1 by simp] at this
theorem AA.set {w : World} {b g : Nat} {v : Value} {xs : List Int} (h : AA w b v xs) (hg : g < b) (u : Value) (j : Nat) : AA (w.setCell ⟨g,j,none⟩ u) b v xs:=ownsRow_setCell_below h hg u
abbrev CK (w : World) (g : Nat) (p : Page) (v : Value) : World:=((w.setCell ⟨g,0,none⟩ (.int .i64 p.lsn)).setCell ⟨g,1,none⟩ (.int .i64 p.owner)).setCell ⟨g,2,none⟩ v
theorem AU.CK {w : World} {g : Nat} {q : Page} {u : Value} (h : AU w g q u) (p : Page) (v : Value) : AU (CK w g p v) g p v:=((h.set0 p.lsn).set1 p.owner).set2 v
theorem AA.CK {w : World} {b g : Nat} {v : Value} {xs : List Int} (h : AA w b v xs) (hg : g < b) (p : Page) (u : Value) : AA (CK w g p u) b v xs:=((h.set hg _ _).set hg _ _).set hg _ _
theorem CR {w0 w : World} {g : Nat} (h : Below w0.heap.size w0 w) (hg : w0.heap.size ≤ g) (p : Page) (u : Value) : Below w0.heap.size w0 (CK w g p u):=((h.setCell (p:=⟨g,0,none⟩) hg _).setCell (p:=⟨g,1,none⟩) hg _).setCell (p:=⟨g,2,none⟩) hg _
theorem YA (w : World) (p : Page) (A : Option Addr) (c : Nat) : w.heap.size + 2 ≤ ((w.alloc (p.box A c)).alloc CX).drew.heap.size:=by simp
theorem QZ (w : World) (p : Page) (A : Option Addr) (c : Nat) : Below w.heap.size w ((w.alloc (p.box A c)).alloc CX):=bj (Lx w p A c) ((Below.refl _ _).alloc (Nat.le_refl _) _)
set_option maxRecDepth 100000 in
set_option maxHeartbeats 4000000 in
theorem FX {w0 w : World} {A : Option Addr} {c : Nat} {p : Page} (hl : p.vals.length ≤ 17592186044416) (hb : Below w0.heap.size w0 w) (hr : Kd.C (Kd.int .i64) w0 A p.vals.length p.vals) : Calls Tryz.prog 69 #[p.val A c] w (Oc w p):=by
 have HR:=As (BF hr hb)
 have HL:=As hl
 have HA:=As (Wu w p A c)
 have HB:=As (QZ w p A c)
 have HA2:=As (R3 w p A c)
 clear hr hb hl
 go_enter Tryz.func69,Tryz.ntmps69
 go_wp2
 refine Bo (fun lx a wx => (Below w.heap.size w wx ∧ w.heap.size + 2 ≤ wx.heap.size ∧ GL wx ⟨w.heap.size,0,none⟩ p A c ∧ AU wx (w.heap.size + 1) zp (.slice none 0 0)) ∧ Sl 6 9 (fun v wx => AA wx (w.heap.size + 2) v p.vals) lx a wx) 8 rfl (by kernel_rfl) (⟨⟨Ac HB.out,YA w p A c,HA.out.up (Ac (Below.refl _ _)),HA2.out.up (Ac (Below.refl _ _))⟩,Bp⟩) (fun HT => ?_)
 refine Bw [0,1,2,3,4,5] ?_
 iterate 6 (refine Bq (v:=?_) HT rfl (by kernel_rfl) rfl (kA Ah (Ak rfl rfl)) (by rfl) (fun _ _ _ h => h) (fun lx ax wx hS => ?_) ?_;rotate_left;(obtain ⟨⟨-, -,⟨x0,x1,x2⟩, -⟩, -⟩:=hS;go_simp;with_reducible rfl);rotate_left;simp only [sc0,sc1])
 refine Bv ?_
 refine Cr (i:=6) (f:=105) (args:=#[.slice A p.vals.length c]) (fun v => ∃ A1 c1,v = .slice A1 p.vals.length c1) rfl (by kernel_rfl) rfl Tryz.func105 (by kernel_rfl) rfl rfl (by rfl) (by simp only [List.map_toArray,List.map_cons,List.map_nil];rfl) (fun wx hS => (QY HL.out hS.1.1 HR.out).mono (by rintro e w1 ⟨v,rfl,ho,hb⟩;obtain ⟨A1,c1,rfl, -, -⟩:=ho.reads;exact ⟨_,rfl,⟨A1,c1,rfl⟩,⟨bj hS.1.1 hb,by have:=hS.1.2.1;have:=hb.size;omega,hS.1.2.2.1.up hb,hS.1.2.2.2.up hb⟩,fun _ => ho.lower hS.1.2.1⟩)) (fun vx hg => ?_);simp only [sc0,sc1]
 obtain ⟨A1,c1,rfl⟩:=hg
 refine CZ (i:=7) (v:=?_) HT rfl (by kernel_rfl) rfl (kA Ah (Ak rfl rfl)) (by rfl) (fun _ _ _ h => h) (fun lx ax wx hS => ?_) ?_;rotate_left;(go_simp;with_reducible rfl);rotate_left;simp only [sc0,sc1]
 refine Cb (i:=8) (by kernel_rfl) rfl (fun wx hS => ?_)
 obtain ⟨⟨h1,h2, -,hy⟩,hs⟩:=hS
 have ho : AA wx (w.heap.size + 2) (.slice A1 p.vals.length c1) p.vals:=hs (by kernel_rfl)
 clear hs
 have y0:=hy.c0
 have y1:=hy.c1
 have y2:=hy.c2
 have f0:=hy.frz 0
 have f1:=hy.frz 1
 have f2:=hy.frz 2
 refine BH (w1:=?_) rfl (by rfl) ?_ ?_
 rotate_left
 ·go_simp
  with_reducible rfl
 have hy2:=((hy.set0 p.lsn).set1 p.owner).set2 (.slice A1 p.vals.length c1)
 have ho2:=(((ho.set (g:=w.heap.size + 1) (by omega) (Value.int .i64 p.lsn) 0).set (g:=w.heap.size + 1) (by omega) (Value.int .i64 p.owner) 1).set (g:=w.heap.size + 1) (by omega) (.slice A1 p.vals.length c1) 2)
 have h3:=((h1.setCell (p:=⟨w.heap.size + 1,0,none⟩) (by simp) (Value.int .i64 p.lsn)).setCell (p:=⟨w.heap.size + 1,1,none⟩) (by simp) (Value.int .i64 p.owner)).setCell (p:=⟨w.heap.size + 1,2,none⟩) (by simp) (.slice A1 p.vals.length c1)
 have z0:=hy2.c0
 have z1:=hy2.c1
 have z2:=hy2.c2
 refine BM (by kernel_rfl) ?_
 go_wp2
 exact bodyPost_ret (v:=p.own (.slice A1 p.vals.length c1)) (by simp [results,Tryz.results69,go_sem,z0,z1,z2]) rfl ⟨_,rfl,ho2.lower (by omega),h3⟩
abbrev Ii (w : World) (base : Nat) (v : Value) (ps : List Page) : Prop:=Kd.R CJ 47 w base (fun _ => True) v ps
abbrev Ci (w : World) (base : Nat) (ok : Nat → Prop) (v : Value) (ps : List Page) : Prop:=Kd.S CJ 47 w base ok v ps
abbrev F3 (w : World) (base : Nat) (v : Value) (ps : List Page) : Prop:=Ci w base (fun _ => True) v ps
def NQ (w : World) (ps : List Page) (e : Ending) (w' : World) : Prop := ∃ v,e = .returned v ∧ F3 w' w.heap.size v ps ∧ Below w.heap.size w w'
theorem Ua : (Tryz.prog.info? 47).map (fun i => (i.zero,i.size,i.bytes)) = some (some (.agg #[.int .i64 0, .int .i64 0, .slice none 0 0]),3,40):=by kernel_rfl
theorem PX : Tryz.prog.underlying 23 = some (.slice 47):=Tryz.underlying23
theorem SI {xs : List Page} {k : Nat} (h : k < xs.length) : xs.drop k = pg xs k :: xs.drop (k + 1):=by
 rw [List.drop_eq_getElem_cons h]
 simp [pg,List.getD_eq_getElem?_getD,h]
theorem SH {xs : List Page} {k : Nat} (h : k < xs.length) : xs.take (k + 1) = xs.take k ++ [pg xs k]:=by
 rw [List.take_add_one]
 simp [pg,List.getD_eq_getElem?_getD,h]
theorem YG {w : World} {base : Nat} {v : Value} {ps : List Page} (h : Ii w base v ps) : ∀ k,v.ownBlock = some k → k < w.heap.size:=by
 obtain ⟨inner,ho⟩:=Kd.FZ h
 exact fun k hk => Np ho k hk
theorem Xv {w : World} {base : Nat} {ok : Nat → Prop} {v : Value} {ps : List Page} (h : Ci w base ok v ps) : ∀ k,v.ownBlock = some k → k < w.heap.size:=Kd.Zk h
theorem Kr {w : World} {base : Nat} {ok : Nat → Prop} {v : Value} {ps : List Page} (h : Ci w base ok v ps) : ∀ k,v.ownBlock = some k → ok k:=by
 obtain ⟨f,h0,_⟩:=h
 exact h0
section
variable {ops : Array Oper} {rest : List Oper} {o : Oper} {a : Act} {Q : Exit → Act → World → Prop}
theorem Ji {w0 W : World} {N : Nat} {v u : Value} {ps : List Page} {p : Page} (hgd : o.guard = none) (s x : Operand)
  (ho : o.op = .call { callee:=.builtin .append,args:=#[s,x],argTypes:=#[23,23] }) (hs : a.eval s = v) (hx : a.eval x = .slice (some ⟨W.heap.size,0,none⟩) 1 1)
  (hp : AA W N u p.vals) (HO : Ci W w0.heap.size (fun k => True ∧ k < N) v ps) (HB : Below w0.heap.size w0 W) (hl : ps.length + 1 ≤ 1000) (hN : w0.heap.size ≤ N)
  (h : ∀ v1 w1,F3 w1 w0.heap.size v1 (ps ++ [p]) → Below w0.heap.size w0 w1 → wpList Tryz.prog ops Q rest (a.put o.dst v1) w1) :
  wpList Tryz.prog ops Q (o :: rest) a (W.alloc (.cells #[.int .i64 p.lsn, .int .i64 p.owner,u] 47)):=by
 have hv:=Kr HO
 refine Kd.R9 CJ w0.heap.size hgd s x 23 47 _ 40 ho PX Ua rfl (by decide) (by decide) v ps p [.int .i64 p.lsn, .int .i64 p.owner,u] (fun _ => True) (fun k => some k = u.ownBlock) hs hx ?_ (fun k hk => ⟨trivial,fun e => ?_⟩) (fun _ _ => trivial) (Kd.Dt HO (fun k hk => ⟨trivial,fun e => ?_⟩)) HB HB.size (by omega) (fun v1 w1 h1 h2 _ _ => h v1 w1 h1 h2)
 ·exact FH W _ _ p (Kd.EN (DI hp hN) (fun k hk => hk.symm))
 ·have h1:=BN hp k hk.symm
  have h2:=(hv k e.symm).2
  omega
 ·have h1:=BN hp k e.symm
  have h2:=hk.2
  omega
end
def MP (ps : List Page) : Prop := ∀ p ∈ ps,p.vals.length ≤ 17592186044416
theorem Vb {ps : List Page} (h : MP ps) {k : Nat} (hk : k < ps.length) : (pg ps k).vals.length ≤ 17592186044416:=h _ (by simp [pg,List.getD_eq_getElem?_getD,hk])
set_option maxHeartbeats 4000000 in
theorem EW {w0 w : World} {A : Option Addr} {c : Nat} {ps : List Page} (hf : MP ps) (hn : ps.length ≤ 150) (hb : Below w0.heap.size w0 w) (hr : Kd.C CJ w0 A ps.length ps) : Calls Tryz.prog 36 #[.slice A ps.length c] w (NQ w ps):=by
 have HR:=As (BF hr hb)
 have HF:=As hf
 clear hr hb hf
 go_enter Tryz.func36,Tryz.ntmps36
 go_wp2
 go_loopw [3,8] (fun v i wr => ∃ k : Nat,k ≤ ps.length ∧ i = .int .i64 (k : Int) ∧ A7 (F3 wr w.heap.size v (ps.take k)) ∧ A7 (Below w.heap.size w wr)) (fun _ i _ => (ps.length - intOf i).toNat)
 case atStart => exact ⟨0,Nat.zero_le _,rfl,⟨Kd.Vn _ _ _ _ _⟩,⟨Below.refl _ _⟩⟩
 case round =>
  obtain ⟨k,hk,rfl,HO,HW⟩:=hrel
  have hm : ps.length ≤ 9223372036854775807:=(CY HR.out).2
  by_cases hlt : k < ps.length
  ·obtain ⟨ad,A2,c2,rfl,QP, -,g2⟩:=DT (BF HR.out HW.out) k hlt
   obtain ⟨x0,x1,x2⟩:=QP
   have HG:=As g2
   have HFk:=As (Vb HF.out hlt)
   have HN:=As hn
   clear g2 hn
   go_wp2_with (first | (go_at_call 69;refine (FX (w0:=wr) HFk.out (by go_grown) HG.out).mono ?_;rintro e w2 ⟨v,rfl,ho,hb2⟩;have HOv:=As (ho.lower (b':=wr.heap.size) (by simp));have HW2:=As (bj ((Below.refl _ wr).alloc (Nat.le_refl _) _) hb2);have HO2:=As (Kd.Fe HO.out HW2.out);clear ho hb2) | (at_builtin;refine Ji (p:=pg ps k) rfl (.tmp 12) (.tmp 15) rfl rfl rfl HOv.out HO2.out (bj HW.out HW2.out) (by have:=HN.out;simp;omega) HW.out.size ?_;intro v1 w3 hR hb3;have HR3:=As hR;have HW3:=As hb3;clear hR hb3))
   go_roundw
   case rel => exact ⟨k + 1,by omega,by go_num,⟨by rw [SH hlt];exact HR3.out⟩,HW3⟩
   case measure => simp [intOf];omega
  ·have HE:=As (show k = ps.length by omega)
   go_wp2
   go_ret
   exact ⟨_,rfl,by have:=HO.out;rwa [HE.out,List.take_length] at this,HW.out⟩
end Go.Proofs.YtjeodgfkilhkhaaGreat
namespace Go.Proofs.YtjeodgfkilhkhaaGreat
open Go.RowKit Go.Proofs.YtjeodgfkilhkhaaGreatW.PrintWords Go.Proofs.YtjeodgfkilhkhaaGreatW.PrintLast Go.Proofs.YtjeodgfkilhkhaaGreatW.PrintMore
theorem UK (W : World) (base : Nat) (e : TypeId) (size : Nat) (hb : base ≤ W.heap.size) : (W.alloc (.cells #[] e)).ownsRow base e size (.slice (some ⟨W.heap.size,0,none⟩) 0 0) 0 []:=by
 refine ⟨by simp, .inr ⟨W.heap.size,0,#[],rfl,hb,?_,?_⟩⟩
 ·show (W.heap.push _)[W.heap.size]? = _
  simp
 ·simp
theorem own_none' {W : World} {g base : Nat} (e : TypeId) (size : Nat) (hg : g = W.heap.size) (hb : base ≤ W.heap.size) : (W.alloc (.cells #[] e)).ownsRow base e size (.slice (some ⟨g,0,none⟩) 0 0) 0 []:=hg ▸ UK W base e size hb
theorem XP (w : World) (p : Page) (A : Option Addr) (c : Nat) : AU ((w.alloc (p.box A c)).alloc CX) w.heap.size p (.slice A p.vals.length c):=(AU.mk1 w p _).up ((Below.refl _ _).alloc (Nat.le_refl _) _)
theorem Xm (w : World) (p : Page) (A : Option Addr) (c : Nat) : ((w.alloc (p.box A c)).alloc CX).heap.size = w.heap.size + 2:=by simp
theorem AU.far {w : World} {g h : Nat} {p : Page} {v : Value} (hy : AU w g p v) (hne : h ≠ g) (j : Nat) (u : Value) : AU (w.setCell ⟨h,j,none⟩ u) g p v:=(Below.heap_setCell w ⟨h,j,none⟩ u g (Ne.symm hne)).trans hy
set_option maxRecDepth 100000 in
set_option maxHeartbeats 4000000 in
theorem FU {w0 w : World} {A : Option Addr} {c : Nat} {p : Page} (hl : p.vals.length ≤ 17592186044416) (hb : Below w0.heap.size w0 w) (hr : Kd.C (Kd.int .i64) w0 A p.vals.length p.vals) : Calls Tryz.prog 101 #[p.val A c] w (Oc w p):=by
 have HR:=As (BF hr hb)
 have HL:=As hl
 have HA:=As (XP w p A c)
 have HB:=As (QZ w p A c)
 have HA2:=As (R3 w p A c)
 have HZ:=As (Xm w p A c)
 clear hr hb hl
 obtain ⟨W2,hW2⟩ : ∃ W2,(w.alloc (p.box A c)).alloc CX = W2:=⟨_,rfl⟩
 have HW2:=As hW2
 rw [hW2] at HA HB HA2 HZ
 clear hW2
 go_enter Tryz.func101,Tryz.ntmps101
 go_wp2_with (at_builtin;go_loud (rw [HW2.out]);go_loud (refine LX (w0:=W2) W2.heap.size rfl (.tmp 3) (.tmp 5) 39 3 .i64 8 rfl EB Gz (by omega) _ [] p.vals A p.vals.length c rfl rfl (own_none' 3 1 HZ.out.symm (Nat.le_refl _)) (Kd.KH (enc:=Value.int .i64) (d:=(0 : Int)) (h1:=fun _ => rfl) (BF HR.out (bj HB.out ((Below.refl _ _).alloc (Nat.le_refl _) _)))) ((Below.refl _ _).alloc (Nat.le_refl _) _) (by simp) (by have:=HL.out;simp;omega) ?_);intro v1 w1 hown hb1 _ _;have hown : AA w1 W2.heap.size v1 p.vals:=hown;obtain ⟨A1,c1,rfl, -, -⟩:=hown.reads;have HO:=As hown;have HA1:=As (HA.out.up hb1);have HA3:=As (HA2.out.up hb1);have HB1:=As (bj HB.out hb1);have x0:=HA1.out.c0;have x1:=HA1.out.c1;have x2:=HA1.out.c2;have x3:=HA1.out.frz 2;have y0:=HA3.out.c0;have y1:=HA3.out.c1;have y2:=HA3.out.c2;have f0:=HA3.out.frz 0;have f1:=HA3.out.frz 1;have f2:=HA3.out.frz 2;clear hown hb1)
 have HA5:=As (HA1.out.set2 (.slice A1 p.vals.length c1))
 have ho1:=HO.out
 rw [HZ.out] at ho1
 have ho2:=ho1.set (g:=w.heap.size) (by omega) (.slice A1 p.vals.length c1) 2
 have h2:=HB1.out.setCell (p:=⟨w.heap.size,2,none⟩) (by simp) (.slice A1 p.vals.length c1)
 have ho3:=ho2.CK (g:=w.heap.size + 1) (by omega) p (.slice A1 p.vals.length c1)
 have h3:=CR (g:=w.heap.size + 1) h2 (by omega) p (.slice A1 p.vals.length c1)
 have hy:=AU.CK (show AU (w1.setCell ⟨w.heap.size,2,none⟩ (.slice A1 p.vals.length c1)) (w.heap.size + 1) zp (.slice none 0 0) from HA3.out.far (by omega) _ _) p (.slice A1 p.vals.length c1)
 have z0:=hy.c0
 have z1:=hy.c1
 have z2:=hy.c2
 exact bodyPost_ret (v:=p.own (.slice A1 p.vals.length c1)) (by simp [results,Tryz.results101,go_sem,z0,z1,z2]) rfl ⟨_,rfl,ho3.lower (by omega),h3⟩
theorem Qb {W : World} {g base : Nat} (hg : g = W.heap.size) (hb : base ≤ W.heap.size) : F3 (W.alloc (.cells #[] 47)) base (.slice (some ⟨g,0,none⟩) 0 0) []:=⟨fun _ => 0,fun _ _ => trivial, [],own_none' _ 3 hg hb,Reps.none _ _⟩
set_option maxHeartbeats 4000000 in
theorem Cx {w0 w : World} {A : Option Addr} {c : Nat} {ps : List Page} (hf : MP ps) (hn : ps.length ≤ 150) (hb : Below w0.heap.size w0 w) (hr : Kd.C CJ w0 A ps.length ps) : Calls Tryz.prog 68 #[.slice A ps.length c] w (NQ w ps):=by
 have HR:=As (BF hr hb)
 have HF:=As hf
 clear hr hb hf
 go_enter Tryz.func68,Tryz.ntmps68
 go_wp2
 go_loopw [3,4] (fun v i wr => ∃ k : Nat,k ≤ ps.length ∧ i = .int .i64 (k : Int) ∧ A7 (F3 wr w.heap.size v (ps.take k)) ∧ A7 (Below w.heap.size w wr)) (fun _ i _ => (ps.length - intOf i).toNat)
 case atStart => exact ⟨0,Nat.zero_le _,rfl,⟨Qb rfl (Nat.le_refl _)⟩,⟨(Below.refl _ _).alloc (Nat.le_refl _) _⟩⟩
 case round =>
  obtain ⟨k,hk,rfl,HO,HW⟩:=hrel
  have hm : ps.length ≤ 9223372036854775807:=(CY HR.out).2
  by_cases hlt : k < ps.length
  ·obtain ⟨ad,A2,c2,rfl,QP, -,g2⟩:=DT (BF HR.out HW.out) k hlt
   obtain ⟨x0,x1,x2⟩:=QP
   have HG:=As g2
   have HFk:=As (Vb HF.out hlt)
   have HN:=As hn
   clear g2 hn
   go_wp2_with (first | (go_at_call 101;refine (FU (w0:=wr) HFk.out (Below.refl _ _) HG.out).mono ?_;rintro e w2 ⟨v,rfl,ho,hb2⟩;have HOv:=As ho;have HW2:=As hb2;have HO2:=As (Kd.Fe HO.out HW2.out);clear ho hb2) | (at_builtin;refine Ji (p:=pg ps k) rfl (.tmp 12) (.tmp 18) rfl rfl rfl HOv.out HO2.out (bj HW.out HW2.out) (by have:=HN.out;simp;omega) HW.out.size ?_;intro v1 w3 hR hb3;have HR3:=As hR;have HW3:=As hb3;clear hR hb3))
   go_roundw
   case rel => exact ⟨k + 1,by omega,by go_num,⟨by rw [SH hlt];exact HR3.out⟩,HW3⟩
   case measure => simp [intOf];omega
  ·have HE:=As (show k = ps.length by omega)
   go_wp2
   go_ret
   exact ⟨_,rfl,by have:=HO.out;rwa [HE.out,List.take_length] at this,HW.out⟩
def AV (p : Page) (r : Rec) : Page:=if 0 ≤ r.slot then ⟨p.lsn,p.owner,p.vals.set r.slot.toNat r.new⟩ else if r.new = 0 then ⟨p.lsn,0, [0,0,0]⟩ else ⟨p.lsn,r.new,p.vals⟩
abbrev Rec.box (r : Rec) : Obj:=.cells #[.int .i64 r.kind, .int .i64 r.tx, .int .i64 r.page, .int .i64 r.slot, .int .i64 r.old, .int .i64 r.new, .int .i64 r.prev, .int .i64 r.next] 43
theorem GV (w : World) (r : Rec) : GH (w.alloc r.box) ⟨w.heap.size,0,none⟩ r:=⟨by go_simp,by go_simp,by go_simp,by go_simp,by go_simp,by go_simp,by go_simp,by go_simp⟩
theorem Aa {w0 w : World} (h : Below w0.heap.size w0 w) (o : Obj) : Below w0.heap.size w0 (w.alloc o):=h.alloc h.size o
theorem BD (w : World) (o : Obj) : (w.alloc o).heap.size = w.heap.size + 1:=by simp
theorem AA.lt {w : World} {b k : Nat} {v : Value} {xs : List Int} (h : AA w b v xs) (hk : v.ownBlock = some k) : k < w.heap.size:=Np h k hk
theorem AA.base {w : World} {b k : Nat} {v : Value} {xs : List Int} (h : AA w b v xs) (hk : v.ownBlock = some k) : b ≤ k:=BN h k hk
theorem AA.at {w : World} {b g cap : Nat} {xs : List Int} (h : AA w b (.slice (some ⟨g,0,none⟩) xs.length cap) xs) (i : Int) (h0 : 0 ≤ i) (h1 : i < xs.length) : w.cell? ⟨g,i.toNat,none⟩ = some (.int .i64 (rd xs i)) ∧ w.frozen? ⟨g,i.toNat,none⟩ = false:=XC h i h0 h1
theorem AA.far {w : World} {b g : Nat} {v : Value} {xs : List Int} (h : AA w b v xs) (hg : ∀ k,v.ownBlock = some k → k ≠ g) (u : Value) (j : Nat) : AA (w.setCell ⟨g,j,none⟩ u) b v xs:=Qh h (fun e => hg g e.symm rfl) u
theorem AA.put {w : World} {b g cap : Nat} {xs : List Int} (h : AA w b (.slice (some ⟨g,0,none⟩) xs.length cap) xs) (i x : Int) : AA (w.setCell ⟨g,i.toNat,none⟩ (.int .i64 x)) b (.slice (some ⟨g,0,none⟩) xs.length cap) (xs.set i.toNat x):=VY h i x
theorem G9 {P : Program} {ops : Array Oper} {l : List Oper} {Q : Exit → Act → World → Prop} {a : Act} {w : World} (p : Page) {v : Value} (h : ∀ w1,Below w.heap.size w w1 → w1.heap.size = w.heap.size + 1 → AU w1 w.heap.size p v → wpList P ops Q l a w1) : wpList P ops Q l a (w.alloc (.cells #[.int .i64 p.lsn, .int .i64 p.owner,v] 47)):=
 h _ ((Below.refl _ _).alloc (Nat.le_refl _) _) (BD _ _) (AU.mk1 w p v)
theorem UQ : ∀ W : World,(Instr.makeSlice 39 (.int .i64 3) (.int .i64 3)).run Tryz.prog W = .ok (.slice (some ⟨W.heap.size,0,none⟩) 3 3) (W.alloc (.cells (madeCells #[.int .i64 0] 3) 3)):=RB 39 3 .i64 8 EB Gz (by decide) 3 (by decide)
set_option maxRecDepth 100000 in
set_option maxHeartbeats 4000000 in
theorem KA {w0 w : World} {A : Option Addr} {c : Nat} {p : Page} (r : Rec) (hl : p.vals.length ≤ 17592186044416) (hs : r.slot < p.vals.length) (hb : Below w0.heap.size w0 w) (hr : Kd.C (Kd.int .i64) w0 A p.vals.length p.vals) : Calls Tryz.prog 77 #[p.val A c,r.val] w (Oc w (AV p r)):=by
 have HR:=As (BF hr hb)
 have HL:=As hl
 have HS:=As hs
 clear hr hb hl hs
 obtain ⟨W1,hW1⟩ : ∃ W1,w.alloc (p.box A c) = W1:=⟨_,rfl⟩
 obtain ⟨W2,hW2⟩ : ∃ W2,W1.alloc r.box = W2:=⟨_,rfl⟩
 obtain ⟨W3,hW3⟩ : ∃ W3,W2.alloc CX = W3:=⟨_,rfl⟩
 have Z1 : W1.heap.size = w.heap.size + 1:=by rw [← hW1,BD]
 have Z2 : W2.heap.size = w.heap.size + 2:=by rw [← hW2,BD,Z1]
 have Z3 : W3.heap.size = w.heap.size + 3:=by rw [← hW3,BD,Z2]
 have hR3 : GH W3 ⟨w.heap.size + 1,0,none⟩ r:=by
  have:=GV W1 r
  rw [Z1,hW2] at this
  rw [← hW3]
  exact this.up (Aa (Below.refl _ _) _)
 have hP3 : AU W3 (w.heap.size + 2) zp (.slice none 0 0):=by
  have:=AU.mk1 W2 zp (.slice none 0 0)
  rw [Z2] at this
  rw [← hW3]
  exact this
 have hB3 : Below w.heap.size w W3:=by
  rw [← hW3, ← hW2, ← hW1]
  exact Aa (Aa (Aa (Below.refl _ _) _) _) _
 have HW3 : A7 (((w.alloc (p.box A c)).alloc r.box).alloc CX = W3):=⟨by rw [hW1,hW2,hW3]⟩
 have HR3:=As hR3
 have HP3:=As hP3
 have HB3:=As hB3
 have HZ3:=As Z3
 clear hW1 hW2 hW3 Z1 Z2 Z3 hR3 hP3 hB3
 rcases lts r.slot 0 with ⟨e1,b1,c1⟩ | ⟨e1,b1,c1⟩
 ·rcases BS r.new 0 with ⟨e2,b2,c2⟩ | ⟨e2,b2,c2⟩
  ·go_enter Tryz.func77,Tryz.ntmps77
   go_wp2_with (first | (go_at_call 69;rw [HW3.out];refine (FX (w0:=w) HL.out HB3.out HR.out).mono ?_;rintro e w1 ⟨v,rfl,ho,hb1⟩;obtain ⟨A1,c1,rfl, -, -⟩:=ho.reads;have HO:=As ho;have HB1:=As hb1;clear ho hb1) | (with_reducible refine G9 p ?_;intro w2 hb2 hz2 hq2;have HB2:=As (bj HB1.out hb2);have HW2:=As (bj HB3.out HB2.out);have HR2:=As (HR3.out.up HB2.out);have HP2:=As (HP3.out.up HB2.out);have HO2:=As (HO.out.below hb2);have HQ2:=As hq2;have hlt : w.heap.size + 3 ≤ w1.heap.size:=(by have:=HB1.out.size;have:=HZ3.out;omega);have hn1 : w.heap.size + 1 ≠ w1.heap.size:=(by omega);have hn2 : w.heap.size + 2 ≠ w1.heap.size:=(by omega);obtain ⟨-, -, -,x3, -,x5, -, -⟩:=HR2.out;simp only [Nat.zero_add] at x3 x5;have y0:=HP2.out.c0;have y1:=HP2.out.c1;have y2:=HP2.out.c2;have f0:=HP2.out.frz 0;have f1:=HP2.out.frz 1;have f2:=HP2.out.frz 2;have q0:=hq2.c0;have q1:=hq2.c1;have q2:=hq2.c2;have g1:=hq2.frz 1;have g2:=hq2.frz 2;clear hb2 hq2))
   have hmk:=UQ
   go_region
   obtain ⟨W5,hW5⟩ : ∃ W5,(((w2.setCell ⟨w1.heap.size,1,none⟩ (.int .i64 0)).setCell ⟨w1.heap.size,2,none⟩ (.slice (some ⟨w1.heap.size + 1,0,none⟩) 3 3)).alloc (.cells (madeCells #[.int .i64 0] 3) 3)).drew = W5:=⟨_,rfl⟩
   have hs : ((w2.setCell ⟨w1.heap.size,1,none⟩ (.int .i64 0)).setCell ⟨w1.heap.size,2,none⟩ (.slice (some ⟨w1.heap.size + 1,0,none⟩) 3 3)).heap.size = w1.heap.size + 1:=by simp [hz2]
   have hup : Below (w1.heap.size + 1) ((w2.setCell ⟨w1.heap.size,1,none⟩ (.int .i64 0)).setCell ⟨w1.heap.size,2,none⟩ (.slice (some ⟨w1.heap.size + 1,0,none⟩) 3 3)) W5:=by
    rw [← hW5]
    exact ((Below.refl _ _).alloc (by omega) _).drew
   have hup : Below ((w2.setCell ⟨w1.heap.size,1,none⟩ (.int .i64 0)).setCell ⟨w1.heap.size,2,none⟩ (.slice (some ⟨w1.heap.size + 1,0,none⟩) 3 3)).heap.size ((w2.setCell ⟨w1.heap.size,1,none⟩ (.int .i64 0)).setCell ⟨w1.heap.size,2,none⟩ (.slice (some ⟨w1.heap.size + 1,0,none⟩) 3 3)) W5:=(congrArg (fun n => Below n _ W5) hs).mpr hup
   have hQ5 : AU W5 w1.heap.size ⟨p.lsn,0,p.vals⟩ (.slice (some ⟨w1.heap.size + 1,0,none⟩) 3 3):=((HQ2.out.set1 0).set2 _).up hup
   have hP5 : AU W5 (w.heap.size + 2) zp (.slice none 0 0):=((HP2.out.far (h:=w1.heap.size) (by omega) 1 _).far (h:=w1.heap.size) (by omega) 2 _).up hup
   have hB5 : Below w.heap.size w W5:=bj ((HW2.out.setCell (p:=⟨w1.heap.size,1,none⟩) (by simp;omega) _).setCell (p:=⟨w1.heap.size,2,none⟩) (by simp;omega) _) hup
   have hO5 : AA W5 W3.heap.size (.slice (some ⟨w1.heap.size + 1,0,none⟩) 3 3) [0,0,0]:=by
    rw [← hW5]
    have:=LZ ((w2.setCell ⟨w1.heap.size,1,none⟩ (.int .i64 0)).setCell ⟨w1.heap.size,2,none⟩ (.slice (some ⟨w1.heap.size + 1,0,none⟩) 3 3)) W3.heap.size 3 .i64 3 (by have:=HZ3.out;omega) (by decide)
    rw [hs] at this
    exact this
   rw [hW5]
   have q0:=hQ5.c0
   have q1:=hQ5.c1
   have q2:=hQ5.c2
   have y0:=hP5.c0
   have y1:=hP5.c1
   have y2:=hP5.c2
   have f0:=hP5.frz 0
   have f1:=hP5.frz 1
   have f2:=hP5.frz 2
   have HO5:=As hO5
   have HB5:=As hB5
   have HP5:=As hP5
   clear hO5 hB5 hP5 hQ5 hup hs hW5
   go_wp2
   have h1:=HO5.out.CK (g:=w.heap.size + 2) (by have:=HZ3.out;omega) ⟨p.lsn,0, [0,0,0]⟩ (.slice (some ⟨w1.heap.size + 1,0,none⟩) 3 3)
   have h2:=CR (g:=w.heap.size + 2) HB5.out (by omega) ⟨p.lsn,0, [0,0,0]⟩ (.slice (some ⟨w1.heap.size + 1,0,none⟩) 3 3)
   have hy:=HP5.out.CK ⟨p.lsn,0, [0,0,0]⟩ (.slice (some ⟨w1.heap.size + 1,0,none⟩) 3 3)
   have z0:=hy.c0
   have z1:=hy.c1
   have z2:=hy.c2
   have hw : AV p r = ⟨p.lsn,0, [0,0,0]⟩:=by rw [AV,if_neg (by have:=e1.out;omega),if_pos e2.out]
   rw [hw]
   exact bodyPost_ret (v:=(⟨p.lsn,0, [0,0,0]⟩ : Page).own (.slice (some ⟨w1.heap.size + 1,0,none⟩) 3 3)) (by simp [results,Tryz.results77,go_sem,z0,z1,z2]) rfl ⟨_,rfl,h1.lower (by have:=HZ3.out;omega),h2⟩
  ·go_enter Tryz.func77,Tryz.ntmps77
   go_wp2_with (first | (go_at_call 69;rw [HW3.out];refine (FX (w0:=w) HL.out HB3.out HR.out).mono ?_;rintro e w1 ⟨v,rfl,ho,hb1⟩;obtain ⟨A1,c1,rfl, -, -⟩:=ho.reads;have HO:=As ho;have HB1:=As hb1;clear ho hb1) | (with_reducible refine G9 p ?_;intro w2 hb2 hz2 hq2;have HB2:=As (bj HB1.out hb2);have HW2:=As (bj HB3.out HB2.out);have HR2:=As (HR3.out.up HB2.out);have HP2:=As (HP3.out.up HB2.out);have HO2:=As (HO.out.below hb2);have HQ2:=As hq2;have hlt : w.heap.size + 3 ≤ w1.heap.size:=(by have:=HB1.out.size;have:=HZ3.out;omega);have hn1 : w.heap.size + 1 ≠ w1.heap.size:=(by omega);have hn2 : w.heap.size + 2 ≠ w1.heap.size:=(by omega);obtain ⟨-, -, -,x3, -,x5, -, -⟩:=HR2.out;simp only [Nat.zero_add] at x3 x5;have y0:=HP2.out.c0;have y1:=HP2.out.c1;have y2:=HP2.out.c2;have f0:=HP2.out.frz 0;have f1:=HP2.out.frz 1;have f2:=HP2.out.frz 2;have q0:=hq2.c0;have q1:=hq2.c1;have q2:=hq2.c2;have g1:=hq2.frz 1;have g2:=hq2.frz 2;clear hb2 hq2))
   have h1:=(HO2.out.far (g:=w1.heap.size) (fun k hk => by have:=HO.out.lt hk;omega) (Value.int .i64 r.new) 1).CK (g:=w.heap.size + 2) (by have:=HZ3.out;omega) ⟨p.lsn,r.new,p.vals⟩ (.slice A1 p.vals.length c1)
   have h2:=CR (g:=w.heap.size + 2) (HW2.out.setCell (p:=⟨w1.heap.size,1,none⟩) (by simp;omega) (Value.int .i64 r.new)) (by omega) ⟨p.lsn,r.new,p.vals⟩ (.slice A1 p.vals.length c1)
   have hy:=(HP2.out.far (h:=w1.heap.size) (by omega) 1 (Value.int .i64 r.new)).CK ⟨p.lsn,r.new,p.vals⟩ (.slice A1 p.vals.length c1)
   have z0:=hy.c0
   have z1:=hy.c1
   have z2:=hy.c2
   have hw : AV p r = ⟨p.lsn,r.new,p.vals⟩:=by rw [AV,if_neg (by have:=e1.out;omega),if_neg e2.out]
   rw [hw]
   exact bodyPost_ret (v:=(⟨p.lsn,r.new,p.vals⟩ : Page).own (.slice A1 p.vals.length c1)) (by simp [results,Tryz.results77,go_sem,z0,z1,z2]) rfl ⟨_,rfl,h1.lower (by have:=HZ3.out;omega),h2⟩
 ·have hs2:=HS.out
  have hs1:=e1.out
  go_enter Tryz.func77,Tryz.ntmps77
  go_wp2_with (first | (go_at_call 69;rw [HW3.out];refine (FX (w0:=w) HL.out HB3.out HR.out).mono ?_;rintro e w1 ⟨v,rfl,ho,hb1⟩;obtain ⟨g,cap,rfl,hgb,hgl⟩:=ho.form (by have:=HS.out;have:=e1.out;omega);have HG:=As (And.intro hgb hgl);clear hgb hgl;have HO:=As ho;have HB1:=As hb1;clear ho hb1) | (with_reducible refine G9 p ?_;(intro w2 hb2 hz2 hq2;have HB2:=As (bj HB1.out hb2);have HW2:=As (bj HB3.out HB2.out);have HR2:=As (HR3.out.up HB2.out);have HP2:=As (HP3.out.up HB2.out);have HO2:=As (HO.out.below hb2);have HQ2:=As hq2;have hlt : w.heap.size + 3 ≤ w1.heap.size:=(by have:=HB1.out.size;have:=HZ3.out;omega);have hn1 : w.heap.size + 1 ≠ w1.heap.size:=(by omega);have hn2 : w.heap.size + 2 ≠ w1.heap.size:=(by omega);obtain ⟨-, -, -,x3, -,x5, -, -⟩:=HR2.out;simp only [Nat.zero_add] at x3 x5;have y0:=HP2.out.c0;have y1:=HP2.out.c1;have y2:=HP2.out.c2;have f0:=HP2.out.frz 0;have f1:=HP2.out.frz 1;have f2:=HP2.out.frz 2;have q0:=hq2.c0;have q1:=hq2.c1;have q2:=hq2.c2;have g1:=hq2.frz 1;have g2:=hq2.frz 2;have hgw : g < w1.heap.size:=HO.out.lt (k:=g) rfl;have hgb : w.heap.size + 3 ≤ g:=(by have:=HO.out.base (k:=g) rfl;have:=HZ3.out;omega);have hg1 : w1.heap.size ≠ g:=(by omega);have hg2 : w.heap.size + 1 ≠ g:=(by omega);have hg3 : w.heap.size + 2 ≠ g:=(by omega);obtain ⟨p1,p2⟩:=HO2.out.at r.slot e1.out (by have:=HS.out;omega);clear hb2 hq2)))
  have h1:=(HO2.out.put r.slot r.new).CK (g:=w.heap.size + 2) (by have:=HZ3.out;omega) p (.slice (some ⟨g,0,none⟩) p.vals.length cap)
  have h2:=CR (g:=w.heap.size + 2) (HW2.out.setCell (p:=⟨g,r.slot.toNat,none⟩) (by simp;omega) (Value.int .i64 r.new)) (by omega) p (.slice (some ⟨g,0,none⟩) p.vals.length cap)
  have hy:=(HP2.out.far (h:=g) (by omega) r.slot.toNat (Value.int .i64 r.new)).CK p (.slice (some ⟨g,0,none⟩) p.vals.length cap)
  have z0:=hy.c0
  have z1:=hy.c1
  have z2:=hy.c2
  have hw : AV p r = ⟨p.lsn,p.owner,p.vals.set r.slot.toNat r.new⟩:=by rw [AV,if_pos e1.out]
  rw [hw]
  exact bodyPost_ret (v:=(⟨p.lsn,p.owner,p.vals.set r.slot.toNat r.new⟩ : Page).own (.slice (some ⟨g,0,none⟩) p.vals.length cap)) (by simp [results,Tryz.results77,go_sem,z0,z1,z2]) rfl ⟨_,rfl,h1.lower (by have:=HZ3.out;omega),h2⟩
def doR (p : Page) (r : Rec) (n : Int) : Page:=⟨n,(AV p r).owner,(AV p r).vals⟩
theorem Uv {P : Program} {ops : Array Oper} {l : List Oper} {Q : Exit → Act → World → Prop} {a : Act} {W : World} (h : ∀ w1,Below W.heap.size W w1 → AA w1 W.heap.size (.slice (some ⟨W.heap.size,0,none⟩) 3 3) [0,0,0] → wpList P ops Q l a w1) : wpList P ops Q l a (W.alloc (.cells (madeCells #[.int .i64 0] 3) 3)):=
 h _ ((Below.refl _ _).alloc (Nat.le_refl _) _) (LZ W W.heap.size 3 .i64 3 (Nat.le_refl _) (by decide))
set_option maxRecDepth 100000 in
set_option maxHeartbeats 4000000 in
theorem KM {w0 w : World} {A : Option Addr} {c : Nat} {p : Page} (r : Rec) (n : Int) (hl : p.vals.length ≤ 17592186044416) (hs : r.slot < p.vals.length) (hb : Below w0.heap.size w0 w) (hr : Kd.C (Kd.int .i64) w0 A p.vals.length p.vals) : Calls Tryz.prog 95 #[p.val A c,r.val, .int .i64 n] w (Oc w (doR p r n)):=by
 have HR:=As (BF hr hb)
 have HL:=As hl
 have HS:=As hs
 clear hr hb hl hs
 obtain ⟨W1,hW1⟩ : ∃ W1,w.alloc (p.box A c) = W1:=⟨_,rfl⟩
 obtain ⟨W2,hW2⟩ : ∃ W2,W1.alloc r.box = W2:=⟨_,rfl⟩
 obtain ⟨W3,hW3⟩ : ∃ W3,W2.alloc CX = W3:=⟨_,rfl⟩
 have Z1 : W1.heap.size = w.heap.size + 1:=by rw [← hW1,BD]
 have Z2 : W2.heap.size = w.heap.size + 2:=by rw [← hW2,BD,Z1]
 have Z3 : W3.heap.size = w.heap.size + 3:=by rw [← hW3,BD,Z2]
 have hR3 : GH W3 ⟨w.heap.size + 1,0,none⟩ r:=by
  have:=GV W1 r
  rw [Z1,hW2] at this
  rw [← hW3]
  exact this.up (Aa (Below.refl _ _) _)
 have hP3 : AU W3 (w.heap.size + 2) zp (.slice none 0 0):=by
  have:=AU.mk1 W2 zp (.slice none 0 0)
  rw [Z2] at this
  rw [← hW3]
  exact this
 have hB3 : Below w.heap.size w W3:=by
  rw [← hW3, ← hW2, ← hW1]
  exact Aa (Aa (Aa (Below.refl _ _) _) _) _
 have HW3 : A7 (((w.alloc (p.box A c)).alloc r.box).alloc CX = W3):=⟨by rw [hW1,hW2,hW3]⟩
 have HR3:=As hR3
 have HP3:=As hP3
 have HB3:=As hB3
 have HZ3:=As Z3
 clear hW1 hW2 hW3 Z1 Z2 Z3 hR3 hP3 hB3
 rcases lts r.slot 0 with ⟨e1,b1,c1⟩ | ⟨e1,b1,c1⟩
 ·rcases BS r.new 0 with ⟨e2,b2,c2⟩ | ⟨e2,b2,c2⟩
  ·have hmk:=UQ
   go_enter Tryz.func95,Tryz.ntmps95
   go_wp2_with (first | (go_at_call 101;rw [HW3.out];refine (FU (w0:=w) HL.out HB3.out HR.out).mono ?_;rintro e w1 ⟨v,rfl,ho,hb1⟩;obtain ⟨A1,c1,rfl, -, -⟩:=ho.reads;have HO:=As ho;have HB1:=As hb1;clear ho hb1) | (with_reducible refine G9 p ?_;intro w2 hb2 hz2 hq2;have HB2:=As (bj HB1.out hb2);have HW2:=As (bj HB3.out HB2.out);have HR2:=As (HR3.out.up HB2.out);have HP2:=As (HP3.out.up HB2.out);have HO2:=As (HO.out.below hb2);have HQ2:=As hq2;have hlt : w.heap.size + 3 ≤ w1.heap.size:=(by have:=HB1.out.size;have:=HZ3.out;omega);have hn1 : w.heap.size + 1 ≠ w1.heap.size:=(by omega);have hn2 : w.heap.size + 2 ≠ w1.heap.size:=(by omega);obtain ⟨-, -, -,x3, -,x5, -, -⟩:=HR2.out;simp only [Nat.zero_add] at x3 x5;have y0:=HP2.out.c0;have y1:=HP2.out.c1;have y2:=HP2.out.c2;have f0:=HP2.out.frz 0;have f1:=HP2.out.frz 1;have f2:=HP2.out.frz 2;have q0:=hq2.c0;have q1:=hq2.c1;have q2:=hq2.c2;have g0:=hq2.frz 0;have g1:=hq2.frz 1;have g2:=hq2.frz 2;clear hb2 hq2) | (with_reducible refine Uv ?_;intro w4 hb4 ho4;have hQ4:=((HQ2.out.set0 n).set1 r.new).up hb4;have hP4:=((HP2.out.far (h:=w1.heap.size) (by omega) 0 (Value.int .i64 n)).far (h:=w1.heap.size) (by omega) 1 (Value.int .i64 r.new)).up hb4;have HB4:=As (bj ((HW2.out.setCell (p:=⟨w1.heap.size,0,none⟩) (by simp;omega) (Value.int .i64 n)).setCell (p:=⟨w1.heap.size,1,none⟩) (by simp;omega) (Value.int .i64 r.new)) hb4);simp only [World.size_setCell,hz2] at ho4;have HO4:=As ho4;have HQ4:=As hQ4;have HP4:=As hP4;have q0':=hQ4.c0;have q1':=hQ4.c1;have q2':=hQ4.c2;have g2':=hQ4.frz 2;have y0':=hP4.c0;have y1':=hP4.c1;have y2':=hP4.c2;have f0':=hP4.frz 0;have f1':=hP4.frz 1;have f2':=hP4.frz 2;clear hb4 ho4 hQ4 hP4))
   have h1:=(HO4.out.set (g:=w1.heap.size) (by omega) (.slice (some ⟨w1.heap.size + 1,0,none⟩) 3 3) 2).CK (g:=w.heap.size + 2) (by omega) ⟨n,r.new, []⟩ (.slice (some ⟨w1.heap.size + 1,0,none⟩) 3 3)
   have h2:=CR (g:=w.heap.size + 2) (HB4.out.setCell (p:=⟨w1.heap.size,2,none⟩) (by simp;omega) (.slice (some ⟨w1.heap.size + 1,0,none⟩) 3 3)) (by omega) ⟨n,r.new, []⟩ (.slice (some ⟨w1.heap.size + 1,0,none⟩) 3 3)
   have hy:=(HP4.out.far (h:=w1.heap.size) (by omega) 2 (.slice (some ⟨w1.heap.size + 1,0,none⟩) 3 3)).CK ⟨n,r.new, []⟩ (.slice (some ⟨w1.heap.size + 1,0,none⟩) 3 3)
   have z0:=hy.c0
   have z1:=hy.c1
   have z2:=hy.c2
   have hw : doR p r n = ⟨n,r.new, [0,0,0]⟩:=by rw [doR,AV,if_neg (by have:=e1.out;omega),if_pos e2.out,e2.out]
   rw [hw]
   exact bodyPost_ret (v:=(⟨n,r.new, [0,0,0]⟩ : Page).own (.slice (some ⟨w1.heap.size + 1,0,none⟩) 3 3)) (by simp [results,Tryz.results95,go_sem,z0,z1,z2]) rfl ⟨_,rfl,h1.lower (by omega),h2⟩
  ·go_enter Tryz.func95,Tryz.ntmps95
   go_wp2_with (first | (go_at_call 101;rw [HW3.out];refine (FU (w0:=w) HL.out HB3.out HR.out).mono ?_;rintro e w1 ⟨v,rfl,ho,hb1⟩;obtain ⟨A1,c1,rfl, -, -⟩:=ho.reads;have HO:=As ho;have HB1:=As hb1;clear ho hb1) | (with_reducible refine G9 p ?_;intro w2 hb2 hz2 hq2;have HB2:=As (bj HB1.out hb2);have HW2:=As (bj HB3.out HB2.out);have HR2:=As (HR3.out.up HB2.out);have HP2:=As (HP3.out.up HB2.out);have HO2:=As (HO.out.below hb2);have HQ2:=As hq2;have hlt : w.heap.size + 3 ≤ w1.heap.size:=(by have:=HB1.out.size;have:=HZ3.out;omega);have hn1 : w.heap.size + 1 ≠ w1.heap.size:=(by omega);have hn2 : w.heap.size + 2 ≠ w1.heap.size:=(by omega);obtain ⟨-, -, -,x3, -,x5, -, -⟩:=HR2.out;simp only [Nat.zero_add] at x3 x5;have y0:=HP2.out.c0;have y1:=HP2.out.c1;have y2:=HP2.out.c2;have f0:=HP2.out.frz 0;have f1:=HP2.out.frz 1;have f2:=HP2.out.frz 2;have q0:=hq2.c0;have q1:=hq2.c1;have q2:=hq2.c2;have g0:=hq2.frz 0;have g1:=hq2.frz 1;have g2:=hq2.frz 2;clear hb2 hq2))
   have h1:=((HO2.out.far (g:=w1.heap.size) (fun k hk => by have:=HO.out.lt hk;omega) (Value.int .i64 n) 0).far (g:=w1.heap.size) (fun k hk => by have:=HO.out.lt hk;omega) (Value.int .i64 r.new) 1).CK (g:=w.heap.size + 2) (by have:=HZ3.out;omega) ⟨n,r.new,p.vals⟩ (.slice A1 p.vals.length c1)
   have h2:=CR (g:=w.heap.size + 2) ((HW2.out.setCell (p:=⟨w1.heap.size,0,none⟩) (by simp;omega) (Value.int .i64 n)).setCell (p:=⟨w1.heap.size,1,none⟩) (by simp;omega) (Value.int .i64 r.new)) (by omega) ⟨n,r.new,p.vals⟩ (.slice A1 p.vals.length c1)
   have hy:=((HP2.out.far (h:=w1.heap.size) (by omega) 0 (Value.int .i64 n)).far (h:=w1.heap.size) (by omega) 1 (Value.int .i64 r.new)).CK ⟨n,r.new,p.vals⟩ (.slice A1 p.vals.length c1)
   have z0:=hy.c0
   have z1:=hy.c1
   have z2:=hy.c2
   have hw : doR p r n = ⟨n,r.new,p.vals⟩:=by rw [doR,AV,if_neg (by have:=e1.out;omega),if_neg e2.out]
   rw [hw]
   exact bodyPost_ret (v:=(⟨n,r.new,p.vals⟩ : Page).own (.slice A1 p.vals.length c1)) (by simp [results,Tryz.results95,go_sem,z0,z1,z2]) rfl ⟨_,rfl,h1.lower (by have:=HZ3.out;omega),h2⟩
 ·have hs2:=HS.out
  have hs1:=e1.out
  go_enter Tryz.func95,Tryz.ntmps95
  go_wp2_with (first | (go_at_call 101;rw [HW3.out];refine (FU (w0:=w) HL.out HB3.out HR.out).mono ?_;rintro e w1 ⟨v,rfl,ho,hb1⟩;obtain ⟨g,cap,rfl,hgb,hgl⟩:=ho.form (by have:=HS.out;have:=e1.out;omega);have HG:=As (And.intro hgb hgl);clear hgb hgl;have HO:=As ho;have HB1:=As hb1;clear ho hb1) | (with_reducible refine G9 p ?_;(intro w2 hb2 hz2 hq2;have HB2:=As (bj HB1.out hb2);have HW2:=As (bj HB3.out HB2.out);have HR2:=As (HR3.out.up HB2.out);have HP2:=As (HP3.out.up HB2.out);have HO2:=As (HO.out.below hb2);have HQ2:=As hq2;have hlt : w.heap.size + 3 ≤ w1.heap.size:=(by have:=HB1.out.size;have:=HZ3.out;omega);have hn1 : w.heap.size + 1 ≠ w1.heap.size:=(by omega);have hn2 : w.heap.size + 2 ≠ w1.heap.size:=(by omega);obtain ⟨-, -, -,x3, -,x5, -, -⟩:=HR2.out;simp only [Nat.zero_add] at x3 x5;have y0:=HP2.out.c0;have y1:=HP2.out.c1;have y2:=HP2.out.c2;have f0:=HP2.out.frz 0;have f1:=HP2.out.frz 1;have f2:=HP2.out.frz 2;have q0:=hq2.c0;have q1:=hq2.c1;have q2:=hq2.c2;have g0:=hq2.frz 0;have g1:=hq2.frz 1;have g2:=hq2.frz 2;have hgw : g < w1.heap.size:=HO.out.lt (k:=g) rfl;have hgb : w.heap.size + 3 ≤ g:=(by have:=HO.out.base (k:=g) rfl;have:=HZ3.out;omega);have hg1 : w1.heap.size ≠ g:=(by omega);have hg2 : w.heap.size + 1 ≠ g:=(by omega);have hg3 : w.heap.size + 2 ≠ g:=(by omega);obtain ⟨p1,p2⟩:=HO2.out.at r.slot e1.out (by have:=HS.out;omega);clear hb2 hq2)))
  have h1:=((HO2.out.far (g:=w1.heap.size) (fun k hk => by have:=HO.out.lt hk;omega) (Value.int .i64 n) 0).put r.slot r.new).CK (g:=w.heap.size + 2) (by have:=HZ3.out;omega) ⟨n,p.owner, []⟩ (.slice (some ⟨g,0,none⟩) p.vals.length cap)
  have h2:=CR (g:=w.heap.size + 2) ((HW2.out.setCell (p:=⟨w1.heap.size,0,none⟩) (by simp;omega) (Value.int .i64 n)).setCell (p:=⟨g,r.slot.toNat,none⟩) (by simp;omega) (Value.int .i64 r.new)) (by omega) ⟨n,p.owner, []⟩ (.slice (some ⟨g,0,none⟩) p.vals.length cap)
  have hy:=((HP2.out.far (h:=w1.heap.size) (by omega) 0 (Value.int .i64 n)).far (h:=g) (by omega) r.slot.toNat (Value.int .i64 r.new)).CK ⟨n,p.owner, []⟩ (.slice (some ⟨g,0,none⟩) p.vals.length cap)
  have z0:=hy.c0
  have z1:=hy.c1
  have z2:=hy.c2
  have hw : doR p r n = ⟨n,p.owner,p.vals.set r.slot.toNat r.new⟩:=by rw [doR,AV,if_pos e1.out]
  rw [hw]
  exact bodyPost_ret (v:=(⟨n,p.owner,p.vals.set r.slot.toNat r.new⟩ : Page).own (.slice (some ⟨g,0,none⟩) p.vals.length cap)) (by simp [results,Tryz.results95,go_sem,z0,z1,z2]) rfl ⟨_,rfl,h1.lower (by have:=HZ3.out;omega),h2⟩
def X0 (b : Bool) (w : World) (e : Ending) (w' : World) : Prop := ∃ i : Int,e = .returned (.int .i64 i) ∧ decide (0 ≤ i) = b ∧ Below w.heap.size w w'
theorem U6 {w0 w : World} {A : Option Addr} {c : Nat} {p : Page} {b : Bool} (hv : AL p = b) (hb : Below w0.heap.size w0 w) (hr : Kd.C (Kd.int .i64) w0 A p.vals.length p.vals) : Calls Tryz.prog 71 #[p.val A c] w fun e w' => e = .returned (.bool (!b)) ∧ Below w.heap.size w w':=by
 have HR:=As (BF hr hb)
 have HV:=As hv
 have HB:=As (Lx w p A c)
 clear hr hb hv
 go_enter Tryz.func71,Tryz.ntmps71
 go_wp2_with (go_at_call 72;refine (Ec HV.out HB.out HR.out).mono ?_;rintro e w1 ⟨rfl,hb1⟩;have HX:=As (bj HB.out hb1);clear hb1)
 go_ret
 exact ⟨rfl,HX.out⟩
set_option maxHeartbeats 4000000 in
theorem QK {w0 w : World} {A : Option Addr} {c : Nat} {l : List Page} (hb : Below w0.heap.size w0 w) (hr : Kd.C CJ w0 A l.length l) : Calls Tryz.prog 106 #[.slice A l.length c, .func (.func 71) #[] #[]] w (X0 (l.any fun x => !AL x) w):=by
 have HR:=As (BF hr hb)
 have hm:=(CY hr).2
 clear hr hb
 go_enter Tryz.func106,Tryz.ntmps106
 go_wp2
 go_loopw [8] (fun i wr => ∃ k : Nat,k ≤ l.length ∧ i = .int .i64 (k : Int) ∧ A7 ((l.any fun x => !AL x) = (l.drop k).any fun x => !AL x) ∧ A7 (Below w.heap.size w wr)) (fun i _ => (l.length - intOf i).toNat)
 case atStart => exact ⟨0,Nat.zero_le _,rfl,⟨rfl⟩,⟨Below.refl _ _⟩⟩
 case round =>
  obtain ⟨k,hk,rfl,HK,HW⟩:=hrel
  by_cases hlt : k < l.length
  ·obtain ⟨ad,A2,c2,rfl,QP, -,g2⟩:=DT (BF HR.out HW.out) k hlt
   obtain ⟨x0,x1,x2⟩:=QP
   have HG:=As g2
   have HD:=As (SI hlt)
   clear g2
   cases hp : AL (pg l k)
   all_goals
    have HP:=As hp
    clear hp
    go_wp2_with (go_at_call 71;refine (U6 HP.out (Below.refl _ _) HG.out).mono ?_;rintro e w1 ⟨rfl,hb1⟩;have HX:=As (bj HW.out hb1);clear hb1)
   ·go_ret
    exact ⟨k,rfl,by rw [HK.out,HD.out,List.any_cons,HP.out];simp,HX.out⟩
   ·go_roundw
    case rel => exact ⟨k + 1,by omega,by go_num,⟨by rw [HK.out,HD.out,List.any_cons,HP.out];rfl⟩,HX⟩
    case measure => simp [intOf];omega
  ·have hke : k = l.length:=by omega
   go_wp2
   go_ret
   exact ⟨-1,rfl,by rw [HK.out,hke,List.drop_length];rfl,HW.out⟩
theorem NF {w0 w : World} {A : Option Addr} {c : Nat} {l : List Page} (hb : Below w0.heap.size w0 w) (hr : Kd.C CJ w0 A l.length l) : Calls Tryz.prog 70 #[.slice A l.length c, .func (.func 71) #[] #[]] w fun e w' => e = .returned (.bool (l.any fun x => !AL x)) ∧ Below w.heap.size w w':=by
 have HR:=As (BF hr hb)
 clear hr hb
 go_enter Tryz.func70,Tryz.ntmps70
 go_wp2_with (go_at_call 106;refine (QK (Below.refl _ _) HR.out).mono ?_;rintro e w' ⟨i,rfl,hi,hb⟩)
 go_ret
 exact ⟨by first | exact Af hi | rfl,hb⟩
def Et (l : List Page) : Bool:=l.length == 5 && !(l.any fun x => !AL x)
set_option maxHeartbeats 2000000 in
theorem BV {w0 w : World} {A : Option Addr} {c : Nat} {l : List Page} {b : Bool} (hv : Et l = b) (hb : Below w0.heap.size w0 w) (hr : Kd.C CJ w0 A l.length l) : Calls Tryz.prog 38 #[.slice A l.length c] w fun e w' => e = .returned (.bool b) ∧ Below w.heap.size w w':=by
 have HR:=As (BF hr hb)
 have HV:=As hv
 clear hr hb hv
 rcases BS (l.length : Int) 5 with ⟨e1,b1,c1⟩ | ⟨e1,b1,c1⟩
 ·go_enter Tryz.func38,Tryz.ntmps38
  go_wp2_with (go_at_call 70;refine (NF (Below.refl _ _) HR.out).mono ?_;rintro e w1 ⟨rfl,hb1⟩;have HX:=As hb1;clear hb1)
  go_ret
  exact ⟨Af (by rw [← HV.out,Et,show (l.length == 5) = true by have:=e1.out;simp;omega];rfl),HX.out⟩
 ·go_enter Tryz.func38,Tryz.ntmps38
  go_wp2
  go_ret
  exact ⟨Af (by rw [← HV.out,Et,show (l.length == 5) = false by have:=e1.out;simp;omega];rfl),Below.refl _ _⟩
set_option maxHeartbeats 4000000 in
theorem CP {w0 w : World} {A : Option Addr} {c : Nat} {l : List Page} {b : Bool} (hv : Et l = b) (hb : Below w0.heap.size w0 w) (hr : Kd.C CJ w0 A l.length l) : Calls Tryz.prog 51 #[.slice A l.length c] w fun e w' => e = .returned (.bool b) ∧ Below w.heap.size w w':=by
 have HR:=As (BF hr hb)
 have hm:=(CY hr).2
 have HV:=As hv
 clear hr hb hv
 go_enter Tryz.func51,Tryz.ntmps51
 go_wp2
 go_loopw [3] (fun i wr => ∃ k : Nat,k ≤ l.length ∧ i = .int .i64 (k : Int) ∧ A7 ((l.any fun x => !AL x) = (l.drop k).any fun x => !AL x) ∧ A7 (Below w.heap.size w wr)) (fun i _ => (l.length - intOf i).toNat)
 case atStart => exact ⟨0,Nat.zero_le _,rfl,⟨rfl⟩,⟨Below.refl _ _⟩⟩
 case round =>
  obtain ⟨k,hk,rfl,HK,HW⟩:=hrel
  by_cases hlt : k < l.length
  ·obtain ⟨ad,A2,c2,rfl,QP, -,g2⟩:=DT (BF HR.out HW.out) k hlt
   obtain ⟨x0,x1,x2⟩:=QP
   have HG:=As g2
   have HD:=As (SI hlt)
   clear g2
   cases hp : AL (pg l k)
   all_goals
    have HP:=As hp
    clear hp
    go_wp2_with (go_at_call 91;refine (EQ HP.out (Below.refl _ _) HG.out).mono ?_;rintro e w1 ⟨rfl,hb1⟩;have HX:=As (bj HW.out hb1);clear hb1)
   ·go_ret
    exact ⟨Af (by rw [← HV.out,Et,HK.out,HD.out,List.any_cons,HP.out];simp),HX.out⟩
   ·go_roundw
    case rel => exact ⟨k + 1,by omega,by go_num,⟨by rw [HK.out,HD.out,List.any_cons,HP.out];rfl⟩,HX⟩
    case measure => simp [intOf];omega
  ·have hke : k = l.length:=by omega
   rcases BS (l.length : Int) 5 with ⟨e1,b1,c1⟩ | ⟨e1,b1,c1⟩
   ·go_wp2
    go_ret
    exact ⟨Af (by rw [← HV.out,Et,HK.out,hke,List.drop_length,show (l.length == 5) = true by have:=e1.out;simp;omega];rfl),HW.out⟩
   ·go_wp2
    go_ret
    exact ⟨Af (by rw [← HV.out,Et,show (l.length == 5) = false by have:=e1.out;simp;omega];rfl),HW.out⟩
theorem TS {w0 w : World} {A : Option Addr} {n c : Nat} {l : List Page} {b : Bool} (hn : l.length = n) (hv : Et l = b) (hb : Below w0.heap.size w0 w) (hr : Kd.C CJ w0 A l.length l) : Calls Tryz.prog 38 #[.slice A n c] w fun e w' => e = .returned (.bool b) ∧ Below w.heap.size w w':=hn ▸ BV hv hb hr
theorem OA {w0 w : World} {A : Option Addr} {n c : Nat} {l : List Page} {b : Bool} (hn : l.length = n) (hv : Et l = b) (hb : Below w0.heap.size w0 w) (hr : Kd.C CJ w0 A l.length l) : Calls Tryz.prog 51 #[.slice A n c] w fun e w' => e = .returned (.bool b) ∧ Below w.heap.size w w':=hn ▸ CP hv hb hr
def Ee (ps : List Page) (r : Rec) (n : Nat) : List Page:=if Cu r.kind = true ∧ (pg ps r.page.toNat).lsn < n then ps.set r.page.toNat (doR (pg ps r.page.toNat) r n) else ps
def BI (ps : List Page) (l : List Rec) : Nat → List Page
 | 0 => ps
 | n + 1 => Ee (BI ps l n) (rc l n) (n + 1)
def geo (ps : List Page) : Prop:=ps.length = 5 ∧ ∀ p ∈ ps,p.vals.length = 3
theorem AZ {ps : List Page} (h : Et ps = true) : geo ps:=by
 simp only [Et,Bool.and_eq_true,beq_iff_eq,Bool.not_eq_true',List.any_eq_false] at h
 exact ⟨h.1,fun p hp => (Be.1 (by simpa using h.2 p hp)).2.2.2.2.1⟩
theorem Ia {ps : List Page} (h : geo ps) {k : Nat} (hk : k < 5) : (pg ps k).vals.length = 3:=h.2 _ (by simp [pg,List.getD_eq_getElem?_getD,h.1,hk])
theorem ET {ps : List Page} (h : geo ps) : MP ps:=fun p hp => by rw [h.2 p hp];decide
theorem IW {p : Page} {r : Rec} (h : p.vals.length = 3) : (AV p r).vals.length = 3:=by
 unfold AV
 split
 ·simpa using h
 ·split
  ·rfl
  ·exact h
theorem Lr {ps : List Page} {k : Nat} {q : Page} (h : geo ps) (hq : q.vals.length = 3) : geo (ps.set k q):=by
 refine ⟨by simpa using h.1,fun p hp => ?_⟩
 rcases List.mem_or_eq_of_mem_set hp with hp | rfl
 ·exact h.2 p hp
 ·exact hq
theorem V7 {ps : List Page} {r : Rec} {n : Nat} (h : geo ps) (hr : Cu r.kind = true → 0 ≤ r.page ∧ r.page ≤ 4) : geo (Ee ps r n):=by
 unfold Ee
 split
 ·rename_i hc
  have:=hr hc.1
  exact Lr h (IW (Ia h (by omega)))
 ·exact h
theorem Ic {r : Rec} (h : Cv r = true) (hc : Cu r.kind = true) : 0 ≤ r.page ∧ r.page ≤ 4 ∧ -1 ≤ r.slot ∧ r.slot ≤ 2 ∧ 0 ≤ r.new ∧ r.new ≤ 9 ∧ (r.slot = -1 → r.new ≤ 3):=by
 rw [D7] at h
 simp only [Cu,Bool.or_eq_true,beq_iff_eq] at hc
 omega
theorem I9 {ps : List Page} {l : List Rec} (h : geo ps) (hl : ∀ k,k < l.length → Cv (rc l k) = true) : ∀ n,n ≤ l.length → geo (BI ps l n)
 | 0,_ => h
 | n + 1,hn => V7 (I9 h hl n (by omega)) (fun hc => by have:=Ic (hl n hn) hc;omega)
theorem DJ {w : World} {b B : Nat} {v u : Value} {xs : List Int} {p : Page} (h : AA w b v xs) (hp : AU w B p u) : ∀ k,v.ownBlock = some k → k ≠ B:=by
 rintro k hk rfl
 obtain ⟨cells,hc⟩:=Co h k hk
 have h1 : w.heap[k]? = _:=hp
 rw [hc] at h1
 injection h1 with h1
 injection h1 with _ h2
 exact absurd h2 (by decide)
theorem VW {w : World} {b : Nat} {v : Value} {ps : List Page} (h : Ii w b v ps) (hn : 0 < ps.length) : ∃ g cap,v = .slice (some ⟨g,0,none⟩) ps.length cap ∧ b ≤ g ∧ g < w.heap.size:=by
 obtain ⟨inner,ho⟩:=Kd.FZ h
 rcases ho.2 with ⟨_,h2⟩ | ⟨g,cap,cur,h1,h2,_⟩
 ·omega
 ·exact ⟨g,cap,h1,BN ho g (by rw [h1];rfl),Np ho g (by rw [h1];rfl)⟩
theorem SF {w : World} {b g n cap : Nat} {ps : List Page} (h : Ii w b (.slice (some ⟨g,0,none⟩) n cap) ps) (i : Nat) (hi : i < n) : ∃ A c,w.cell? ⟨g,i * 3,none⟩ = some (.int .i64 (pg ps i).lsn) ∧ w.cell? ⟨g,i * 3 + 1,none⟩ = some (.int .i64 (pg ps i).owner) ∧ w.cell? ⟨g,i * 3 + 2,none⟩ = some (.slice A (pg ps i).vals.length c) ∧ Kd.C (Kd.int .i64) w A (pg ps i).vals.length (pg ps i).vals ∧ ∀ j,w.frozen? ⟨g,i * 3 + j,none⟩ = false:=by
 obtain ⟨c,hl,hM,hc,hf⟩:=Kd.JW h z0 (i : Int) (by omega) (by omega)
 obtain ⟨v,rfl,hv⟩:=JS hM
 obtain ⟨A,c2,rfl,_,hC⟩:=Kd.D6 hv
 exact ⟨A,c2,hc 0 _ rfl,hc 1 _ rfl,hc 2 _ rfl,hC,hf⟩
theorem D9 {w : World} {b : Nat} {ok : Nat → Prop} {v : Value} {ps : List Page} (h : Ci w b ok v ps) (hn : 0 < ps.length) : ∃ g cap,v = .slice (some ⟨g,0,none⟩) ps.length cap ∧ b ≤ g ∧ g < w.heap.size:=VW (Kd.DZ (Kd.S_R h) (fun _ _ => trivial)) hn
theorem F4 {w : World} {b g n cap : Nat} {ok : Nat → Prop} {ps : List Page} (h : Ci w b ok (.slice (some ⟨g,0,none⟩) n cap) ps) (i : Nat) (hi : i < n) : ∃ A c,w.cell? ⟨g,i * 3,none⟩ = some (.int .i64 (pg ps i).lsn) ∧ w.cell? ⟨g,i * 3 + 1,none⟩ = some (.int .i64 (pg ps i).owner) ∧ w.cell? ⟨g,i * 3 + 2,none⟩ = some (.slice A (pg ps i).vals.length c) ∧ Kd.C (Kd.int .i64) w A (pg ps i).vals.length (pg ps i).vals ∧ ∀ j,w.frozen? ⟨g,i * 3 + j,none⟩ = false:=SF (Kd.DZ (Kd.S_R h) (fun _ _ => trivial)) i hi
theorem Sz {α : Type} (xs : List α) (i : Nat) (x : α) : (xs.set i x).zipIdx = xs.zipIdx.set i (x,i):=by
 apply List.ext_getElem?
 intro j
 rw [List.getElem?_zipIdx,List.getElem?_set,List.getElem?_set,List.getElem?_zipIdx,List.length_zipIdx]
 split
 ·rename_i e
  subst e
  split <;> simp
 ·rfl
section
variable {ops : Array Oper} {rest : List Oper} {o : Oper} {a : Act} {Q : Exit → Act → World → Prop}
theorem Mq {w0 W : World} {g n cap N : Nat} {ps : List Page} {q : Page} {v : Value} (i : Nat) (hn : ps.length = n) (hN : o.dst = none) (hgd : o.guard = none) (s x : Operand) (ho : o.op = .store 47 s x)
  (haddr : a.eval s = .pointer (some ⟨g,i * 3,none⟩)) (hx : a.eval x = q.own v) (hp : AA W N v q.vals) (hN0 : w0.heap.size ≤ N) (HO : Ii W w0.heap.size (.slice (some ⟨g,0,none⟩) n cap) ps) (hi : i < n) (HB : Below w0.heap.size w0 W)
  (h : ∀ w1,Ii w1 w0.heap.size (.slice (some ⟨g,0,none⟩) n cap) (ps.set i q) → Below w0.heap.size w0 w1 → W.grownBy w1 (some g) → wpList Tryz.prog ops Q rest a w1) : wpList Tryz.prog ops Q (o :: rest) a W:=by
 subst hn
 obtain ⟨c,hl,hM,hc,hf⟩:=Kd.JW HO z0 (i : Int) (by omega) (by omega)
 have hne : ∀ k,v.ownBlock = some k → True ∧ k ≠ g:=by
  rintro k hk
  refine ⟨trivial,?_⟩
  rintro rfl
  obtain ⟨cells,hc1⟩:=Co hp k hk
  obtain ⟨inner,ho2⟩:=Kd.FZ HO
  obtain ⟨cells2,hc2⟩:=Co ho2 k rfl
  rw [hc1] at hc2
  injection hc2 with h1
  injection h1 with _ h2
  exact absurd h2 (by decide)
 obtain ⟨A1,c1,rfl,_,_⟩:=AA.reads hp
 refine Kd.PG CJ w0.heap.size hN hgd 47 s x ho _ (i : Int) 0 ps q _ [.int .i64 q.lsn, .int .i64 q.owner, .slice A1 q.vals.length c1] c (fun _ => True) (fun k => True ∧ k ≠ g) haddr (by rw [Nat.add_zero];rfl) hx rfl (by kernel_rfl) (by simp [Value.oneCell']) HO (by omega) (by omega) hl hc (Nat.le_refl 3) ?_ (fun k hk => hk) HB (fun w1 h1 h2 h3 => h w1 h1 h2 h3)
 have hl3 : c.length = 3:=hl
 rw [List.take_zero,List.nil_append,List.drop_of_length_le (by simp [hl3]),List.append_nil]
 exact FH W _ _ q (Kd.EN (DI hp hN0) hne)
theorem Ld {w0 W : World} {g n cap N : Nat} {ps : List Page} {q : Page} {v : Value} {ok : Nat → Prop} (i : Nat) (hn : ps.length = n) (hN : o.dst = none) (hgd : o.guard = none) (s x : Operand) (ho : o.op = .store 47 s x)
  (haddr : a.eval s = .pointer (some ⟨g,i * 3,none⟩)) (hx : a.eval x = q.own v) (hp : AA W N v q.vals) (hN0 : w0.heap.size ≤ N) (HO : Ci W w0.heap.size (fun k => ok k ∧ k < N) (.slice (some ⟨g,0,none⟩) n cap) ps) (hi : i < n) (HB : Below w0.heap.size w0 W)
  (h : ∀ w1,Ci w1 w0.heap.size (fun k => ok k ∨ some k = v.ownBlock) (.slice (some ⟨g,0,none⟩) n cap) (ps.set i q) → Below w0.heap.size w0 w1 → W.grownBy w1 (some g) → wpList Tryz.prog ops Q rest a w1) : wpList Tryz.prog ops Q (o :: rest) a W:=by
 subst hn
 have hgN:=Kr HO g rfl
 obtain ⟨f,hf,hR⟩:=Kd.Vl HO i (fun k => some k = v.ownBlock) (fun k hk h2 => by have:=BN hp k hk.symm;omega)
 have hR2:=Kd.DZ (ok':=fun k => ok k ∨ some k = v.ownBlock) hR (fun k hk => .inl hk.1)
 obtain ⟨c,hl,hM,hc,hfz⟩:=Kd.JW hR2 (z0,0) (i : Int) (by omega) (by omega)
 obtain ⟨A1,c1,rfl,_,_⟩:=AA.reads hp
 refine Kd.PG (Kd.tag f CJ) w0.heap.size hN hgd 47 s x ho _ (i : Int) 0 ps.zipIdx (q,i) _ [.int .i64 q.lsn, .int .i64 q.owner, .slice A1 q.vals.length c1] c (fun k => ok k ∨ some k = (Value.slice A1 q.vals.length c1).ownBlock) (fun k => some k = (Value.slice A1 q.vals.length c1).ownBlock) haddr (by rw [Nat.add_zero];rfl) hx rfl (by kernel_rfl) (by simp [Value.oneCell']) hR2 (by omega) (by omega) hl hc (Nat.le_refl 3) ?_ (fun k hk => ⟨.inr hk,fun e => ?_⟩) HB (fun w1 h1 h2 h3 => ?_)
 ·have hl3 : c.length = 3:=hl
  rw [List.take_zero,List.nil_append,List.drop_of_length_le (by simp [hl3]),List.append_nil]
  exact FH W _ _ q (Kd.EN (DI hp hN0) (fun k hk => ⟨hk.symm,hf k hk.symm⟩))
 ·have h1:=BN hp k hk.symm
  omega
 ·refine h w1 ⟨f,?_⟩ h2 h3
  rw [Sz]
  exact h1
end
end Go.Proofs.YtjeodgfkilhkhaaGreat
namespace Go.Proofs.YtjeodgfkilhkhaaGreat
open Go.RowKit Go.Proofs.YtjeodgfkilhkhaaGreatW.PrintWords Go.Proofs.YtjeodgfkilhkhaaGreatW.PrintLast Go.Proofs.YtjeodgfkilhkhaaGreatW.PrintMore
theorem Di {P : Program} {ops : Array Oper} {l : List Oper} {Q : Exit → Act → World → Prop} {a : Act} {w : World} (r : Rec) (h : ∀ w1,Below w.heap.size w w1 → w1.heap.size = w.heap.size + 1 → GH w1 ⟨w.heap.size,0,none⟩ r → wpList P ops Q l a w1) : wpList P ops Q l a (w.alloc (.cells #[.int .i64 r.kind, .int .i64 r.tx, .int .i64 r.page, .int .i64 r.slot, .int .i64 r.old, .int .i64 r.new, .int .i64 r.prev, .int .i64 r.next] 43)):=
 h _ ((Below.refl _ _).alloc (Nat.le_refl _) _) (BD _ _) (GV w r)
theorem Js {ps : List Page} (h : geo ps) : ps.length = 5:=h.1
theorem Ao {b : Bool} (h : b = true) (k : b = false) : False:=by rw [h] at k;cases k
theorem Iu {w : World} {b B : Nat} {v : Value} {xs : List Int} (h : AA w b v xs) (hg : ∀ k,v.ownBlock = some k → k ≠ B) (p : Page) (u : Value) : AA (CK w B p u) b v xs:=((h.far hg _ _).far hg _ _).far hg _ _
def WZ (w : World) (ps : List Page) (b : Bool) (e : Ending) (w' : World) : Prop := ∃ v,e = .returned (.tuple #[v, .bool b]) ∧ F3 w' w.heap.size v ps ∧ Below w.heap.size w w'
set_option maxRecDepth 100000 in
set_option maxHeartbeats 4000000 in
theorem KG {w0 w : World} {A B : Option Addr} {c d : Nat} {ps : List Page} {l : List Rec} (hg : geo ps) (hok : ∀ k,k < l.length → Cv (rc l k) = true) (hl : l.length ≤ 150) (hb : Below w0.heap.size w0 w) (hr : Kd.C CJ w0 A ps.length ps) (hr2 : Kd.C kRec w0 B l.length l) : Calls Tryz.prog 43 #[.slice A ps.length c, .slice B l.length d] w (WZ w (BI ps l l.length) (Et (BI ps l l.length))):=by
 have HR:=As (BF hr hb)
 have HR2:=As (BF hr2 hb)
 have HG:=As hg
 have HK:=As hok
 clear hr hr2 hb hok hg
 go_enter Tryz.func43,Tryz.ntmps43
 go_wp2_with (go_at_call 36;refine (EW (ET HG.out) (by have:=HG.out.1;omega) (Below.refl _ _) HR.out).mono ?_;rintro e w1 ⟨v,rfl,hO,hb1⟩;obtain ⟨g,cap,rfl,hgb,hgl⟩:=D9 hO (by have:=HG.out.1;omega);have HO:=As hO;have HB:=As hb1;have HGB:=As (And.intro hgb hgl);clear hO hb1 hgb hgl)
 have h5:=HG.out.1
 rw [h5] at HO ⊢
 clear h5
 go_loopw [14] (fun i wr => ∃ k : Nat,k ≤ l.length ∧ i = .int .i64 (k : Int) ∧ A7 (F3 wr w.heap.size (.slice (some ⟨g,0,none⟩) 5 cap) (BI ps l k)) ∧ A7 (Below w.heap.size w wr)) (fun i _ => (l.length - intOf i).toNat)
 case atStart => exact ⟨0,Nat.zero_le _,rfl,HO,HB⟩
 case round =>
  obtain ⟨k,hk,rfl,HO,HW⟩:=hrel
  have HGk:=As (I9 HG.out HK.out k hk)
  by_cases hlt : k < l.length
  ·obtain ⟨ad,rfl,QR⟩:=Cs (BF HR2.out HW.out) k hlt
   obtain ⟨z0,z1,z2,z3,z4,z5,z6,z7⟩:=QR
   cases hc : Cu (rc l k).kind
   ·have HC:=As hc
    clear hc
    go_wp2_with (first | (with_reducible refine Di (rc l k) ?_;intro w2 hb2 hz2 hq2;have HW2:=As (bj HW.out hb2);have HO2:=As (Kd.Bg HO.out hb2);obtain ⟨x0,x1,x2,x3,x4,x5,x6,x7⟩:=hq2;simp only [Nat.zero_add] at x1 x2 x3 x4 x5 x6 x7;clear hb2) | (go_at_call 76;refine (Fz HC.out _).mono ?_;rintro e w3 ⟨rfl,hb3⟩;have hs3:=hb3.size;have HW3:=As (bj HW2.out hb3);have HO3:=As (Kd.Bg HO2.out hb3);clear hb3))
    go_roundw
    case rel => exact ⟨k + 1,by omega,by go_num,⟨by rw [BI,Ee,if_neg (by rw [HC.out];simp)];exact HO3.out⟩,HW3⟩
    case measure => simp [intOf];omega
   ·have HC:=As hc
    have hP:=Ic (HK.out k hlt) hc
    have hp0 : 0 ≤ (rc l k).page:=hP.1
    have hp5 : (rc l k).page < 5:=by omega
    have hpn : (rc l k).page.toNat < 5:=by omega
    have HP:=As hP
    clear hc hP
    rcases lts (pg (BI ps l k) (rc l k).page.toNat).lsn (k + 1 : Int) with ⟨e1,b1,c1⟩ | ⟨e1,b1,c1⟩
    ·go_wp2_with (first | (with_reducible refine Di (rc l k) ?_;intro w2 hb2 hz2 hq2;have HW2:=As (bj HW.out hb2);have HO2:=As (Kd.Bg HO.out hb2);have HQ2:=As hq2;obtain ⟨x0,x1,x2,x3,x4,x5,x6,x7⟩:=hq2;simp only [Nat.zero_add] at x1 x2 x3 x4 x5 x6 x7;clear hb2) | (go_at_call 76;refine (Fz HC.out _).mono ?_;rintro e w3 ⟨rfl,hb3⟩;have hs3:=hb3.size;have HW3:=As (bj HW2.out hb3);have HO3:=As (Kd.Bg HO2.out hb3);have HQ3:=As (HQ2.out.up hb3);obtain ⟨-, -,y2, -, -, -, -, -⟩:=HQ2.out.up hb3;simp only [Nat.zero_add] at y2;obtain ⟨A3,c3,p0,p1,p2,pC, -⟩:=F4 HO3.out (rc l k).page.toNat hpn;have HPC:=As pC;clear hb3 pC))
     obtain ⟨q,hq⟩ : ∃ q,AV (pg (BI ps l k) (rc l k).page.toNat) (rc l k) = q:=⟨_,rfl⟩
     have HQ:=As hq
     have hg3:=Ia HGk.out hpn
     have HG3:=As hg3
     have hgw : g < w3.heap.size:=by have:=HGB.out.2;have:=HW3.out.size;have:=Xv HO3.out g rfl;omega
     have hcall : ∀ wx,Below w3.heap.size w3 wx → Calls Tryz.prog 77 #[(pg (BI ps l k) (rc l k).page.toNat).val A3 c3,(rc l k).val] wx (Oc wx q):=fun wx hb => HQ.out ▸ KA (rc l k) (by rw [HG3.out];decide) (by rw [HG3.out];have:=HP.out;omega) hb HPC.out
     clear hq hg3
     refine Bo (fun lx a wx => (Below w.heap.size w wx ∧ Below w3.heap.size w3 wx) ∧ (Sl 6 39 (fun v wx => ∃ u,v = q.own u ∧ AA wx w3.heap.size u q.vals) lx a wx ∧ Sl 7 9 (fun v wx => ∃ B,v = .pointer (some ⟨B,0,none⟩) ∧ w3.heap.size ≤ B ∧ AU wx B zp (.slice none 0 0)) lx a wx)) 8 rfl (by kernel_rfl) (⟨⟨Ac HW3.out,Ac (Below.refl _ _)⟩,Bp,Bp⟩) (fun HT => ?_)
     refine Bw [0,1,2,3,4,5] ?_
     iterate 6 (refine Bq (v:=?_) HT rfl (by kernel_rfl) rfl (kA Ah (kA (Ak rfl rfl) (Ak rfl rfl))) (by rfl) (fun _ _ _ h => h) (fun lx ax wx hS => ?_) ?_;rotate_left;(obtain ⟨⟨-,hbx⟩, -⟩:=hS;obtain ⟨x0,x1,x2,x3,x4,x5,x6,x7⟩:=HQ3.out.up hbx;simp only [Nat.zero_add] at x1 x2 x3 x4 x5 x6 x7;replace p0:=bc hbx p0;replace p1:=bc hbx p1;replace p2:=bc hbx p2;go_simp;with_reducible rfl);rotate_left;simp only [sc0,sc1])
     refine Bv ?_
     refine AJ [6,7] (by kernel_rfl) (fun i hi w4 hS => ?_)
     rcases List.mem_cons.1 hi with rfl | hi
     ·refine Cz (f:=77) (args:=#[(pg (BI ps l k) (rc l k).page.toNat).val A3 c3,(rc l k).val]) rfl rfl Tryz.func77 (by kernel_rfl) rfl rfl (by rfl) (by simp only [List.map_toArray,List.map_cons,List.map_nil];rfl) ((hcall w4 hS.1.2).mono ?_)
      rintro e w6 ⟨u,rfl,ho,hb⟩
      refine ⟨_,rfl,⟨⟨bj hS.1.1 hb,bj hS.1.2 hb⟩,fun _ => ⟨u,rfl,ho.lower hS.1.2.size⟩,fun h => ?_⟩,?_⟩
      ·exact (Ao h (by kernel_rfl)).elim
      simp only [sc0,sc1]
      refine AJ [7] (by kernel_rfl) (fun i hi w5 hS => ?_)
      obtain rfl:=List.mem_singleton.1 hi
      refine BG (w1:=?_) (.pointer (some ⟨w5.heap.size,0,none⟩)) rfl rfl (by rfl) ?_ ?_
      rotate_left
      ·go_simp
       with_reducible rfl
      refine ⟨⟨⟨Aa hS.1.1 _,Aa hS.1.2 _⟩,fun h => ?_,fun _ => ⟨w5.heap.size,rfl,hS.1.2.size,AU.mk1 w5 zp _⟩⟩,?_⟩
      ·obtain ⟨u1,hu1,ho1⟩:=hS.2.1 (by kernel_rfl)
       exact ⟨u1,hu1,ho1.below (Aa (Below.refl _ _) _)⟩
      simp only [sc0,sc1]
      refine Cb (i:=8) (by kernel_rfl) rfl (fun w7 hS => ?_)
      obtain ⟨⟨h1,h2⟩,h3,h4⟩:=hS
      obtain ⟨u1,hu1,hown⟩:=h3 (by kernel_rfl)
      obtain ⟨B,hB,hBle,hbox⟩:=h4 (by kernel_rfl)
      have hu1 : q.own u = q.own u1:=hu1
      obtain rfl : u = u1:=by simpa using hu1
      obtain rfl : B = w5.heap.size:=by
       have hB : Value.pointer (some ⟨w5.heap.size,0,none⟩) = .pointer (some ⟨B,0,none⟩):=hB
       injection hB with hB
       injection hB with hB
       injection hB with hB
       exact hB.symm
      have H2:=As (CR h2 hBle q u)
      have H1:=As (CR (g:=w5.heap.size) h1 (by have:=HW3.out.size;omega) q u)
      have HBX:=As (hbox.CK q u)
      have HU:=As (Iu hown (DJ hown hbox) q u)
      have HUN:=As (DJ hown hbox)
      have b0:=hbox.c0
      have b1:=hbox.c1
      have b2:=hbox.c2
      have d0:=hbox.frz 0
      have d1:=hbox.frz 1
      have d2:=hbox.frz 2
      obtain ⟨A8,c8,rfl, -, -⟩:=hown.reads
      refine BH (w1:=?_) rfl (by rfl) ?_ ?_
      rotate_left
      ·go_simp
       with_reducible rfl
      refine BM (by kernel_rfl) ?_
      clear hu1 hB h1 h2 h3 h4 hown hbox b0 b1 b2 d0 d1 d2 p0 p1 p2 hcall ho
      obtain ⟨W8,hW8⟩ : ∃ W8,CK w7 w5.heap.size q (.slice A8 q.vals.length c8) = W8:=⟨_,rfl⟩
      rw [hW8] at H1 H2 HBX HU
      have e8:=hW8
      unfold CK at e8
      rw [e8]
      clear e8 hW8
      have b0:=HBX.out.c0
      have b1:=HBX.out.c1
      have b2:=HBX.out.c2
      have d0:=HBX.out.frz 0
      obtain ⟨-, -,x2, -, -, -, -, -⟩:=HQ3.out.up H2.out
      simp only [Nat.zero_add] at x2
      have HS8:=As (And.intro hBle (And.intro hz2 hs3))
      have hne : wr.heap.size ≠ w5.heap.size:=by omega
      have hne2 : w5.heap.size ≠ wr.heap.size:=by omega
      have hne3 : g ≠ w5.heap.size:=by omega
      have HLB:=As hBle
      have HLN:=As hpn
      go_wp2_with (with_reducible refine OE (.store 47 (.tmp 47) (.tmp 46)) rfl ?_;go_loud (refine Ld (ok:=fun _ => True) (w0:=w) (N:=w3.heap.size) (q:=⟨(k : Int) + 1,q.owner,q.vals⟩) (rc l k).page.toNat (Js HGk.out) rfl rfl (.tmp 47) (.tmp 46) rfl rfl rfl (HU.out.far HUN.out _ _) HW3.out.size (Kd.Fe HO3.out (H2.out.setCell (p:=⟨w5.heap.size,0,none⟩) HLB.out _)) HLN.out (H1.out.setCell (p:=⟨w5.heap.size,0,none⟩) (by have:=HW3.out.size;have:=HLB.out;simp only;omega) _) ?_);intro w9 hO9 hB9 hg9;have HO9:=As (Kd.Dt (ok':=fun _ => True) hO9 (fun _ _ => trivial));have HB9:=As hB9;clear hO9 hB9 hg9)
      go_roundw
      case rel => exact ⟨k + 1,by omega,by go_num,⟨by rw [BI,Ee,if_pos ⟨HC.out,by have:=e1.out;push_cast;omega⟩,doR,HQ.out];exact HO9.out⟩,HB9⟩
      case measure => simp [intOf];omega
     ·obtain rfl:=List.mem_singleton.1 hi
      refine BG (w1:=?_) (.pointer (some ⟨w4.heap.size,0,none⟩)) rfl rfl (by rfl) ?_ ?_
      rotate_left
      ·go_simp
       with_reducible rfl
      refine ⟨⟨⟨Aa hS.1.1 _,Aa hS.1.2 _⟩,fun h => ?_,fun _ => ⟨w4.heap.size,rfl,hS.1.2.size,AU.mk1 w4 zp _⟩⟩,?_⟩
      ·exact (Ao h (by kernel_rfl)).elim
      simp only [sc0,sc1]
      refine AJ [6] (by kernel_rfl) (fun i hi w5 hS => ?_)
      obtain rfl:=List.mem_singleton.1 hi
      refine Cz (f:=77) (args:=#[(pg (BI ps l k) (rc l k).page.toNat).val A3 c3,(rc l k).val]) rfl rfl Tryz.func77 (by kernel_rfl) rfl rfl (by rfl) (by simp only [List.map_toArray,List.map_cons,List.map_nil];rfl) ((hcall w5 hS.1.2).mono ?_)
      rintro e w6 ⟨u,rfl,ho,hb⟩
      refine ⟨_,rfl,⟨⟨bj hS.1.1 hb,bj hS.1.2 hb⟩,fun _ => ⟨u,rfl,ho.lower hS.1.2.size⟩,fun h => ?_⟩,?_⟩
      ·obtain ⟨B,hB,hBle,hbox⟩:=hS.2.2 (by kernel_rfl)
       exact ⟨B,hB,hBle,hbox.up hb⟩
      simp only [sc0,sc1]
      refine Cb (i:=8) (by kernel_rfl) rfl (fun w7 hS => ?_)
      obtain ⟨⟨h1,h2⟩,h3,h4⟩:=hS
      obtain ⟨u1,hu1,hown⟩:=h3 (by kernel_rfl)
      obtain ⟨B,hB,hBle,hbox⟩:=h4 (by kernel_rfl)
      have hu1 : q.own u = q.own u1:=hu1
      obtain rfl : u = u1:=by simpa using hu1
      obtain rfl : B = w4.heap.size:=by
       have hB : Value.pointer (some ⟨w4.heap.size,0,none⟩) = .pointer (some ⟨B,0,none⟩):=hB
       injection hB with hB
       injection hB with hB
       injection hB with hB
       exact hB.symm
      have H2:=As (CR h2 hBle q u)
      have H1:=As (CR (g:=w4.heap.size) h1 (by have:=HW3.out.size;omega) q u)
      have HBX:=As (hbox.CK q u)
      have HU:=As (Iu hown (DJ hown hbox) q u)
      have HUN:=As (DJ hown hbox)
      have b0:=hbox.c0
      have b1:=hbox.c1
      have b2:=hbox.c2
      have d0:=hbox.frz 0
      have d1:=hbox.frz 1
      have d2:=hbox.frz 2
      obtain ⟨A8,c8,rfl, -, -⟩:=hown.reads
      refine BH (w1:=?_) rfl (by rfl) ?_ ?_
      rotate_left
      ·go_simp
       with_reducible rfl
      refine BM (by kernel_rfl) ?_
      clear hu1 hB h1 h2 h3 h4 hown hbox b0 b1 b2 d0 d1 d2 p0 p1 p2 hcall ho
      obtain ⟨W8,hW8⟩ : ∃ W8,CK w7 w4.heap.size q (.slice A8 q.vals.length c8) = W8:=⟨_,rfl⟩
      rw [hW8] at H1 H2 HBX HU
      have e8:=hW8
      unfold CK at e8
      rw [e8]
      clear e8 hW8
      have b0:=HBX.out.c0
      have b1:=HBX.out.c1
      have b2:=HBX.out.c2
      have d0:=HBX.out.frz 0
      obtain ⟨-, -,x2, -, -, -, -, -⟩:=HQ3.out.up H2.out
      simp only [Nat.zero_add] at x2
      have HS8:=As (And.intro hBle (And.intro hz2 hs3))
      have hne : wr.heap.size ≠ w4.heap.size:=by omega
      have hne2 : w4.heap.size ≠ wr.heap.size:=by omega
      have hne3 : g ≠ w4.heap.size:=by omega
      have HLB:=As hBle
      have HLN:=As hpn
      go_wp2_with (with_reducible refine OE (.store 47 (.tmp 47) (.tmp 46)) rfl ?_;go_loud (refine Ld (ok:=fun _ => True) (w0:=w) (N:=w3.heap.size) (q:=⟨(k : Int) + 1,q.owner,q.vals⟩) (rc l k).page.toNat (Js HGk.out) rfl rfl (.tmp 47) (.tmp 46) rfl rfl rfl (HU.out.far HUN.out _ _) HW3.out.size (Kd.Fe HO3.out (H2.out.setCell (p:=⟨w4.heap.size,0,none⟩) HLB.out _)) HLN.out (H1.out.setCell (p:=⟨w4.heap.size,0,none⟩) (by have:=HW3.out.size;have:=HLB.out;simp only;omega) _) ?_);intro w9 hO9 hB9 hg9;have HO9:=As (Kd.Dt (ok':=fun _ => True) hO9 (fun _ _ => trivial));have HB9:=As hB9;clear hO9 hB9 hg9)
      go_roundw
      case rel => exact ⟨k + 1,by omega,by go_num,⟨by rw [BI,Ee,if_pos ⟨HC.out,by have:=e1.out;push_cast;omega⟩,doR,HQ.out];exact HO9.out⟩,HB9⟩
      case measure => simp [intOf];omega
    ·go_wp2_with (first | (with_reducible refine Di (rc l k) ?_;intro w2 hb2 hz2 hq2;have HW2:=As (bj HW.out hb2);have HO2:=As (Kd.Bg HO.out hb2);have HQ2:=As hq2;obtain ⟨x0,x1,x2,x3,x4,x5,x6,x7⟩:=hq2;simp only [Nat.zero_add] at x1 x2 x3 x4 x5 x6 x7;clear hb2) | (go_at_call 76;refine (Fz HC.out _).mono ?_;rintro e w3 ⟨rfl,hb3⟩;have hs3:=hb3.size;have HW3:=As (bj HW2.out hb3);have HO3:=As (Kd.Bg HO2.out hb3);have HQ3:=As (HQ2.out.up hb3);obtain ⟨-, -,y2, -, -, -, -, -⟩:=HQ2.out.up hb3;simp only [Nat.zero_add] at y2;obtain ⟨A3,c3,p0,p1,p2,pC, -⟩:=F4 HO3.out (rc l k).page.toNat hpn;have HPC:=As pC;clear hb3 pC))
     go_roundw
     case rel => exact ⟨k + 1,by omega,by go_num,⟨by rw [BI,Ee,if_neg (by have:=e1.out;simp;intro _;omega)];exact HO3.out⟩,HW3⟩
     case measure => simp [intOf];omega
  ·have hke : k = l.length:=by omega
   have HE:=As hke
   clear hke
   go_wp2_with (go_at_call 38;refine (TS HGk.out.1 rfl (Below.refl _ _) (Kd.NN HO.out).2.2).mono ?_;rintro e w2 ⟨rfl,hb2⟩;have HW2:=As (bj HW.out hb2);have HO2:=As (Kd.Bg HO.out hb2);clear hb2)
   go_ret2
   exact ⟨.slice (some ⟨g,0,none⟩) 5 cap,by rw [HE.out];rfl,by rw [← HE.out];exact HO2.out,HW2.out⟩
set_option maxRecDepth 100000 in
theorem SB {α : Type} (d : Kd α) (hsz : d.sz = 3) {o : Oper} {a : Act} {w0 W : World} {g n cap : Nat} {xs : List α} {x' z : α} {q : Page} {v : Value} {ok okp : Nat → Prop} (i : Nat) (s x : Operand) (ho : o.op = .store 47 s x)
  (haddr : a.eval s = .pointer (some ⟨g,i * 3,none⟩)) (hx : a.eval x = q.own v) (hv1 : ∃ A c,v = .slice A q.vals.length c) (HO : d.R 47 W w0.heap.size ok (.slice (some ⟨g,0,none⟩) n cap) xs) (hi : i < n) (HB : Below w0.heap.size w0 W)
  (hM : d.M W w0.heap.size okp x' [.int .i64 q.lsn, .int .i64 q.owner,v]) (hokp : ∀ k,okp k → ok k ∧ k ≠ g) :
  ∃ w1,(execOp a.eval o).run Tryz.prog W = .ok .skip w1 ∧ d.R 47 w1 w0.heap.size ok (.slice (some ⟨g,0,none⟩) n cap) (xs.set i x') ∧ Below w0.heap.size w0 w1 ∧ W.grownBy w1 (some g):=by
 obtain ⟨c,hl,hM0,hc,hf⟩:=Kd.JW HO z (i : Int) (by omega) (by omega)
 obtain ⟨A1,c1,rfl⟩:=hv1
 have hl3 : c.length = 3:=hl.trans hsz
 obtain ⟨hrow,hg⟩:=Kd.Vw (okp:=okp) HO (i : Int) (by omega) (by omega) (seg := [.int .i64 q.lsn, .int .i64 q.owner, .slice A1 q.vals.length c1]) (j:=0) (x':=x') hl hc (by rw [hsz];exact Nat.le_refl 3) (by
  rw [List.take_zero,List.nil_append,List.drop_of_length_le (by simp [hl3]),List.append_nil]
  exact hM) hokp
 rw [hsz] at hrow hg
 have hbg : w0.heap.size ≤ g:=Kd.Sq HO g (by simp [Value.ownBlock])
 have hB : Below w0.heap.size w0 (W.setCells g ((i : Int).toNat * 3 + 0) [.int .i64 q.lsn, .int .i64 q.owner, .slice A1 q.vals.length c1]):=HB.trans ⟨hg.os,hg.tape,hg.output,hg.size,fun k hk => by
  rcases Nat.lt_or_ge k W.heap.size with hlt | hge
  ·exact hg.block k hlt (fun he => by injection he with he;omega)
  ·exact FN _ _ k (by omega)⟩
 refine ⟨_,?_,hrow,hB,hg⟩
 obtain ⟨_,inner,hown,hr⟩:=HO
 have hnx : n = xs.length:=by
  rcases hown.2 with ⟨hv,h0⟩ | ⟨g',cap',cur,hv,_⟩
  ·cases hv
  ·injection hv
 have hrun : (Instr.storeAt 47 (.pointer (some ⟨g,i * 3 + 0,none⟩)) (q.own (.slice A1 q.vals.length c1))).run Tryz.prog W = .ok () (W.setCells g (i * 3 + 0) [.int .i64 q.lsn, .int .i64 q.owner, .slice A1 q.vals.length c1]):=by
  rcases hown.2 with ⟨hv,_⟩ | ⟨g',cap',cur,hv,hb,hh,hnc,hcm,hcs,_⟩
  ·cases hv
  injection hv with ha _ hc
  injection ha with ha
  injection ha with hg'
  subst hg';subst hc
  refine IJ _ _ _ hh rfl (by kernel_rfl) ?_ (by simp [Value.oneCell'])
  have h3 : cur.size = cap * 3:=by rw [← hsz];exact hcs
  simp
  omega
 unfold execOp
 simp only [ho,haddr,hx,Sem.run_bind,Sem.run_pure]
 rw [Nat.add_zero] at hrun
 rw [hrun]
 rfl
theorem Rn {ops : Array Oper} {Q : Exit → Act → World → Prop} {K : Act → World → Prop} {i0 : Nat} {o : Oper} {a : Act} {w0 W : World} {g n cap N : Nat} {ps : List Page} {q : Page} {v : Value} (i : Nat) (_hn : ps.length = n) (s x : Operand) (hi0 : ops.toList[i0]? = some o) (hw : Region.wanted o (yielded ops a.tmps) = true) (ho : o.op = .store 47 s x)
  (haddr : a.eval s = .pointer (some ⟨g,i * 3,none⟩)) (hx : a.eval x = q.own v) (hp : AA W N v q.vals) (hN0 : w0.heap.size ≤ N) (HO : Ii W w0.heap.size (.slice (some ⟨g,0,none⟩) n cap) ps) (hi : i < n) (HB : Below w0.heap.size w0 W)
  (h : ∀ w1,Ii w1 w0.heap.size (.slice (some ⟨g,0,none⟩) n cap) (ps.set i q) → Below w0.heap.size w0 w1 → W.grownBy w1 (some g) → K (a.put o.dst undef) w1) : wpOp Tryz.prog ops Q i0 K a W:=by
 have hne : ∀ k,v.ownBlock = some k → True ∧ k ≠ g:=by
  rintro k hk
  refine ⟨trivial,?_⟩
  rintro rfl
  obtain ⟨cells,hc1⟩:=Co hp k hk
  obtain ⟨inner,ho2⟩:=Kd.FZ HO
  obtain ⟨cells2,hc2⟩:=Co ho2 k rfl
  rw [hc1] at hc2
  injection hc2 with h1
  injection h1 with _ h2
  exact absurd h2 (by decide)
 obtain ⟨A1,c1,hv,_,_⟩:=AA.reads hp
 obtain ⟨w1,hr,h1,h2,h3⟩:=SB CJ rfl (z:=z0) (x':=q) i s x ho haddr hx ⟨A1,c1,hv⟩ HO hi HB (FH W _ _ q (Kd.EN (DI hp hN0) hne)) (fun k hk => hk)
 exact BH hi0 hw hr (h w1 h1 h2 h3)
theorem FC {ops : Array Oper} {Q : Exit → Act → World → Prop} {K : Act → World → Prop} {i0 : Nat} {o : Oper} {a : Act} {w0 W : World} {g n cap N : Nat} {ps : List Page} {q : Page} {v : Value} {ok : Nat → Prop} (i : Nat) (hn : ps.length = n) (s x : Operand) (hi0 : ops.toList[i0]? = some o) (hw : Region.wanted o (yielded ops a.tmps) = true) (ho : o.op = .store 47 s x)
  (haddr : a.eval s = .pointer (some ⟨g,i * 3,none⟩)) (hx : a.eval x = q.own v) (hp : AA W N v q.vals) (hN0 : w0.heap.size ≤ N) (HO : Ci W w0.heap.size (fun k => ok k ∧ k < N) (.slice (some ⟨g,0,none⟩) n cap) ps) (hi : i < n) (HB : Below w0.heap.size w0 W)
  (h : ∀ w1,Ci w1 w0.heap.size (fun k => ok k ∨ some k = v.ownBlock) (.slice (some ⟨g,0,none⟩) n cap) (ps.set i q) → Below w0.heap.size w0 w1 → W.grownBy w1 (some g) → K (a.put o.dst undef) w1) : wpOp Tryz.prog ops Q i0 K a W:=by
 subst hn
 have hgN:=Kr HO g rfl
 obtain ⟨f,hf,hR⟩:=Kd.Vl HO i (fun k => some k = v.ownBlock) (fun k hk h2 => by have:=BN hp k hk.symm;omega)
 have hR2:=Kd.DZ (ok':=fun k => ok k ∨ some k = v.ownBlock) hR (fun k hk => .inl hk.1)
 have hl0 : ps.zipIdx.length = ps.length:=List.length_zipIdx
 obtain ⟨A1,c1,hv,_,_⟩:=AA.reads hp
 obtain ⟨w1,hr,h1,h2,h3⟩:=SB (Kd.tag f CJ) rfl (z:=(z0,0)) (x':=(q,i)) (okp:=fun k => some k = v.ownBlock) i s x ho haddr hx ⟨A1,c1,hv⟩ hR2 hi HB (FH W _ _ q (Kd.EN (DI hp hN0) (fun k hk => ⟨hk.symm,hf k hk.symm⟩))) (fun k hk => ⟨.inr hk,fun e => by have:=BN hp k hk.symm;omega⟩)
 exact BH hi0 hw hr (h w1 ⟨f,by rw [Sz];exact h1⟩ h2 h3)
set_option maxRecDepth 100000 in
set_option maxHeartbeats 4000000 in
theorem Gp {w0 w : World} {A B : Option Addr} {c d : Nat} {ps : List Page} {l : List Rec} (hg : geo ps) (hok : ∀ k,k < l.length → Cv (rc l k) = true) (hl : l.length ≤ 150) (hb : Below w0.heap.size w0 w) (hr : Kd.C CJ w0 A ps.length ps) (hr2 : Kd.C kRec w0 B l.length l) : Calls Tryz.prog 54 #[.slice A ps.length c, .slice B l.length d] w (NQ w (BI ps l l.length)):=by
 have HR:=As (BF hr hb)
 have HR2:=As (BF hr2 hb)
 have HG:=As hg
 have HK:=As hok
 clear hr hr2 hb hok hg
 go_enter Tryz.func54,Tryz.ntmps54
 go_wp2_with (go_at_call 68;refine (Cx (ET HG.out) (by have:=HG.out.1;omega) (Below.refl _ _) HR.out).mono ?_;rintro e w1 ⟨v,rfl,hO,hb1⟩;obtain ⟨g,cap,rfl,hgb,hgl⟩:=D9 hO (by have:=HG.out.1;omega);have HO:=As hO;have HB:=As hb1;have HGB:=As (And.intro hgb hgl);clear hO hb1 hgb hgl)
 have h5:=HG.out.1
 rw [h5] at HO ⊢
 clear h5
 go_loopw [6] (fun i wr => ∃ k : Nat,k ≤ l.length ∧ i = .int .i64 (k : Int) ∧ A7 (F3 wr w.heap.size (.slice (some ⟨g,0,none⟩) 5 cap) (BI ps l k)) ∧ A7 (Below w.heap.size w wr)) (fun i _ => (l.length - intOf i).toNat)
 case atStart => exact ⟨0,Nat.zero_le _,rfl,HO,HB⟩
 case round =>
  obtain ⟨k,hk,rfl,HO,HW⟩:=hrel
  have HGk:=As (I9 HG.out HK.out k hk)
  by_cases hlt : k < l.length
  ·obtain ⟨ad,rfl,QR⟩:=Cs (BF HR2.out HW.out) k hlt
   obtain ⟨z0,z1,z2,z3,z4,z5,z6,z7⟩:=QR
   cases hc : Cu (rc l k).kind
   ·have HC:=As hc
    clear hc
    go_wp2_with (first | (with_reducible refine Di (rc l k) ?_;intro w3 hb2 hz2 hq2;have HW3:=As (bj HW.out hb2);have HO3:=As (Kd.Bg HO.out hb2);have HQ3:=As hq2;obtain ⟨x0,x1,x2,x3,x4,x5,x6,x7⟩:=hq2;simp only [Nat.zero_add] at x1 x2 x3 x4 x5 x6 x7;clear hb2) | (go_at_call 94;refine (DC HC.out _).mono ?_;rintro e w4 ⟨rfl,rfl⟩))
    go_roundw
    case rel => exact ⟨k + 1,by omega,by go_num,⟨by rw [BI,Ee,if_neg (by rw [HC.out];simp)];exact HO3.out⟩,HW3⟩
    case measure => simp [intOf];omega
   ·have HC:=As hc
    have hP:=Ic (HK.out k hlt) hc
    have hp0 : 0 ≤ (rc l k).page:=hP.1
    have hp5 : (rc l k).page < 5:=by omega
    have hpn : (rc l k).page.toNat < 5:=by omega
    have HP:=As hP
    clear hc hP
    rcases lts (pg (BI ps l k) (rc l k).page.toNat).lsn (k + 1 : Int) with ⟨e1,b1,c1⟩ | ⟨e1,b1,c1⟩
    ·go_wp2_with (first | (with_reducible refine Di (rc l k) ?_;intro w3 hb2 hz2 hq2;have HW3:=As (bj HW.out hb2);have HO3:=As (Kd.Bg HO.out hb2);have HQ3:=As hq2;obtain ⟨x0,x1,x2,x3,x4,x5,x6,x7⟩:=hq2;simp only [Nat.zero_add] at x1 x2 x3 x4 x5 x6 x7;obtain ⟨A3,c3,p0,p1,p2,pC, -⟩:=F4 HO3.out (rc l k).page.toNat hpn;have HPC:=As pC;clear pC;clear hb2) | (go_at_call 94;refine (DC HC.out _).mono ?_;rintro e w4 ⟨rfl,rfl⟩))
     obtain ⟨q,hq⟩ : ∃ q,doR (pg (BI ps l k) (rc l k).page.toNat) (rc l k) ((k : Int) + 1) = q:=⟨_,rfl⟩
     have HQ:=As hq
     have hg3:=Ia HGk.out hpn
     have HG3:=As hg3
     have hcall : ∀ wx,Below w3.heap.size w3 wx → Calls Tryz.prog 95 #[(pg (BI ps l k) (rc l k).page.toNat).val A3 c3,(rc l k).val, .int .i64 ((k : Int) + 1)] wx (Oc wx q):=fun wx hb => HQ.out ▸ KM (rc l k) ((k : Int) + 1) (by rw [HG3.out];decide) (by rw [HG3.out];have:=HP.out;omega) hb HPC.out
     have hwr : IntKind.i64.wrap ((k : Int) + 1) = (k : Int) + 1:=by simp (disch:=omega) only [IntWalk.i64_in]
     clear hq hg3
     refine Bo (fun lx a wx => (Below w.heap.size w wx ∧ Below w3.heap.size w3 wx) ∧ Sl 11 45 (fun v wx => ∃ u,v = q.own u ∧ AA wx w3.heap.size u q.vals) lx a wx) 13 rfl (by kernel_rfl) (⟨⟨Ac HW3.out,Ac (Below.refl _ _)⟩,Bp⟩) (fun HT => ?_)
     refine Bw [0,1,2,3,4,5,6,7,8,9,10] ?_
     iterate 11 (refine Bq (v:=?_) HT rfl (by kernel_rfl) rfl (kA Ah (Ak rfl rfl)) (by rfl) (fun _ _ _ h => h) (fun lx ax wx hS => ?_) ?_;rotate_left;(obtain ⟨⟨-,hbx⟩, -⟩:=hS;obtain ⟨x0,x1,x2,x3,x4,x5,x6,x7⟩:=HQ3.out.up hbx;simp only [Nat.zero_add] at x1 x2 x3 x4 x5 x6 x7;replace p0:=bc hbx p0;replace p1:=bc hbx p1;replace p2:=bc hbx p2;go_simp;with_reducible rfl);rotate_left;simp only [sc0,sc1])
     refine Bv ?_
     refine Cr (i:=11) (f:=95) (args:=#[(pg (BI ps l k) (rc l k).page.toNat).val A3 c3,(rc l k).val, .int .i64 ((k : Int) + 1)]) (fun v => ∃ u,v = q.own u) rfl (by kernel_rfl) rfl Tryz.func95 (by kernel_rfl) rfl rfl (by rfl) (by simp only [List.map_toArray,List.map_cons,List.map_nil];rfl) (fun wx hS => (hcall wx hS.1.2).mono (by rintro e w6 ⟨u,rfl,ho,hb⟩;exact ⟨_,rfl,⟨u,rfl⟩,⟨bj hS.1.1 hb,bj hS.1.2 hb⟩,fun _ => ⟨u,rfl,ho.lower hS.1.2.size⟩⟩)) (fun vx hg => ?_);simp only [sc0,sc1]
     obtain ⟨u,rfl⟩:=hg
     refine CZ (i:=12) (v:=?_) HT rfl (by kernel_rfl) rfl (kA Ah (Ak rfl rfl)) (by rfl) (fun _ _ _ h => h) (fun lx ax wx hS => ?_) ?_;rotate_left;(go_simp;with_reducible rfl);rotate_left;simp only [sc0,sc1]
     refine Cb (i:=13) (by kernel_rfl) rfl (fun wx hS => ?_)
     obtain ⟨⟨h1,h2⟩,h3⟩:=hS
     obtain ⟨u1,hu1,hown⟩:=h3 (by kernel_rfl)
     have hu1 : q.own u = q.own u1:=hu1
     obtain rfl : u = u1:=by simpa using hu1
     refine FC (ok:=fun _ => True) (w0:=w) (N:=w3.heap.size) (q:=q) (rc l k).page.toNat (Js HGk.out) (.tmp 46) (.tmp 45) rfl (by rfl) rfl rfl rfl hown HW3.out.size (Kd.Fe HO3.out h2) hpn h1 (fun w8 hO8 hB8 _ => ?_)
     have HO8:=As (Kd.Dt (ok':=fun _ => True) hO8 (fun _ _ => trivial))
     have HB8:=As hB8
     clear hO8 hB8 hown h1 h2 h3 hu1 hcall
     refine BM (by kernel_rfl) ?_
     go_wp2
     go_roundw
     case rel => exact ⟨k + 1,by omega,by go_num,⟨by rw [BI,Ee,if_pos ⟨HC.out,by have:=e1.out;push_cast;omega⟩];push_cast;rw [HQ.out];exact HO8.out⟩,HB8⟩
     case measure => simp [intOf];omega
    ·go_wp2_with (first | (with_reducible refine Di (rc l k) ?_;intro w3 hb2 hz2 hq2;have HW3:=As (bj HW.out hb2);have HO3:=As (Kd.Bg HO.out hb2);have HQ3:=As hq2;obtain ⟨x0,x1,x2,x3,x4,x5,x6,x7⟩:=hq2;simp only [Nat.zero_add] at x1 x2 x3 x4 x5 x6 x7;obtain ⟨A3,c3,p0,p1,p2,pC, -⟩:=F4 HO3.out (rc l k).page.toNat hpn;have HPC:=As pC;clear pC;clear hb2) | (go_at_call 94;refine (DC HC.out _).mono ?_;rintro e w4 ⟨rfl,rfl⟩))
     go_roundw
     case rel => exact ⟨k + 1,by omega,by go_num,⟨by rw [BI,Ee,if_neg (by have:=e1.out;simp;intro _;omega)];exact HO3.out⟩,HW3⟩
     case measure => simp [intOf];omega
  ·have hke : k = l.length:=by omega
   have HE:=As hke
   clear hke
   go_wp2
   go_ret
   exact ⟨_,rfl,by rw [← HE.out];exact HO.out,HW.out⟩
theorem RP (l : List Rec) (tx : Int) (k n : Nat) (h : n ≤ k) : Ae (l.take k) tx n = Ae l tx n:=by
 induction n with
 | zero => rfl
 | succ n ih =>
  have e : rc (l.take k) n = rc l n:=by
   simp only [rc,List.getD_eq_getElem?_getD,List.getElem?_take]
   rw [if_pos (by omega)]
  simp only [Ae,e,ih (by omega)]
theorem JO {w0 w : World} {A : Option Addr} {n k c : Nat} {l : List Rec} (tx : Int) (hb : Below w0.heap.size w0 w) (hr : Kd.C kRec w0 A n l) (hk : k ≤ n) : Calls Tryz.prog 93 #[.slice A k c, .int .i64 tx] w fun e w' => e = .returned (.int .i64 (Ae l tx k)) ∧ w = w':=by
 have hn:=(CY hr).1
 subst hn
 have h1 : Kd.C kRec w0 A k (l.take k):=by
  have:=Kd.Sw hr hk
  rwa [List.length_take,Nat.min_eq_left hk] at this
 have:=FT (c:=c) tx hb h1
 rwa [RP l tx k k (Nat.le_refl _)] at this
def Fy (l : List Rec) (n : Nat) (page : Int) : Bool:=(BO l n).any fun m => (rc l (m - 1)).page == page
theorem Gi (l : List Rec) (p : Int) : Fy l 0 p = false:=by simp [Fy,C9]
theorem OD {l : List Rec} {n : Nat} {p : Int} (h : Bu l (n + 1) ≤ n) : Fy l (n + 1) p = ((rc l n).page == p || Fy l (Bu l (n + 1)) p):=by
 simp [Fy,Dk h]
set_option maxHeartbeats 1000000 in
theorem EI {w0 w : World} {A : Option Addr} {c : Nat} {l : List Rec} {tx page : Int} {b : Bool} (hv : Fy l (Ae l tx l.length) page = b) (hb : Below w0.heap.size w0 w) (hr : Kd.C kRec w0 A l.length l) (hl : Au l = true) : Calls Tryz.prog 60 #[.slice A l.length c, .int .i64 tx, .int .i64 page] w fun e w' => e = .returned (.bool b) ∧ w = w':=by
 have HR:=As hr
 have HB:=As hb
 have HL:=As hl
 have HV:=As hv
 have hm:=(CY hr).2
 clear hr hb hl hv
 go_enter Tryz.func60,Tryz.ntmps60
 go_wp2_with (go_at_call 93;refine (FT tx HB.out HR.out).mono ?_;rintro e w' ⟨rfl,rfl⟩)
 go_loop [7] (fun i => ∃ k : Nat,k ≤ l.length ∧ i = .int .i64 (k : Int) ∧ A7 (Fy l k page = b)) (fun i => (intOf i).toNat)
 case atStart => exact ⟨Ae l tx l.length,Bc _ _ _,rfl,HV⟩
 case round =>
  obtain ⟨k,hk,rfl,HK⟩:=hrel
  rcases k with _ | k
  ·go_wp2
   go_ret
   exact ⟨Af (by rw [← HK.out,Gi]),rfl⟩
  ·have F:=Ag HL.out (k:=k) (by omega)
   obtain ⟨ad,rfl,QR⟩:=Cs HR.out k (by omega)
   have QW:=QR.up HB.out
   obtain ⟨g0,g1,g2,g3,g4,g5,g6,g7⟩:=QW
   have hp:=OD (p:=page) F.prev_le
   have HP:=As hp
   have hle:=F.prev_le
   rw [F.prev] at g6
   clear hp F QR
   rcases BS (rc l k).page page with ⟨e1,b1,c1⟩ | ⟨e1,b1,c1⟩
   ·go_wp2
    go_ret
    exact ⟨Af (by rw [← HK.out,HP.out,b1];rfl),rfl⟩
   ·go_wp2
    go_round
    case rel => exact ⟨Bu l (k + 1),by omega,rfl,⟨by rw [← HK.out,HP.out,b1,Bool.false_or]⟩⟩
    case measure => simp [intOf];omega
theorem Ip {l : List Rec} {n : Nat} (hk : (rc l n).kind = 1 ∨ (rc l n).kind = 2) (h : Bu l (n + 1) ≤ n) : Bt l (n + 1) = n + 1:=by
 rw [Bt,JF hk h];rfl
theorem KY {l : List Rec} {n : Nat} (hk : (rc l n).kind = 6) (h : EY l (n + 1) ≤ n) : Bt l (n + 1) = Bt l (EY l (n + 1)):=by
 rw [Bt,LM hk h];rfl
theorem KZ {l : List Rec} {n : Nat} (h1 : (rc l n).kind ≠ 1) (h2 : (rc l n).kind ≠ 2) (h6 : (rc l n).kind ≠ 6) (h : Bu l (n + 1) ≤ n) : Bt l (n + 1) = Bt l (Bu l (n + 1)):=by
 rw [Bt,K6 h1 h2 h6 h];rfl
theorem Om (l : List Rec) : Bt l 0 = 0:=by rw [Bt,Cn];rfl
set_option maxHeartbeats 2000000 in
theorem Ep {w0 w : World} {A : Option Addr} {c n : Nat} {l : List Rec} (hn : n ≤ l.length) (hb : Below w0.heap.size w0 w) (hr : Kd.C kRec w0 A l.length l) (hl : Au l = true) : Calls Tryz.prog 96 #[.slice A l.length c, .int .i64 n] w fun e w' => e = .returned (.int .i64 (Bt l n)) ∧ Below w0.heap.size w0 w':=by
 have HR:=As hr
 have HB:=As hb
 have HL:=As hl
 have hm:=(CY hr).2
 clear hr hb hl
 go_enter Tryz.func96,Tryz.ntmps96
 go_wp2
 go_loopw [1] (fun i wr => ∃ k : Nat,k ≤ l.length ∧ i = .int .i64 (k : Int) ∧ A7 (Bt l n = Bt l k) ∧ A7 (Below w0.heap.size w0 wr)) (fun i _ => (intOf i).toNat)
 case atStart => exact ⟨n,hn,rfl,⟨rfl⟩,HB⟩
 case round =>
  obtain ⟨k,hk,rfl,HK,HW⟩:=hrel
  rcases k with _ | k
  ·go_wp2
   go_ret
   exact ⟨Dz (by rw [HK.out,Om];rfl),HW.out⟩
  ·have F:=Ag HL.out (k:=k) (by omega)
   obtain ⟨ad,rfl,QR⟩:=Cs HR.out k (by omega)
   have QW:=QR.up HW.out
   obtain ⟨g0,g1,g2,g3,g4,g5,g6,g7⟩:=QW
   have hle:=F.prev_le
   have hle2:=F.next_le
   rw [F.prev] at g6
   rw [F.next] at g7
   clear F QR
   rcases BS (rc l k).kind 1 with ⟨e1,b1,c1⟩ | ⟨e1,b1,c1⟩
   ·go_wp2
    go_ret
    exact ⟨Dz (by rw [HK.out,Ip (.inl e1.out) hle]),Dl HW.out _⟩
   ·rcases BS (rc l k).kind 2 with ⟨e2,b2,c2⟩ | ⟨e2,b2,c2⟩
    ·go_wp2
     go_ret
     exact ⟨Dz (by rw [HK.out,Ip (.inr e2.out) hle]),Dl HW.out _⟩
    ·rcases BS (rc l k).kind 6 with ⟨e3,b3,c3⟩ | ⟨e3,b3,c3⟩
     ·go_wp2
      go_roundw
      case rel => exact ⟨EY l (k + 1),by omega,rfl,⟨by rw [HK.out,KY e3.out hle2]⟩,⟨Dl HW.out _⟩⟩
      case measure => simp [intOf];omega
     ·go_wp2
      go_roundw
      case rel => exact ⟨Bu l (k + 1),by omega,rfl,⟨by rw [HK.out,KZ e1.out e2.out e3.out hle]⟩,⟨Dl HW.out _⟩⟩
      case measure => simp [intOf];omega
def AO (l : List Rec) (page : Int) : Nat → Nat
 | 0 => 0
 | n + 1 => if (rc l n).page = page ∧ (Cu (rc l n).kind = true ∨ (rc l n).kind = 3) then n + 1 else AO l page n
set_option maxHeartbeats 2000000 in
theorem Kv {w0 w : World} {A : Option Addr} {c : Nat} {l : List Rec} (page : Int) (hb : Below w0.heap.size w0 w) (hr : Kd.C kRec w0 A l.length l) : Calls Tryz.prog 99 #[.slice A l.length c, .int .i64 page] w fun e w' => e = .returned (.int .i64 (AO l page l.length)) ∧ w = w':=by
 have HR:=As (BF hr hb)
 have hm:=(CY hr).2
 clear hr hb
 go_enter Tryz.func99,Tryz.ntmps99
 go_wp2
 go_loop [5] (fun i => ∃ k : Nat,k ≤ l.length ∧ i = .int .i64 ((k : Int) - 1) ∧ A7 (AO l page l.length = AO l page k)) (fun i => (intOf i + 1).toNat)
 case atStart => exact ⟨l.length,Nat.le_refl _,rfl,⟨rfl⟩⟩
 case round =>
  obtain ⟨k,hk,rfl,HK⟩:=hrel
  rcases k with _ | k
  ·go_wp2
   go_ret
   exact ⟨Dz (by rw [HK.out];rfl),rfl⟩
  ·obtain ⟨ad,rfl,⟨g0,g1,g2,g3,g4,g5,g6,g7⟩⟩:=Cs HR.out k (by omega)
   rcases BS (rc l k).page page with ⟨e1,b1,c1⟩ | ⟨e1,b1,c1⟩
   ·cases hc : Cu (rc l k).kind
    ·have HC:=As hc
     clear hc
     rcases BS (rc l k).kind 3 with ⟨e2,b2,c2⟩ | ⟨e2,b2,c2⟩
     ·go_wp2_with (go_at_call 94;refine (DC HC.out _).mono ?_;rintro e w' ⟨rfl,rfl⟩)
      go_ret
      exact ⟨Dz (by rw [HK.out,AO,if_pos ⟨e1.out, .inr e2.out⟩];rfl),rfl⟩
     ·go_wp2_with (go_at_call 94;refine (DC HC.out _).mono ?_;rintro e w' ⟨rfl,rfl⟩)
      go_round
      case rel => exact ⟨k,by omega,by go_num,⟨by rw [HK.out,AO,if_neg (by simp [HC.out,e2.out])]⟩⟩
      case measure => simp [intOf]
    ·have HC:=As hc
     clear hc
     go_wp2_with (go_at_call 94;refine (DC HC.out _).mono ?_;rintro e w' ⟨rfl,rfl⟩)
     go_ret
     exact ⟨Dz (by rw [HK.out,AO,if_pos ⟨e1.out, .inl HC.out⟩];rfl),rfl⟩
   ·go_wp2
    go_round
    case rel => exact ⟨k,by omega,by go_num,⟨by rw [HK.out,AO,if_neg (by simp [e1.out])]⟩⟩
    case measure => simp [intOf]
open Go.RowKit Go.Shelf Go.Proofs.YtjeodgfkilhkhaaGreatW.PrintWords Go.Proofs.YtjeodgfkilhkhaaGreatW.PrintLast Go.Proofs.YtjeodgfkilhkhaaGreatW.PrintMore
attribute [local go_sem] Oper.semAt_some
def JB (n k : Nat) : List Nat:=(List.range k).map fun j => n - 1 - j
theorem Gj (n k : Nat) : JB n (k + 1) = JB n k ++ [n - 1 - k]:=by simp [JB,List.range_succ]
theorem FW (n k : Nat) : (JB n k).length = k:=by simp [JB]
abbrev Jz (n : Nat) : Type:={ k : Nat // k < n }
set_option maxRecDepth 100000 in
set_option maxHeartbeats 4000000 in
theorem Vj (F : Fence) (n : Nat) (h7 : F.fn 133) (hro : F.round = none) (hn : 1 ≤ n) (l Bs n₀ cap : Nat) (A : Option Addr) (rs : List Rec) (w0 : World) (hC : Kd.C kRec w0 A rs.length rs) (J Jx : List (Jz rs.length) → World → Prop) (hw0 : w0.heap.size ≤ n₀) (hBn : Bs < n₀)
  (hY : ∀ pre x W,J pre W → pre.length < rs.length → YieldAt F (n - 1) Tryz.prog l #[.int .i64 (x.1 : Nat),(rc rs x.1).val] W fun e W' =>
   (e = .returned (.bool true) ∧ J (pre ++ [x]) W' ∧ Below n₀ W W') ∨ (e = .returned (.bool false) ∧ Jx (pre ++ [x]) W'))
  (W : World) (hBs : W.cell? ⟨Bs,0,none⟩ = some (.slice A rs.length cap)) (hW : Below w0.heap.size w0 W) (h0 : J [] W) :
  CallsIn F n Tryz.prog 133 #[.func (.yield l) #[] #[], .pointer (some ⟨Bs,0,none⟩)] W fun e W' => (∃ v,e = .returned v) ∧
   ((∃ ys : List (Jz rs.length),ys.map (·.1) = JB rs.length rs.length ∧ J ys W') ∨ (∃ pre : List (Jz rs.length),(∃ k,k ≤ rs.length ∧ pre.map (·.1) = JB rs.length k) ∧ Jx pre W')):=by
 have HC:=As hC
 have HW:=As hW
 have hm:=(CY hC).2
 clear hC hW
 refine callsIn_of_wp Tryz.func133 rfl h7 ?_ hro
 simp only [Tryz.ntmps133,List.size_toArray,List.length_cons,List.length_nil,Nat.reduceAdd,Nat.reduceSub,Array.replicate_succ,Array.replicate_zero,List.push_toArray,List.append_toArray,List.nil_append,List.cons_append]
 gi_wp2
 gi_loopw [3] (fun i wr => ∃ (k : Nat) (pre : List (Jz rs.length)),k ≤ rs.length ∧ i = .int .i64 (((rs.length - k : Nat) : Int) - 1) ∧ A7 (pre.map (·.1) = JB rs.length k) ∧ A7 (J pre wr) ∧ A7 (Below n₀ W wr))
  (fun i _ => (intOf i + 1).toNat)
 case atStart => exact ⟨0, [],Nat.zero_le _,by simp,⟨rfl⟩,⟨h0⟩,⟨Below.refl _ _⟩⟩
 case round =>
  obtain ⟨k,pre,hk,rfl,HP,HJ,HX⟩:=hrel
  have hbx : wr.cell? ⟨Bs,0,none⟩ = some (.slice A rs.length cap):=(HX.out.cell (p:=⟨Bs,0,none⟩) hBn).trans hBs
  obtain ⟨m,hm2⟩ : ∃ m,rs.length - k = m:=⟨_,rfl⟩
  rw [hm2]
  rcases m with _ | m
  ·have hkk : k = rs.length:=by omega
   gi_wp2
   go_end0
   exact ⟨⟨_,rfl⟩, .inl ⟨pre,by rw [HP.out,hkk],HJ.out⟩⟩
  ·obtain ⟨ad,rfl,QR⟩:=Cs HC.out m (by omega)
   have hWr : Below w0.heap.size w0 wr:=HW.out.trans (HX.out.mono hw0)
   obtain ⟨g0,g1,g2,g3,g4,g5,g6,g7⟩:=QR.up hWr
   have hpl : pre.length < rs.length:=by
    have:=congrArg List.length HP.out
    rw [List.length_map,FW] at this
    omega
   have HM:=As hm2
   have hml : m < rs.length:=by omega
   clear hm2
   obtain ⟨fn,tmps,assign,body,hy,hR⟩:=hY pre ⟨m,hml⟩ wr HJ.out hpl
   have HR:=As hR
   clear hWr hR
   gi_wp2
   refine HR.out.mono ?_
   rintro e W3 (⟨rfl,hJ3,hk3⟩ | ⟨rfl,hJx3⟩)
   ·have HJ3:=As hJ3
    have HK3:=As hk3
    clear hJ3 hk3
    gi_wp2
    go_roundw
    case rel => exact ⟨k + 1,pre ++ [⟨m,hml⟩],by have:=HM.out;omega,by have:=HM.out;rw [show rs.length - (k + 1) = m by omega],⟨by rw [List.map_append,HP.out,Gj];have:=HM.out;simp;omega⟩,HJ3,⟨HX.out.trans HK3.out⟩⟩
    case measure => simp [intOf]
   ·have HJ3:=As hJx3
    clear hJx3
    gi_wp2
    refine bodyPost_ret (results_none rfl _ _ _) rfl ?_
    exact ⟨⟨_,rfl⟩, .inr ⟨pre ++ [⟨m,hml⟩],⟨k + 1,by have:=HM.out;omega,by rw [List.map_append,HP.out,Gj];have:=HM.out;simp;omega⟩,HJ3.out⟩⟩
set_option maxHeartbeats 1000000 in
theorem Tg (F : Fence) (n : Nat) (h5 : F.fn 118) (hro : F.round = none) (a : Option Addr) (len cap : Nat) (w : World) :
  CallsIn F n Tryz.prog 118 #[.slice a len cap] w fun e w' => e = .returned (.func (.func 133) #[] #[.pointer (some ⟨w.heap.size,0,none⟩)]) ∧ w' = w.alloc (.cells #[.slice a len cap] 24):=by
 refine callsIn_of_wp Tryz.func118 rfl h5 ?_ hro
 simp only [Tryz.ntmps118,List.size_toArray,List.length_cons,List.length_nil,Nat.reduceAdd,Nat.reduceSub,Array.replicate_succ,Array.replicate_zero,List.push_toArray,List.append_toArray,List.nil_append,List.cons_append]
 gi_wp2
 go_ret
 exact ⟨rfl,rfl⟩
theorem NI (F : Fence) (n : Nat) (h7 : F.fn 133) (hro : F.round = none) (hn : 1 ≤ n) (Bs n₀ cap : Nat) (A : Option Addr) (rs : List Rec) (w0 w : World) (hC : Kd.C kRec w0 A rs.length rs) (hw0 : w0.heap.size ≤ n₀) (hBn : Bs < n₀) (hn₀ : n₀ ≤ w.heap.size)
  (hb : Below w0.heap.size w0 w) (hc : w.cell? ⟨Bs,0,none⟩ = some (.slice A rs.length cap)) :
  SeqStopsK F n Tryz.prog 133 #[.pointer (some ⟨Bs,0,none⟩)] (fun x : Jz rs.length => #[Value.int .i64 (x.1 : Nat),(rc rs x.1).val]) (Below n₀) (fun ys => ys.map (·.1) = JB rs.length rs.length) (fun pre => ∃ k,k ≤ rs.length ∧ pre.map (·.1) = JB rs.length k) rs.length w:=fun l J Jx W hW _ _ hY h0 => by
 have hc':=(hW.cell (p:=⟨Bs,0,none⟩) (by show Bs < _;omega)).trans hc
 have hW' : Below w0.heap.size w0 W:=hb.trans (hW.mono hb.size)
 refine (Vj F n h7 hro hn l Bs n₀ cap A rs w0 hC J Jx hw0 hBn hY W hc' hW' h0).mono ?_
 rintro e W' ⟨he,⟨ys,h1,h2⟩ | ⟨pre,h1,h2⟩⟩
 ·exact ⟨he, .inl ⟨ys,h1,h2⟩⟩
 ·exact ⟨he, .inr ⟨pre,h1,h2⟩⟩
theorem KL {l : List Rec} {tx : Int} {n : Nat} : ∀ {k : Nat},k ≤ n → (∀ x ∈ JB n k,(rc l x).tx ≠ tx) → Ae l tx n = Ae l tx (n - k)
 | 0,_,_ => rfl
 | k + 1,hk,h => by
  rw [Gj] at h
  rw [KL (k:=k) (by omega) (fun x hx => h x (List.mem_append_left _ hx))]
  have h1:=h (n - 1 - k) (by simp)
  rw [show n - k = (n - (k + 1)) + 1 by omega]
  rw [Ae,show n - (k + 1) = n - 1 - k by omega,if_neg h1]
end Go.Proofs.YtjeodgfkilhkhaaGreat
namespace Go.Proofs.YtjeodgfkilhkhaaGreat
open Go.RowKit Go.Shelf Go.Proofs.YtjeodgfkilhkhaaGreatW.PrintWords Go.Proofs.YtjeodgfkilhkhaaGreatW.PrintLast Go.Proofs.YtjeodgfkilhkhaaGreatW.PrintMore
attribute [local go_sem] Oper.semAt_some
def Blk (W : World) (B : Nat) (t : TypeId) (cs : Array Value) : Prop:=W.heap[B]? = some (.cells cs t (0,0))
theorem Blk.lt {W : World} {B : Nat} {t : TypeId} {cs : Array Value} (h : Blk W B t cs) : B < W.heap.size:=(Array.getElem?_eq_some_iff.1 h).1
theorem Tf {β : Type} (B : Nat) (t : TypeId) (f : β → Array Value) : Own (fun s W => Blk W B t (f s)):=fun s X Y row hs hg hrow =>
 (hg.block B hs.lt (fun e' => by obtain ⟨o,ho,hc⟩:=hrow B e'.symm;rw [show X.heap[B]? = _ from hs] at ho;cases ho;cases hc)).trans hs
theorem Blk.new (W : World) (t : TypeId) (cs : Array Value) : Blk (W.alloc (.cells cs t)) W.heap.size t cs:=World.alloc_heap_new W _
theorem Blk.recAt {W : World} {B : Nat} {t : TypeId} {r : Rec} (h : Blk W B t #[.int .i64 r.kind, .int .i64 r.tx, .int .i64 r.page, .int .i64 r.slot, .int .i64 r.old, .int .i64 r.new, .int .i64 r.prev, .int .i64 r.next]) : GH W ⟨B,0,none⟩ r:=by
 have hc : ∀ j u,(#[.int .i64 r.kind, .int .i64 r.tx, .int .i64 r.page, .int .i64 r.slot, .int .i64 r.old, .int .i64 r.new, .int .i64 r.prev, .int .i64 r.next] : Array Value)[j]? = some u → W.cell? ⟨B,j,none⟩ = some u:=fun j u hu => by
  rw [World.cell?,show W.heap[B]? = _ from h]
  simpa using hu
 exact ⟨hc 0 _ rfl,hc 1 _ rfl,hc 2 _ rfl,hc 3 _ rfl,hc 4 _ rfl,hc 5 _ rfl,hc 6 _ rfl,hc 7 _ rfl⟩
theorem Eg {B : Nat} {W W1 : World} (h : Below W.heap.size W W1) : KeepsFrom B W W1:=⟨h.size,fun k _ _ hk _ => (h.block k (Array.getElem?_eq_some_iff.1 hk).1).trans hk⟩
set_option maxRecDepth 100000 in
set_option maxHeartbeats 4000000 in
theorem Jp {w0 w : World} {A : Option Addr} {c : Nat} {l : List Rec} (tx : Int) (hb : Below w0.heap.size w0 w) (hr : Kd.C kRec w0 A l.length l) : Calls Tryz.prog 86 #[.slice A l.length c, .int .i64 tx] w fun e w' => e = .returned (.int .i64 (Ae l tx l.length)) ∧ Below w.heap.size w w':=by
 have HR:=As hr
 have HB:=As hb
 have hm:=(CY hr).2
 clear hr hb
 refine (callsIn_wide (n:=5)).1 ?_
 have hro : Fence.wide.round = none:=rfl
 have h1 : 1 ≤ 5:=by omega
 refine callsIn_of_wp_marks Tryz.func86 rfl trivial ?_ hro
 simp only [Tryz.ntmps86,List.size_toArray,List.length_cons,List.length_nil,Nat.reduceAdd,Nat.reduceSub,Array.replicate_succ,Array.replicate_zero,List.push_toArray,List.append_toArray,List.nil_append,List.cons_append]
 gi_wp2_with (refine ⟨trivial,?_⟩;gi_at_call 118;refine (Tg Fence.wide _ trivial hro _ _ _ _).mono ?_;rintro e w' ⟨rfl,rfl⟩)
 have b3:=((Blk.new w 3 #[.int .i64 tx]) : Blk _ _ _ _)
 obtain ⟨W0,hW0⟩ : ∃ W0,((w.alloc (.cells #[.int .i64 tx] 3)).alloc (.cells #[.int .i64 0] 3)).alloc (.cells #[.slice A l.length c] 24) = W0:=⟨_,rfl⟩
 have hsz : W0.heap.size = w.heap.size + 3:=by rw [← hW0];simp
 have hB0 : Below w.heap.size w W0:=by rw [← hW0];exact (((Below.refl _ w).alloc (Nat.le_refl _) _).alloc (by simp) _).alloc (by simp;omega) _
 have bT : Blk W0 w.heap.size 3 #[.int .i64 tx]:=by
  rw [← hW0];exact ((Below.heap_alloc _ _ _ (by simp;omega)).trans (Below.heap_alloc _ _ _ (by simp))).trans (World.alloc_heap_new w _)
 have bR : Boxed W0 (w.heap.size + 1) 3 (.int .i64 0):=by
  rw [← hW0];refine (Below.heap_alloc _ _ _ (by simp)).trans ?_
  have:=World.alloc_heap_new (w.alloc (.cells #[.int .i64 tx] 3)) (.cells #[.int .i64 0] 3);rwa [World.size_alloc] at this
 have bS : W0.cell? ⟨w.heap.size + 1 + 1,0,none⟩ = some (.slice A l.length c):=by
  have : Boxed W0 (w.heap.size + 1 + 1) 24 (.slice A l.length c):=by
   rw [← hW0];have:=World.alloc_heap_new ((w.alloc (.cells #[.int .i64 tx] 3)).alloc (.cells #[.int .i64 0] 3)) (.cells #[.slice A l.length c] 24);rwa [World.size_alloc,World.size_alloc] at this
  exact this.cell
 rw [hW0]
 clear hW0 b3
 have hw0 : Below w0.heap.size w0 W0:=bj HB.out hB0
 have HSZ:=As hsz
 refine wpIn_rangeFunc_ownH (α:=Jz l.length) hro h1 (gf:=133) (lb:=#[.pointer (some ⟨w.heap.size + 1 + 1,0,none⟩)]) rfl trivial (enters_of Tryz.func133 (by kernel_rfl) rfl)
  (NI Fence.wide _ trivial hro (by omega) (w.heap.size + 1 + 1) W0.heap.size c A l w0 W0 HR.out hw0.size (by omega) (Nat.le_refl _) hw0 bS) belowK_t (belowK_b (Nat.le_refl _)) (Below.refl _ _) (fun _ => rfl)
  (fun pre W => (∀ x ∈ pre,(rc l x.1).tx ≠ tx) ∧ Below W0.heap.size W0 W)
  (fun cc pre W => ((cc = .ret ∧ ∃ pre0 x,pre = pre0 ++ [x] ∧ (∀ y ∈ pre0,(rc l y.1).tx ≠ tx) ∧ (rc l x.1).tx = tx) ∧ (∃ x : Jz l.length,pre.getLast? = some x ∧ Boxed W (w.heap.size + 1) 3 (.int .i64 (if EK (rc l x.1).kind = true then 0 else (x.1 : Int) + 1)))) ∧ Below w.heap.size w W)
  (OwnFrom.and (ownFrom_pure _ _) (ownFrom_below (Nat.le_refl _) (Nat.le_refl _)))
  (fun cc => OwnFrom.and (OwnFrom.and (ownFrom_pure _ _) (fun s X Y row hs hg hr => by obtain ⟨x,e1,e2⟩:=hs;exact ⟨x,e1,boxed_own _ _ (fun (_ : Unit) => _) () X Y row e2 hg (fun r e => (hr r e).2)⟩)) (ownFrom_below (Nat.le_refl _) (by omega)))
  ⟨by simp,Below.refl _ _⟩
  (fun x a' W => ∃ Bx,W0.heap.size ≤ Bx ∧ Blk W Bx 43 #[.int .i64 (rc l x.1).kind, .int .i64 (rc l x.1).tx, .int .i64 (rc l x.1).page, .int .i64 (rc l x.1).slot, .int .i64 (rc l x.1).old, .int .i64 (rc l x.1).new, .int .i64 (rc l x.1).prev, .int .i64 (rc l x.1).next] ∧ a' = { tmps:=#[.slice A l.length c, .int .i64 tx,undef, .pointer (some ⟨w.heap.size,0,none⟩), .pointer (some ⟨w.heap.size + 1,0,none⟩), .int .i64 (x.1 : Nat), .pointer (some ⟨Bx,0,none⟩), .slice A l.length c, .func (.func 133) #[] #[.pointer (some ⟨w.heap.size + 1 + 1,0,none⟩)], .int .i64 (x.1 : Nat),(rc l x.1).val,undef,undef,undef,undef,undef,undef,undef,undef],defers := [] })
  (fun x a' _ X Y row hs hg hr => by obtain ⟨Bx,e1,e2,e3⟩:=hs;exact ⟨Bx,e1,Tf Bx 43 (fun (_ : Unit) => #[.int .i64 (rc l x.1).kind, .int .i64 (rc l x.1).tx, .int .i64 (rc l x.1).page, .int .i64 (rc l x.1).slot, .int .i64 (rc l x.1).old, .int .i64 (rc l x.1).new, .int .i64 (rc l x.1).prev, .int .i64 (rc l x.1).next]) () X Y row e2 hg (fun r e => (hr r e).2),e3⟩)
  ?assign ?body ?done ?stop
 all_goals clear hsz
 case assign =>
  rintro lp pre x W K ⟨hp,hB1⟩ hK
  gi_wp2
  exact hK _ _ ((KeepsOthers.alloc _ _).from _) ((Below.refl _ W).alloc hB1.size _) ⟨hp,hB1.alloc hB1.size _⟩ ⟨W.heap.size,hB1.size,Blk.new W _ _,rfl⟩
 case body =>
  rintro lp pre x a' W hlp - ⟨hp,hB1⟩ ⟨Bx,hBx,bX,rfl⟩ hlt
  obtain ⟨g0,g1,g2,g3,g4,g5,g6,g7⟩:=bX.recAt
  have cT : W.cell? ⟨w.heap.size,0,none⟩ = some (.int .i64 tx):=(hB1.cell (p:=⟨w.heap.size,0,none⟩) (by show w.heap.size < _;have:=HSZ.out;omega)).trans (Boxed.cell bT)
  have bR1 : Boxed W (w.heap.size + 1) 3 (.int .i64 0):=(hB1.block _ (by have:=HSZ.out;omega)).trans bR
  have cR:=bR1.cell
  have fR:=bR1.frozen
  have h1' : 1 ≤ 5 - 1 - 1:=by omega
  have hxl : ((x.1 : Nat) : Int) < 9223372036854775807:=by have:=x.2;omega
  have hx0 : (0 : Int) ≤ ((x.1 : Nat) : Int):=Int.natCast_nonneg _
  rcases BS (rc l x.1).tx tx with ⟨e1,b1,c1⟩ | ⟨e1,b1,c1⟩
  ·cases he : EK (rc l x.1).kind
   all_goals
    have HE:=As he
    clear he
    gi_wp2_with (refine ⟨trivial,?_⟩;gi_at_call 74;refine (CallsIn.inRound lp (callsIn_wide.2 (Ls (r:=rc l x.1) HE.out _))).mono ?_;rintro e w1 ⟨rfl,hb1⟩;have cR1:=CO hb1 cR;have fR1:=(hb1.frozen (p:=⟨w.heap.size + 1,0,none⟩) (World.block_lt_of_cell? _ _ cR)).trans fR)
   ·refine ⟨(Eg hb1).trans ((KeepsOthers.setCell _ _ _).from _),⟨⟨rfl,pre,x,rfl,hp,e1.out⟩,x,by simp,?_⟩,((hB0.trans (hB1.mono hB0.size)).trans (hb1.mono ((hB0.trans (hB1.mono hB0.size)).size))).setCell (p:=⟨w.heap.size + 1,0,none⟩) (by simp) _⟩
    rw [HE.out,if_neg (by simp)]
    exact (show Boxed w1 (w.heap.size + 1) 3 (.int .i64 0) from (hb1.block _ bR1.lt).trans bR1).set _
   ·refine ⟨(Eg hb1).trans ((KeepsOthers.setCell _ _ _).from _),⟨⟨rfl,pre,x,rfl,hp,e1.out⟩,x,by simp,?_⟩,((hB0.trans (hB1.mono hB0.size)).trans (hb1.mono ((hB0.trans (hB1.mono hB0.size)).size))).setCell (p:=⟨w.heap.size + 1,0,none⟩) (by simp) _⟩
    rw [HE.out,if_pos rfl]
    exact (show Boxed w1 (w.heap.size + 1) 3 (.int .i64 0) from (hb1.block _ bR1.lt).trans bR1).set _
  ·gi_wp2
   exact ⟨KeepsFrom.refl _ _,Below.refl _ _,fun z hzl hz => (List.mem_append.1 hz).elim (hp ⟨z,hzl⟩) (fun e => by have e2:=List.mem_singleton.1 e;rw [← e2] at e1;exact e1.out),hB1⟩
 case done =>
  rintro D xs W hD hS ⟨hp,hB1⟩ hK
  have bR1 : Boxed W (w.heap.size + 1) 3 (.int .i64 0):=(hB1.block _ (by have:=HSZ.out;omega)).trans bR
  have cR:=bR1.cell
  have fR:=bR1.frozen
  gi_wp2
  have hK':=(KeepsOthers.setCell W ⟨w.heap.size + 1,0,none⟩ (.int .i64 0)).same D _ hK rfl
  refine ⟨by simp, .inl ⟨_,_,rfl,run_takeDeferred hK',?_⟩⟩
  have hc5:=cell_kept (bR1.set (.int .i64 0)).cell (grownBy_putObj' _ D (.deferred none)) (fun r e => by cases e;exact ⟨_,hK',rfl⟩)
  refine ⟨.int .i64 0,?_,?_,((hB0.trans (hB1.mono hB0.size)).setCell (p:=⟨w.heap.size + 1,0,none⟩) (by simp) _).trans (belowK_b (w:=w) (Nat.le_refl _) _ D _ _ (by have:=HSZ.out;omega) hK' rfl rfl)⟩
  ·simp [results,Tryz.f86,go_sem,hc5]
  ·refine Dz ?_
   have:=KL (l:=l) (tx:=tx) (Nat.le_refl _) (fun y hy => by
    rw [← hS] at hy
    obtain ⟨z,hz,rfl⟩:=List.mem_map.1 hy
    exact hp z hz)
   rw [this,Nat.sub_self]
   rfl
 case stop =>
  rintro D cc pre W hD ⟨k,hk,hpk⟩ ⟨⟨⟨rfl,pre0,x,rfl,hp,hx⟩,x',hl',bR1⟩,hB1⟩ hK
  obtain rfl : x = x':=by simpa using hl'
  gi_wp2
  refine ⟨by simp, .inl ⟨_,_,rfl,run_takeDeferred hK,?_⟩⟩
  have hc5:=cell_kept bR1.cell (grownBy_putObj' _ D (.deferred none)) (fun r e => by cases e;exact ⟨_,hK,rfl⟩)
  refine ⟨.int .i64 (if EK (rc l x.1).kind = true then 0 else (x.1 : Int) + 1),?_,?_,hB1.trans (belowK_b (w:=w) (Nat.le_refl _) W D _ _ (by have:=HSZ.out;omega) hK rfl rfl)⟩
  ·simp [results,Tryz.f86,go_sem,hc5]
  ·refine Dz ?_
   rw [List.map_append,List.map_cons,List.map_nil] at hpk
   have hkl : k = pre0.length + 1:=by
    have:=congrArg List.length hpk
    rw [FW] at this
    simp at this
    omega
   subst hkl
   rw [Gj] at hpk
   obtain ⟨h2,h3⟩:=List.append_inj hpk (by simp [FW])
   have hx2 : x.1 = l.length - 1 - pre0.length:=by simpa using h3
   have:=KL (l:=l) (tx:=tx) (n:=l.length) (k:=pre0.length) (by omega) (fun y hy => by
    rw [← h2] at hy
    obtain ⟨z,hz,rfl⟩:=List.mem_map.1 hy
    exact hp z hz)
   rw [this,show l.length - pre0.length = x.1 + 1 by have:=x.2;omega,Ae,if_pos hx]
   split <;> simp
theorem Pg {w0 w : World} {A : Option Addr} {c m : Nat} {l : List Rec} {tx : Int} (h : Ae l tx l.length = m) (hb : Below w0.heap.size w0 w) (hr : Kd.C kRec w0 A l.length l) : Calls Tryz.prog 86 #[.slice A l.length c, .int .i64 tx] w fun e w' => e = .returned (.int .i64 m) ∧ Below w.heap.size w w':=(Jp tx hb hr).mono fun _ _ x => ⟨h ▸ x.1,x.2⟩
end Go.Proofs.YtjeodgfkilhkhaaGreat
