/- A part of the proof: what the last text of the claim says leans on this one. -/
import Derived.Test.YtpjmlpmhgfghbaaGreatRows
import Derived.WalkKit
import Derived.ProofKit
import Derived.JoinedOf
import Derived.Test.YtpjmlpmhgfghbaaGreatProg
import Derived.Below
import Derived.Deep.Draws
import Derived.Deep.AppendLies
import Derived.Maps.AppendAt
import Derived.OwnWalk
import Derived.Laws.BytesArg
import Derived.Laws.MakeOwn
import Derived.Laws.OwnMore
import Derived.Deep.OwnRows
import Derived.Tactics
import Derived.Lib.ConvBytes
import Derived.Lib.Hide
import Derived.Laws.Slices
import Derived.KernelRfl
import Derived.RowKit3
import Derived.Deep.LoopGhost
import Derived.Deep.QuietTactic
import Derived.BigQuiet
import Derived.WideLaws
import Derived.Deep.DeepCutAuto
import Derived.Deep.CutBlock
import Derived.Deep.RegionHeld3
import Derived.Deep.RegionWith
import Derived.Laws.Rows
import Derived.Lib.AppendStr
import Derived.ArgAppend
import Derived.Laws.IdiomCopy
import Derived.OrdersHeld
import Derived.Laws.BitsLemmas
import Derived.RowKit
import Derived.Outline
import Derived.Test.YtpjmlpmhgfghbaaGreatXWWords
import Derived.Test.YtpjmlpmhgfghbaaGreatXWLast
import Derived.Test.YtpjmlpmhgfghbaaGreatXWApart
import Derived.Test.YtpjmlpmhgfghbaaGreatXWMore
import Derived.IntWalk
import Derived.Test.YtpjmlpmhgfghbaaGreatXShelf
import Derived.Lib.Bytes
import Derived.Handy
import Derived.RangeFuncNested
import Derived.RangeFuncBound
import Derived.RangeFuncCalls
import Derived.RangeFuncLeaves
import Derived.RangeFuncBox
import Derived.Shelf.Abstract
import Derived.Shelf.RegionOpen
import Derived.OwnWalkIn
import Derived.TacticsInMore
import Derived.LoopNIn
import Derived.LoopIn
set_option linter.unusedVariables false
set_option linter.unusedSimpArgs false
namespace Go.Proofs.YtpjmlpmhgfghbaaGreat
def JV : List Char:=([104,97,114,110,101,115,115] : List Nat).map Char.ofNat
def JU : List Char:=([54,53,57,99,52,98,51,50,102,102,53,48,102,97,57,51,102,54,100,53,48,51,54,49,101,50,57,57,101,57,100,57,49,48,98,56,50,48,97,52,57,97,100,101,49,48,97,99,98,97,98,55,56,54,53,99,48,101,49,49,49,54,98,57] : List Nat).map Char.ofNat
def Ef : List Char:=([99,117,116] : List Nat).map Char.ofNat
def Fu : List Char:=([97,116] : List Nat).map Char.ofNat
def QE : List Char:=([108,111,111,112,46,101,120,97,109,112,108,101,47,116,97,98,117,108,97,114,105,117,109,47,108,97,119,115,46,70,110,82,117,110,67,117,116,32,108,111,111,112,46,101,120,97,109,112,108,101,47,116,97,98,117,108,97,114,105,117,109,47,108,97,119,115,46,70,110,69,120,97,99,116,82,105,115,101,85,112,32,108,111,111,112,46,101,120,97,109,112,108,101,47,116,97,98,117,108,97,114,105,117,109,47,108,97,119,115,46,70,110,69,120,97,99,116,80,108,97,121,84,114,117,101,32,108,111,111,112,46,101,120,97,109,112,108,101,47,116,97,98,117,108,97,114,105,117,109,47,108,97,119,115,46,70,110,69,120,97,99,116,80,108,97,121,82,117,110] : List Nat).map Char.ofNat
def gap : Char:=Char.ofNat 32
def Me : List Char:=JV ++ gap :: (JU ++ gap :: (Ef ++ gap :: (Fu ++ gap :: QE)))
theorem Vx : Tryz.prog.initOrder = String.ofList Me:=by kernel_rfl
theorem Ui : Tryz.prog.initOrder.toList = Me:=by rw [Vx,String.toList_ofList]
theorem Gy : ∀ (w r : List Char),(w.all fun c => c != gap) = true → wordsSigns (w ++ gap :: r) = w :: wordsSigns r
  | [],r,_ => rfl
  | c :: w,r,h => by
    simp only [List.all_cons,Bool.and_eq_true,bne_iff_ne,ne_eq] at h
    have hne : c ≠ gap:=h.1
    have ih:=Gy w r (by simpa using h.2)
    show wordsSigns (c :: (w ++ gap :: r)) = _
    rw [wordsSigns.eq_3 _ _ (by intro e;exact hne e),ih]
theorem Nj : wordsSigns Tryz.prog.initOrder.toList = JV :: JU :: Ef :: Fu :: wordsSigns QE:=by
  rw [Ui,Me,Gy _ _ (by kernel_rfl),Gy _ _ (by kernel_rfl),Gy _ _ (by kernel_rfl),Gy _ _ (by kernel_rfl)]
theorem IA (ws : List (List Char)) : behindMainWord (JV :: JU :: Ef :: Fu :: ws) = Ef :: Fu :: ws:=by kernel_rfl
theorem Ni (ws : List (List Char)) : stripLifts liftWords (Ef :: Fu :: ws) = ([],Ef :: Fu :: ws):=by kernel_rfl
theorem Nn : Ef = "cut".toList:=by kernel_rfl
theorem OY {P : Program} {r : List (List Char)} (h : wordsSigns P.initOrder.toList = JV :: JU :: Ef :: Fu :: r) (h1 : P.laysLater = false) (h2 : P.bearsReflect = false) (h3 : P.doorFits [] = true) : P.mayEnter = true:=by
  unfold Program.mayEnter
  rw [h,IA]
  simp only [Ni,h1,h2,h3]
  simp [Nn]
theorem UC {P : Program} {r : List (List Char)} (h : wordsSigns P.initOrder.toList = JV :: JU :: Ef :: Fu :: r) : P.liftsFinal = false:=by
  unfold Program.liftsFinal Program.headLifts
  rw [h,IA]
  simp only [Ni]
  simp [Nn]
theorem Vt {P : Program} {r : List (List Char)} (h : wordsSigns P.initOrder.toList = JV :: JU :: Ef :: Fu :: r) : P.make = some Make.cut:=by
  unfold Program.make
  rw [h,IA]
  simp [Nn]
theorem Rw : Tryz.prog.laysLater = false:=by kernel_rfl
theorem Oe : Tryz.prog.bearsReflect = false:=by kernel_rfl
theorem U0 : Tryz.prog.doorFits [] = true:=by kernel_rfl
theorem TR : Tryz.prog.mayEnter = true:=OY Nj Rw Oe U0
theorem Qv : Tryz.prog.liftsFinal = false:=UC Nj
theorem Uz : Tryz.prog.make = some Make.cut:=Vt Nj
open Go.RowKit Go.Proofs.YtpjmlpmhgfghbaaGreatW.PrintWords Go.Proofs.YtpjmlpmhgfghbaaGreatW.PrintLast Go.Proofs.YtpjmlpmhgfghbaaGreatW.PrintMore
theorem sc0 {α : Type _} {a b : α} {l : List α} : (a :: l).set 0 b = b :: l:=rfl
theorem sc1 {α : Type _} {a b : α} {l : List α} {n : Nat} : (a :: l).set (n + 1) b = a :: l.set n b:=rfl
theorem As {p : Prop} (h : p) : Ac p:=⟨h⟩
structure Page where
  lsn : Int
  owner : Int
  vals : List Int
structure Rec where
  kind : Int
  tx : Int
  page : Int
  slot : Int
  old : Int
  new : Int
  prev : Int
  next : Int
structure Eng where
  disk : List Page
  mem : List Page
  log : List Rec
  safe : Int
  down : Bool
structure Evt where
  kind : Int
  tx : Int
  page : Int
  slot : Int
  n : Int
  vals : List Int
def z0 : Page:=⟨0,0, []⟩
def r0 : Rec:=⟨0,0,0,0,0,0,0,0⟩
def v0 : Evt:=⟨0,0,0,0,0, []⟩
def Dw : Kd Page:=Kd.iso (Kd.pair (Kd.int .i64) (Kd.pair (Kd.int .i64) (Kd.slice 3 (Kd.int .i64)))) (fun x => (x.lsn,x.owner,x.vals))
def C8 : Kd Rec:=Kd.iso (Kd.pair (Kd.int .i64) (Kd.pair (Kd.int .i64) (Kd.pair (Kd.int .i64) (Kd.pair (Kd.int .i64) (Kd.pair (Kd.int .i64) (Kd.pair (Kd.int .i64) (Kd.pair (Kd.int .i64) (Kd.int .i64)))))))) (fun x => (x.kind,x.tx,x.page,x.slot,x.old,x.new,x.prev,x.next))
def kEvt : Kd Evt:=Kd.iso (Kd.pair (Kd.int .i64) (Kd.pair (Kd.int .i64) (Kd.pair (Kd.int .i64) (Kd.pair (Kd.int .i64) (Kd.pair (Kd.int .i64) (Kd.slice 3 (Kd.int .i64))))))) (fun x => (x.kind,x.tx,x.page,x.slot,x.n,x.vals))
abbrev Rec.cells (r : Rec) : List Value := [.int .i64 r.kind, .int .i64 r.tx, .int .i64 r.page, .int .i64 r.slot, .int .i64 r.old, .int .i64 r.new, .int .i64 r.prev, .int .i64 r.next]
theorem OC {w : World} {x : Rec} {cs : List Value} (h : C8.K w x cs) : cs = x.cells:=by
  obtain ⟨_,_,rfl,rfl,⟨_,_,rfl,rfl,⟨_,_,rfl,rfl,⟨_,_,rfl,rfl,⟨_,_,rfl,rfl,⟨_,_,rfl,rfl,⟨_,_,rfl,rfl,rfl⟩⟩⟩⟩⟩⟩⟩:=h
  exact rfl
theorem Rz {w : World} {x : Page} {cs : List Value} (h : Dw.K w x cs) : ∃ A c,cs = [.int .i64 x.lsn, .int .i64 x.owner, .slice A x.vals.length c] ∧ x.vals.length ≤ c ∧ (Kd.int .i64).C w A x.vals.length x.vals:=by
  obtain ⟨_,_,rfl,rfl,⟨_,_,rfl,rfl,⟨A2,c2,rfl,l2,g2⟩⟩⟩:=h
  exact ⟨A2,c2,rfl,l2,g2⟩
theorem MI {w : World} {base : Nat} {ok : Nat → Prop} {x : Page} {cs : List Value} (h : Dw.M w base ok x cs) : ∃ v,cs = [.int .i64 x.lsn, .int .i64 x.owner,v] ∧ (Kd.int .i64).R 3 w base ok v x.vals:=by
  obtain ⟨_,_,rfl,rfl,⟨_,_,rfl,rfl,⟨v2,rfl,g2⟩⟩⟩:=h
  exact ⟨v2,rfl,g2⟩
theorem Ir (w : World) (base : Nat) (ok : Nat → Prop) (x : Page) {v : Value} (g2 : (Kd.int .i64).R 3 w base ok v x.vals) : Dw.M w base ok x [.int .i64 x.lsn, .int .i64 x.owner,v]:=⟨[.int .i64 x.lsn], [.int .i64 x.owner,v],rfl,rfl,⟨[.int .i64 x.owner], [v],rfl,rfl,⟨v,rfl,g2⟩⟩⟩
theorem TV {w : World} {x : Evt} {cs : List Value} (h : kEvt.K w x cs) : ∃ A c,cs = [.int .i64 x.kind, .int .i64 x.tx, .int .i64 x.page, .int .i64 x.slot, .int .i64 x.n, .slice A x.vals.length c] ∧ x.vals.length ≤ c ∧ (Kd.int .i64).C w A x.vals.length x.vals:=by
  obtain ⟨_,_,rfl,rfl,⟨_,_,rfl,rfl,⟨_,_,rfl,rfl,⟨_,_,rfl,rfl,⟨_,_,rfl,rfl,⟨A2,c2,rfl,l2,g2⟩⟩⟩⟩⟩⟩:=h
  exact ⟨A2,c2,rfl,l2,g2⟩
def rc (l : List Rec) (k : Nat) : Rec:=l.getD k r0
def pg (l : List Page) (k : Nat) : Page:=l.getD k z0
def iv (l : List Int) (k : Nat) : Int:=l.getD k 0
def ev (l : List Evt) (k : Nat) : Evt:=l.getD k v0
structure G5 (w : World) (a : Addr) (r : Rec) : Prop where
  c0 : w.cell? a = some (.int .i64 r.kind)
  c1 : w.cell? ⟨a.block,a.off + 1,none⟩ = some (.int .i64 r.tx)
  c2 : w.cell? ⟨a.block,a.off + 2,none⟩ = some (.int .i64 r.page)
  c3 : w.cell? ⟨a.block,a.off + 3,none⟩ = some (.int .i64 r.slot)
  c4 : w.cell? ⟨a.block,a.off + 4,none⟩ = some (.int .i64 r.old)
  c5 : w.cell? ⟨a.block,a.off + 5,none⟩ = some (.int .i64 r.new)
  c6 : w.cell? ⟨a.block,a.off + 6,none⟩ = some (.int .i64 r.prev)
  c7 : w.cell? ⟨a.block,a.off + 7,none⟩ = some (.int .i64 r.next)
structure KO (w : World) (a : Addr) (p : Page) (A : Option Addr) (c : Nat) : Prop where
  c0 : w.cell? a = some (.int .i64 p.lsn)
  c1 : w.cell? ⟨a.block,a.off + 1,none⟩ = some (.int .i64 p.owner)
  c2 : w.cell? ⟨a.block,a.off + 2,none⟩ = some (.slice A p.vals.length c)
theorem bc {w0 w : World} (h : Below w0.heap.size w0 w) {a : Addr} {v : Value} (hc : w0.cell? a = some v) : w.cell? a = some v:=CF h hc
theorem G5.up {w0 w : World} {a : Addr} {r : Rec} (h : G5 w0 a r) (hb : Below w0.heap.size w0 w) : G5 w a r:=
  ⟨bc hb h.c0,bc hb h.c1,bc hb h.c2,bc hb h.c3,bc hb h.c4,bc hb h.c5,bc hb h.c6,bc hb h.c7⟩
theorem KO.up {w0 w : World} {a : Addr} {p : Page} {A : Option Addr} {c : Nat} (h : KO w0 a p A c) (hb : Below w0.heap.size w0 w) : KO w a p A c:=
  ⟨bc hb h.c0,bc hb h.c1,bc hb h.c2⟩
theorem Cb {w : World} {A : Option Addr} {n : Nat} {xs : List Rec} (h : Kd.C C8 w A n xs) (i : Nat) (h1 : i < n) : ∃ ad,A = some ad ∧ G5 w (ad.add (i * 8)) (rc xs i):=by
  obtain ⟨ad,c,e,_,hK,hc0⟩:=Kd.R7 h r0 (i : Int) (by omega) (by omega)
  have hc : ∀ j u,c[j]? = some u → w.cell? (ad.add (i * 8 + j)) = some u:=hc0
  obtain rfl:=OC hK
  exact ⟨ad,e,hc 0 _ rfl,by rw [← D8 _ _ 1 (by omega)];exact hc 1 _ rfl,by rw [← D8 _ _ 2 (by omega)];exact hc 2 _ rfl,by rw [← D8 _ _ 3 (by omega)];exact hc 3 _ rfl,by rw [← D8 _ _ 4 (by omega)];exact hc 4 _ rfl,by rw [← D8 _ _ 5 (by omega)];exact hc 5 _ rfl,by rw [← D8 _ _ 6 (by omega)];exact hc 6 _ rfl,by rw [← D8 _ _ 7 (by omega)];exact hc 7 _ rfl⟩
theorem Fz {w : World} {A : Option Addr} {n : Nat} {xs : List Page} (h : Kd.C Dw w A n xs) (i : Nat) (h1 : i < n) : ∃ ad A2 c2,A = some ad ∧ KO w (ad.add (i * 3)) (pg xs i) A2 c2 ∧ (pg xs i).vals.length ≤ c2 ∧ (Kd.int .i64).C w A2 (pg xs i).vals.length (pg xs i).vals:=by
  obtain ⟨ad,c,e,_,hK,hc0⟩:=Kd.R7 h z0 (i : Int) (by omega) (by omega)
  have hc : ∀ j u,c[j]? = some u → w.cell? (ad.add (i * 3 + j)) = some u:=hc0
  obtain ⟨A2,c2,rfl,l2,g2⟩:=Rz hK
  exact ⟨ad,A2,c2,e,⟨hc 0 _ rfl,by rw [← D8 _ _ 1 (by omega)];exact hc 1 _ rfl,by rw [← D8 _ _ 2 (by omega)];exact hc 2 _ rfl⟩,l2,g2⟩
theorem Dk {w : World} {A : Option Addr} {n : Nat} {xs : List Int} (h : Kd.C (Kd.int .i64) w A n xs) (i : Nat) (h1 : i < n) : ∃ ad,A = some ad ∧ w.cell? (ad.add i) = some (.int .i64 (iv xs i)):=by
  obtain ⟨ad,c,e,_,hK,hc0⟩:=Kd.R7 h 0 (i : Int) (by omega) (by omega)
  have hc : ∀ j u,c[j]? = some u → w.cell? (ad.add (i * 1 + j)) = some u:=hc0
  obtain rfl : c = [.int .i64 (iv xs i)]:=hK
  have:=hc 0 _ rfl
  rw [Nat.mul_one,Nat.add_zero] at this
  exact ⟨ad,e,this⟩
abbrev Rec.val (r : Rec) : Value:=.agg #[.int .i64 r.kind, .int .i64 r.tx, .int .i64 r.page, .int .i64 r.slot, .int .i64 r.old, .int .i64 r.new, .int .i64 r.prev, .int .i64 r.next]
theorem D5 {α : Type} {d : Kd α} {w : World} {A : Option Addr} {n : Nat} {xs : List α} (h : Kd.C d w A n xs) : xs.length = n ∧ n ≤ 9223372036854775807:=⟨h.1,h.2.1⟩
theorem AJ {a b : Bool} (h : a = b) : Ending.returned (.bool a) = .returned (.bool b):=by rw [h]
theorem En {k : IntKind} {a b : Int} (h : a = b) : Ending.returned (.int k a) = .returned (.int k b):=by rw [h]
theorem bj {w0 w w' : World} (h : Below w0.heap.size w0 w) (k : Below w.heap.size w w') : Below w0.heap.size w0 w':=RJ h h.size k
theorem BM {α : Type} {d : Kd α} {w0 w : World} {A : Option Addr} {n : Nat} {xs : List α} (h : Kd.C d w0 A n xs) (hb : Below w0.heap.size w0 w) : Kd.C d w A n xs:=Kd.Tp h hb
theorem BS (a b : Int) : (Ac (a = b) ∧ (a == b) = true ∧ (a != b) = false) ∨ (Ac (a ≠ b) ∧ (a == b) = false ∧ (a != b) = true):=by
  by_cases h : a = b
  · exact .inl ⟨⟨h⟩,by simp [h],by simp [h]⟩
  · exact .inr ⟨⟨h⟩,by simp [h],by simp [h]⟩
theorem lts (a b : Int) : (Ac (a < b) ∧ decide (a < b) = true ∧ decide (b ≤ a) = false) ∨ (Ac (b ≤ a) ∧ decide (a < b) = false ∧ decide (b ≤ a) = true):=by
  by_cases h : a < b
  · exact .inl ⟨⟨h⟩,by simp [h],by simp;omega⟩
  · exact .inr ⟨⟨by omega⟩,by simp;omega,by simp;omega⟩
def inB (a b c : Int) : Bool:=decide (b ≤ a) && decide (a ≤ c)
theorem DI {a b c : Int} : inB a b c = true ↔ b ≤ a ∧ a ≤ c:=by simp [inB]
theorem Ce (a b c : Int) (w : World) : Calls Tryz.prog 77 #[.int .i64 a, .int .i64 b, .int .i64 c] w fun e w' => e = .returned (.bool (inB a b c)) ∧ w = w':=by
  go_enter Tryz.func77,Tryz.ntmps77
  go_wp2 <;> (go_ret;exact ⟨by simp [inB];try omega,rfl⟩)
theorem Eo (a b c : Int) (w : World) : Calls Tryz.prog 77 #[.int .i64 a, .int .i64 b, .int .i64 c] w fun e w' => e = .returned (.bool (inB a b c)) ∧ w' = w:=(Ce a b c w).mono fun _ _ h => ⟨h.1,h.2.symm⟩
theorem BZ (a b c : Int) (w : World) : Calls Tryz.prog 55 #[.int .i64 a, .int .i64 b, .int .i64 c] w fun e w' => e = .returned (.bool (inB a b c)) ∧ w = w':=by
  go_enter Tryz.func55,Tryz.ntmps55
  go_wp2 <;> (go_ret;exact ⟨by simp [inB];try omega,rfl⟩)
theorem Bz (a : Int) (w : World) : Calls Tryz.prog 156 #[.int .i64 a] w fun e w' => e = .returned (.bool (inB a 0 4)) ∧ w = w':=by
  go_enter Tryz.func156,Tryz.ntmps156
  go_wp2_with (go_at_call 77;refine (Ce _ _ _ _).mono ?_;rintro e w' ⟨rfl,rfl⟩)
  go_ret
  exact ⟨rfl,rfl⟩
theorem Ca (a : Int) (w : World) : Calls Tryz.prog 173 #[.int .i64 a] w fun e w' => e = .returned (.bool (inB a 1 3)) ∧ w = w':=by
  go_enter Tryz.func173,Tryz.ntmps173
  go_wp2_with (go_at_call 77;refine (Ce _ _ _ _).mono ?_;rintro e w' ⟨rfl,rfl⟩)
  go_ret
  exact ⟨rfl,rfl⟩
def Cx (k : Int) : Bool:=k == 1 || k == 2 || k == 6
def EI (k : Int) : Bool:=k == 4 || k == 5
theorem Od (r : Rec) (w : World) : Calls Tryz.prog 105 #[r.val] w fun e w' => e = .returned (.bool (Cx r.kind)) ∧ Below w.heap.size w w':=by
  go_enter Tryz.func105,Tryz.ntmps105
  go_wp2 <;> (go_ret;exact ⟨by simp [Cx, *],(Below.refl _ _).alloc (Nat.le_refl _) _⟩)
theorem RG (r : Rec) (w : World) : Calls Tryz.prog 133 #[r.val] w fun e w' => e = .returned (.bool (EI r.kind)) ∧ Below w.heap.size w w':=by
  go_enter Tryz.func133,Tryz.ntmps133
  go_wp2 <;> (go_ret;exact ⟨by simp [EI, *],(Below.refl _ _).alloc (Nat.le_refl _) _⟩)
theorem MW (k : Int) (w : World) : Calls Tryz.prog 159 #[.int .i64 k] w fun e w' => e = .returned (.bool (Cx k)) ∧ w = w':=by
  go_enter Tryz.func159,Tryz.ntmps159
  go_wp2 <;> (go_ret;exact ⟨by simp [Cx, *],rfl⟩)
theorem Fp {k : Int} {b : Bool} (h : Cx k = b) (w : World) : Calls Tryz.prog 159 #[.int .i64 k] w fun e w' => e = .returned (.bool b) ∧ w = w':=(MW k w).mono fun _ _ x => ⟨h ▸ x.1,x.2⟩
theorem F3 {r : Rec} {b : Bool} (h : Cx r.kind = b) (w : World) : Calls Tryz.prog 105 #[r.val] w fun e w' => e = .returned (.bool b) ∧ Below w.heap.size w w':=(Od r w).mono fun _ _ x => ⟨h ▸ x.1,x.2⟩
theorem Lr {r : Rec} {b : Bool} (h : EI r.kind = b) (w : World) : Calls Tryz.prog 133 #[r.val] w fun e w' => e = .returned (.bool b) ∧ Below w.heap.size w w':=(RG r w).mono fun _ _ x => ⟨h ▸ x.1,x.2⟩
theorem SI {a b c : Int} {t : Bool} (h : inB a b c = t) (w : World) : Calls Tryz.prog 77 #[.int .i64 a, .int .i64 b, .int .i64 c] w fun e w' => e = .returned (.bool t) ∧ w' = w:=(Ce a b c w).mono fun _ _ x => ⟨h ▸ x.1,x.2.symm⟩
def CU (r : Rec) : Bool:=
  (if r.kind = 1 then inB r.page 0 4 && inB r.slot 0 2 && inB r.old 0 (if r.slot = -1 then 3 else 9) && inB r.new 0 (if r.slot = -1 then 3 else 9) && r.next == 0
   else if r.kind = 2 then inB r.page 0 4 && r.slot == -1 && inB r.old 0 (if r.slot = -1 then 3 else 9) && inB r.new 0 (if r.slot = -1 then 3 else 9) && r.next == 0
   else if r.kind = 3 then inB r.page 0 4 && r.slot == 0 && r.old == 0 && r.new == 0 && r.next == 0
   else if r.kind = 4 then r.page == 0 && r.slot == 0 && r.old == 0 && r.new == 0 && r.next == 0
   else if r.kind = 5 then r.page == 0 && r.slot == 0 && r.old == 0 && r.new == 0 && r.next == 0
   else if r.kind = 6 then inB r.page 0 4 && inB r.slot (-1) 2 && r.old == 0 && inB r.new 0 (if r.slot = -1 then 3 else 9) && inB r.next 0 150
   else false) && inB r.tx 1 3 && inB r.prev 0 150
theorem D7 {r : Rec} : CU r = true ↔ ((r.kind = 1 ∧ 0 ≤ r.page ∧ r.page ≤ 4 ∧ 0 ≤ r.slot ∧ r.slot ≤ 2 ∧ 0 ≤ r.old ∧ r.old ≤ 9 ∧ 0 ≤ r.new ∧ r.new ≤ 9 ∧ r.next = 0) ∨
    (r.kind = 2 ∧ 0 ≤ r.page ∧ r.page ≤ 4 ∧ r.slot = -1 ∧ 0 ≤ r.old ∧ r.old ≤ 3 ∧ 0 ≤ r.new ∧ r.new ≤ 3 ∧ r.next = 0) ∨
    (r.kind = 3 ∧ 0 ≤ r.page ∧ r.page ≤ 4 ∧ r.slot = 0 ∧ r.old = 0 ∧ r.new = 0 ∧ r.next = 0) ∨
    ((r.kind = 4 ∨ r.kind = 5) ∧ r.page = 0 ∧ r.slot = 0 ∧ r.old = 0 ∧ r.new = 0 ∧ r.next = 0) ∨
    (r.kind = 6 ∧ 0 ≤ r.page ∧ r.page ≤ 4 ∧ -1 ≤ r.slot ∧ r.slot ≤ 2 ∧ r.old = 0 ∧ 0 ≤ r.new ∧ (r.slot = -1 → r.new ≤ 3) ∧ r.new ≤ 9 ∧ 0 ≤ r.next ∧ r.next ≤ 150)) ∧ 1 ≤ r.tx ∧ r.tx ≤ 3 ∧ 0 ≤ r.prev ∧ r.prev ≤ 150:=by
  unfold CU
  by_cases hs : r.slot = -1
  · rw [if_pos hs]
    by_cases k1 : r.kind = 1
    · simp [inB,k1];omega
    by_cases k2 : r.kind = 2
    · simp [inB,k2];omega
    by_cases k3 : r.kind = 3
    · simp [inB,k3];omega
    by_cases k4 : r.kind = 4
    · simp [inB,k4];omega
    by_cases k5 : r.kind = 5
    · simp [inB,k5];omega
    by_cases k6 : r.kind = 6
    · simp [inB,k6];omega
    simp [k1,k2,k3,k4,k5,k6]
  · rw [if_neg hs]
    by_cases k1 : r.kind = 1
    · simp [inB,k1];omega
    by_cases k2 : r.kind = 2
    · simp [inB,k2];omega
    by_cases k3 : r.kind = 3
    · simp [inB,k3];omega
    by_cases k4 : r.kind = 4
    · simp [inB,k4];omega
    by_cases k5 : r.kind = 5
    · simp [inB,k5];omega
    by_cases k6 : r.kind = 6
    · simp [inB,k6];omega
    simp [k1,k2,k3,k4,k5,k6]
def Bq (r : Rec) (prev : Int) : Rec:=⟨6,r.tx,r.page,r.slot,0,r.old,prev,r.prev⟩
theorem NP (r : Rec) (n : Int) (w : World) : Calls Tryz.prog 110 #[r.val, .int .i64 n] w fun e w' => e = .returned (Bq r n).val ∧ Below w.heap.size w w':=by
  go_enter Tryz.func110,Tryz.ntmps110
  go_wp2
  exact bodyPost_ret (v:=(Bq r n).val) (by simp [results,Tryz.results110,go_sem,Bq]) rfl ⟨rfl,(((Below.refl _ _).alloc (Nat.le_refl _) _).alloc (by simp) _)⟩
open Go.RowKit Go.Proofs.YtpjmlpmhgfghbaaGreatW.PrintWords Go.Proofs.YtpjmlpmhgfghbaaGreatW.PrintLast
section
variable {P : Program} {ops : Array Oper} {Q : Exit → Act → World → Prop} {md : Region.Mode} {S : World → Prop}
theorem R9 {c : Code} {a : Act} {w : World} {r : Rec} {T : TypeId} (h : ∀ w1,Below w.heap.size w w1 → G5 w1 ⟨w.heap.size,0,none⟩ r → c.wp P Q a w1) : c.wp P Q a (w.alloc (.cells #[.int .i64 r.kind, .int .i64 r.tx, .int .i64 r.page, .int .i64 r.slot, .int .i64 r.old, .int .i64 r.new, .int .i64 r.prev, .int .i64 r.next] T (0,0))):=
  h _ ((Below.refl _ _).alloc (Nat.le_refl _) _) ⟨by go_simp,by go_simp,by go_simp,by go_simp,by go_simp,by go_simp,by go_simp,by go_simp⟩
def Eff (P : Program) (S : World → Prop) (v : Value) : Result Next → Prop
  | .ok (.value u) w' => u = v ∧ S w'
  | .ok .skip w' => v = undef ∧ S w'
  | .ok (.enter f args) w' => Calls P f args w' fun e w'' => e = .returned v ∧ S w''
  | _ => False
def H7 (P : Program) (ops : Array Oper) (S : World → Prop) (o : Oper) (v : Value) (a : Act) : Prop:=
  (Region.wanted o (yielded ops a.tmps) = true ∧ ∀ w,S w → Eff P S v ((execOp a.eval o).run P w)) ∨
  (Region.wanted o (yielded ops a.tmps) = false ∧ v = undef)
theorem H7.wpOp {i : Nat} {o : Oper} {v : Value} {a : Act} (hi : ops[i]? = some o) (hy : H7 P ops S o v a)
    {K : Act → World → Prop} {w : World} (hS : S w) (h : ∀ w',S w' → K (a.put o.dst v) w') : wpOp P ops Q i K a w:=by
  unfold Go.wpOp
  simp only [hi]
  rcases hy with ⟨hw,hv⟩ | ⟨hw,rfl⟩
  · simp only [hw,if_true]
    refine .inl ?_
    have h1:=hv w hS
    unfold Oper.wp
    generalize (execOp a.eval o).run P w = r at h1 ⊢
    cases r with
    | ok n w' =>
      cases n <;> simp only [Eff] at h1 <;> try exact h1.elim
      case value u => obtain ⟨rfl,h2⟩:=h1;exact h _ h2
      case skip => obtain ⟨rfl,h2⟩:=h1;exact h _ h2
      case enter f args => exact Calls.mono h1 fun e w'' he => by obtain ⟨rfl,h2⟩:=he;exact h _ h2
    | halt x w' => simp only [Eff] at h1
  · simp only [hw,Bool.false_eq_true,if_false];exact h _ hS
theorem H7.of_same {o : Oper} {v : Value} {a a' : Act} (hy : H7 P ops S o v a) (he : execOp a'.eval o = execOp a.eval o)
    (hw : Region.wanted o (yielded ops a'.tmps) = Region.wanted o (yielded ops a.tmps)) : H7 P ops S o v a':=by
  unfold H7 at *
  rw [he,hw]
  exact hy
theorem Tq {j : Nat} {oi oj : Oper} {v : Value} (hj : ops[j]? = some oj) (hap : oi.apart ops oj = true)
    (hsi : ∀ cs b,oi.op ≠ .select cs b) (hsj : ∀ cs b,oj.op ≠ .select cs b)
    (hQ : ∀ c a w,Q (.panic c) (a.put oi.dst v) w → Q (.panic c) a w) {K : Act → World → Prop} {a : Act} {w : World}
    (hy : H7 P ops S oi v a) (h : wpOp P ops Q j K (a.put oi.dst v) w) :
    wpOp P ops Q j (fun a' w' => H7 P ops S oi v a' ∧ K (a'.put oi.dst v) w') a w:=by
  obtain ⟨h1,h2,h3⟩:=Oper.apart_spec hap
  have keep : ∀ (a : Act),H7 P ops S oi v a → ∀ u,H7 P ops S oi v (a.put oj.dst u):=fun a hy u =>
    hy.of_same (execOp_put oi hsi a oj.dst u h3) (wanted_put oi a oj.dst u h3)
  have keepD : ∀ d,H7 P ops S oi v { a with defers:=d :: a.defers }:=fun d => hy.of_same rfl rfl
  unfold wpOp at *
  simp only [hj] at *
  rw [wanted_put oj a oi.dst v h1] at h
  split
  · rename_i hw
    simp only [hw,if_true] at h
    rcases h with h | ⟨hasks,hlets⟩
    case inr => exact .inr ⟨by unfold Oper.asks at *;rw [execOp_put oj hsj a oi.dst v h1] at hasks;exact hasks,hlets⟩
    refine .inl ?_
    unfold Oper.wp at *
    rw [execOp_put oj hsj a oi.dst v h1] at h
    generalize (execOp a.eval oj).run P w = r at *
    cases r with
    | ok n w' =>
      cases n <;> simp only [Oper.upon] at h ⊢
      case value u => exact ⟨keep a hy u,by rw [← Act.put_comm a v u h2];exact h⟩
      case skip => exact ⟨keep a hy _,by rw [← Act.put_comm a v undef h2];exact h⟩
      case defer d =>
        refine ⟨keep _ (keepD d) _,?_⟩
        rw [← Act.put_comm _ v undef h2, ← Act.put_defers]
        exact h
      case enter f args =>
        refine Calls.mono h fun e w'' he => ?_
        cases e with
        | returned u => exact ⟨keep a hy u,by rw [← Act.put_comm a v u h2];exact he⟩
        | panicked c => exact hQ _ _ _ he
        | outgrown => exact he
      case row row args => exact Rows.mono h fun u w'' he => ⟨keep a hy u,by rw [← Act.put_comm a v u h2];exact he⟩
    | halt x w' =>
      cases x <;> simp only [Oper.upon] at h ⊢
      case panic u => exact hQ _ _ _ h
  · rename_i hw
    simp only [hw] at h
    exact ⟨keep a hy _,by rw [← Act.put_comm a v undef h2];exact h⟩
def wpAnyS (P : Program) (md : Region.Mode) (ops : Array Oper) (Q : Exit → Act → World → Prop) (S : World → Prop) : Nat → Array Bool → Act → Prop
  | 0,listed,a => Region.ready md ops listed = [] ∧ ∀ w,S w → Q .normal a w
  | fuel + 1,listed,a =>
    (Region.ready md ops listed = [] → ∀ w,S w → Q .normal a w) ∧
    ∀ i ∈ Region.ready md ops listed, ∀ w,S w → wpOp P ops Q i (fun a' w' => S w' ∧ wpAnyS P md ops Q S fuel (listed.setIfInBounds i true) a') a w
theorem Nh : ∀ (fuel : Nat) (listed : Array Bool) (a : Act) (w : World),S w → wpAnyS P md ops Q S fuel listed a → wpAny P md ops Q fuel listed a w
  | 0,_,_,w,hS,h => ⟨h.1,h.2 w hS⟩
  | fuel + 1,_,_,w,hS,h => ⟨fun hr => h.1 hr w hS,fun i hi => wpOp_mono (fun a' w' h' => Nh fuel _ a' w' h'.1 h'.2) (h.2 i hi w hS)⟩
theorem wpAnyS_first {i : Nat} {oi : Oper} {v : Value} (hi : ops[i]? = some oi) (hsel : ∀ (j : Nat) (o : Oper) cs b,ops[j]? = some o → o.op ≠ .select cs b)
    (hQ : ∀ c a w,Q (.panic c) (a.put oi.dst v) w → Q (.panic c) a w) :
    ∀ (fuel : Nat) (listed : Array Bool) (a : Act),
      (∀ j oj,ops[j]? = some oj → j ≠ i → listed.getD j true = false → (∀ e ∈ oj.after,Region.binds md e = true → e.on ≠ i) → oi.apart ops oj = true) →
      i ∈ Region.ready md ops listed → H7 P ops S oi v a →
      wpAnyS P md ops Q S fuel (listed.setIfInBounds i true) (a.put oi.dst v) → wpAnyS P md ops Q S (fuel + 1) listed a:=by
  intro fuel
  induction fuel with
  | zero =>
    intro listed a _ hr hy H
    refine ⟨fun h => (by rw [h] at hr;cases hr),fun j hj w hS => ?_⟩
    by_cases hji : j = i
    · subst hji;exact hy.wpOp hi hS (fun w' h' => ⟨h',H⟩)
    · have:=ready_mono hj hji
      rw [H.1] at this
      cases this
  | succ fuel ih =>
    intro listed a hfree hr hy H
    refine ⟨fun h => (by rw [h] at hr;cases hr),fun j hj w hS => ?_⟩
    by_cases hji : j = i
    · subst hji;exact hy.wpOp hi hS (fun w' h' => ⟨h',H⟩)
    · have h1:=H.2 j (ready_mono hj hji) w hS
      obtain ⟨hjun,oj,hoj,hall⟩:=mem_ready.1 hj
      have hnot : ∀ e ∈ oj.after,Region.binds md e = true → e.on ≠ i:=fun e he hb heq => by
        have h1:=hall e he hb
        have h0:=(mem_ready.1 hr).1
        rw [heq] at h1
        rcases Nat.lt_or_ge i listed.size with h' | h'
        · simp [h'] at h0 h1;rw [h0] at h1;cases h1
        · simp [Array.getElem?_eq_none h'] at h1
      have h2:=Tq hoj (hfree j oj hoj hji hjun hnot) (fun cs b => hsel i oi cs b hi) (fun cs b => hsel j oj cs b hoj) hQ hy h1
      have hfree' : ∀ k ok,ops[k]? = some ok → k ≠ i → (listed.setIfInBounds j true).getD k true = false →
          (∀ e ∈ ok.after,Region.binds md e = true → e.on ≠ i) → oi.apart ops ok = true:=fun k ok hk hki hun hno => by
        refine hfree k ok hk hki ?_ hno
        by_cases hjk : j = k
        · subst hjk;exact hjun
        · rw [getD_set_ne true hjk] at hun;exact hun
      refine wpOp_mono (fun a' w' h3 => ⟨h3.2.1,ih (listed.setIfInBounds j true) a' hfree' (ready_mono hr (Ne.symm hji)) h3.1 ?_⟩) h2
      rw [Array.setIfInBounds_comm _ _ hji]
      exact h3.2.2
def upTo (n k : Nat) : Array Bool:=((List.range n).map fun j => decide (j < k)).toArray
theorem Tw (n : Nat) : upTo n 0 = Array.replicate n false:=by
  apply Array.ext <;> simp [upTo]
theorem Tx (n k : Nat) : (upTo n k).setIfInBounds k true = upTo n (k + 1):=by
  apply Array.ext
  · simp [upTo]
  · intro i h1 h2
    simp [upTo] at h1
    by_cases e : k = i
    · subst e;simp [upTo]
    · simp [upTo,e];omega
def LX (ops : Array Oper) : Bool:=Region.noSelect ops && (List.range ops.size).all fun k => Region.free .any ops (upTo ops.size k) k && (Region.ready .any ops (upTo ops.size k)).contains k
structure Text (P : Program) (ops : Array Oper) (Q : Exit → Act → World → Prop) (S : World → Prop) (k : Nat) (rest : List Oper) (a : Act) : Prop where
  out : ops.toList.drop k = rest → wpAnyS P .any ops Q S (ops.size - k) (upTo ops.size k) a
variable {k d : Nat} {o : Oper} {rest : List Oper} {v : Value} {L : List Value} {D : List Deferred}
theorem LW {a : Act} (ht : Ac (LX ops = true))
    (hQ : ∀ c a w,Q (.panic c) (a.put o.dst v) w → Q (.panic c) a w) (he : H7 P ops S o v a) (h : Text P ops Q S (k + 1) rest (a.put o.dst v)) : Text P ops Q S k (o :: rest) a:=by
  refine ⟨fun hd => ?_⟩
  have hk : ops[k]? = some o:=by
    rw [← Array.getElem?_toList, ← List.head?_drop,hd,List.head?_cons]
  have hlt : k < ops.size:=(Array.getElem?_eq_some_iff.1 hk).1
  obtain ⟨hs,hall⟩:=Bool.and_eq_true_iff.1 ht.out
  have h1:=List.all_eq_true.1 hall k (by simpa using hlt)
  obtain ⟨hf,hr⟩:=Bool.and_eq_true_iff.1 h1
  rw [show ops.size - k = (ops.size - (k + 1)) + 1 by omega]
  refine wpAnyS_first hk (Region.noSelect_spec hs) hQ _ _ a (Region.free_spec hk hf) (by simpa using hr) he ?_
  rw [Tx]
  exact h.out (by rw [← List.drop_drop,hd,List.drop_one,List.tail_cons])
theorem Co : (⟨L.toArray,D⟩ : Act).put (some d) v = ⟨(L.set d v).toArray,D⟩:=by
  simp [Act.put]
theorem BI {f : FuncId} {xs : Array Operand} {ts : Array TypeId} {a : Act} (_hop : o.op = .call { callee:=.value (.func f),args:=xs,argTypes:=ts }) (h : Text P ops Q S k (o :: rest) a) : Text P ops Q S k (o :: rest) a:=h
theorem BH (ht : Ac (LX ops = true)) (hd : o.dst = some d) (hw : Region.wanted o (yielded ops L.toArray) = false)
    (hQ : ∀ c a w,Q (.panic c) (a.put o.dst undef) w → Q (.panic c) a w) (h : Text P ops Q S (k + 1) rest ⟨(L.set d undef).toArray,D⟩) : Text P ops Q S k (o :: rest) ⟨L.toArray,D⟩:=
  LW ht hQ (.inr ⟨hw,rfl⟩) (by rw [hd,Co];exact h)
theorem BV (ht : Ac (LX ops = true)) (hd : o.dst = some d) (hw : Region.wanted o (yielded ops L.toArray) = true)
    (hQ : ∀ c a w,Q (.panic c) (a.put o.dst v) w → Q (.panic c) a w) (hr : ∀ w,S w → (execOp (Act.eval ⟨L.toArray,D⟩) o).run P w = .ok (.value v) w) (h : Text P ops Q S (k + 1) rest ⟨(L.set d v).toArray,D⟩) : Text P ops Q S k (o :: rest) ⟨L.toArray,D⟩:=
  LW ht hQ (.inl ⟨hw,fun w hS => by rw [hr w hS];exact ⟨rfl,hS⟩⟩) (by rw [hd,Co];exact h)
theorem BJ {f : FuncId} {fn : Func} {xs : Array Operand} {ts : Array TypeId} {args : Array Value} (ht : Ac (LX ops = true))
    (hop : o.op = .call { callee:=.value (.func f),args:=xs,argTypes:=ts }) (hf : P.funcs[f]? = some fn) (hname : (fn.name == "runtime.NumGoroutine") = false) (hb : fn.body.isSome = true) (hd : o.dst = some d) (hw : Region.wanted o (yielded ops L.toArray) = true)
    (hQ : ∀ c a w,Q (.panic c) (a.put o.dst v) w → Q (.panic c) a w) (hargs : xs.map (Act.eval ⟨L.toArray,D⟩) = args)
    (hc : ∀ w,S w → Calls P f args w fun e w' => e = .returned v ∧ S w') (h : Text P ops Q S (k + 1) rest ⟨(L.set d v).toArray,D⟩) : Text P ops Q S k (o :: rest) ⟨L.toArray,D⟩:=by
  refine LW (v:=v) ht hQ (.inl ⟨hw,fun w hS => ?_⟩) (by rw [hd,Co];exact h)
  have he:=SN hf hname hb args w
  have hrun : (execOp (Act.eval ⟨L.toArray,D⟩) o).run P w = .ok (.enter f args) w:=by
    unfold execOp
    simp [hop,resolve,Deferred.ofValue,invoke,Act.eval,hargs,he]
  rw [hrun]
  exact hc w hS
theorem BX {a : Act} (h : ∀ w,S w → Q .normal a w) : Text P ops Q S k [] a:=by
  refine ⟨fun hd => ?_⟩
  have hk' : ops.size ≤ k:=by simpa using hd
  rw [show ops.size - k = 0 by omega]
  refine ⟨?_,h⟩
  simp only [Region.ready,List.filter_eq_nil_iff,List.mem_range]
  intro i hi
  have : (upTo ops.size k).getD i true = true:=by
    have : i < k:=by omega
    simp [upTo,hi,this]
  simp [this]
theorem Bj {id : Nat} {l : List Oper} {a : Act} {w : World} (S : World → Prop) (hm : P.follows .mixedOrders = true) (hl : ops.toList = l) (ht : LX ops = true) (hS : S w.drew)
    (h : Ac (LX ops = true) → Text P ops Q S 0 l a) : (Code.region id ops true).wp P Q a w:=by
  have h1:=(h ⟨ht⟩).out hl
  rw [Tw] at h1
  exact wp_region_any hm (Nh _ _ _ _ hS h1)
end
end Go.Proofs.YtpjmlpmhgfghbaaGreat
namespace Go.Proofs.YtpjmlpmhgfghbaaGreat
open Go.RowKit Go.Proofs.YtpjmlpmhgfghbaaGreatW.PrintWords Go.Proofs.YtpjmlpmhgfghbaaGreatW.PrintLast Go.Proofs.YtpjmlpmhgfghbaaGreatW.PrintMore
theorem JS {xs : List Int} {k : Nat} (h : k < xs.length) : xs.drop k = iv xs k :: xs.drop (k + 1):=by
  rw [List.drop_eq_getElem_cons h]
  simp [iv,List.getD_eq_getElem?_getD,h]
def V7 (b : Bool) (w : World) (e : Ending) (w' : World) : Prop := ∃ i : Int,e = .returned (.int .i64 i) ∧ decide (0 ≤ i) = b ∧ w = w'
theorem Mh (n : Int) (w : World) : Calls Tryz.prog 184 #[.int .i64 n] w fun e w' => e = .returned (.bool (n != 0)) ∧ w = w':=by
  go_enter Tryz.func184,Tryz.ntmps184
  go_wp2
  go_ret
  exact ⟨rfl,rfl⟩
theorem Mk (n : Int) (w : World) : Calls Tryz.prog 177 #[.int .i64 n] w fun e w' => e = .returned (.bool (!inB n 0 9)) ∧ w = w':=by
  go_enter Tryz.func177,Tryz.ntmps177
  go_wp2_with (go_at_call 77;refine (Ce _ _ _ _).mono ?_;rintro e w' ⟨rfl,rfl⟩)
  go_ret
  exact ⟨rfl,rfl⟩
set_option maxHeartbeats 2000000 in
theorem RA {w0 w : World} {A : Option Addr} {c : Nat} {l : List Int} (hb : Below w0.heap.size w0 w) (hr : Kd.C (Kd.int .i64) w0 A l.length l) : Calls Tryz.prog 178 #[.slice A l.length c, .func (.func 184) #[] #[]] w (V7 (l.any fun x => x != 0) w):=by
  have HR:=As (BM hr hb)
  have hm:=(D5 hr).2
  clear hr hb
  go_enter Tryz.func178,Tryz.ntmps178
  go_wp2
  go_loop [8] (fun i => ∃ k : Nat,k ≤ l.length ∧ i = .int .i64 (k : Int) ∧ Ac ((l.any fun x => x != 0) = (l.drop k).any fun x => x != 0)) (fun i => (l.length - intOf i).toNat)
  case atStart => exact ⟨0,Nat.zero_le _,rfl,⟨rfl⟩⟩
  case round =>
    obtain ⟨k,hk,rfl,HK⟩:=hrel
    by_cases hlt : k < l.length
    · obtain ⟨ad,rfl,g0⟩:=Dk HR.out k hlt
      have HD:=As (JS hlt)
      cases hp : (fun x => x != 0) (iv l k)
      · have HP:=As hp
        clear hp
        go_wp2_with (go_at_call 184;refine (Mh (iv l k) _).mono ?_;rintro e w' ⟨rfl,rfl⟩;(try rw [show (iv l k != 0) = false from HP.out]))
        go_round
        case rel => exact ⟨k + 1,by omega,by go_num,⟨by rw [HK.out,HD.out,List.any_cons,show (iv l k != 0) = false from HP.out,Bool.false_or]⟩⟩
        case measure => simp [intOf];omega
      · have HP:=As hp
        clear hp
        go_wp2_with (go_at_call 184;refine (Mh (iv l k) _).mono ?_;rintro e w' ⟨rfl,rfl⟩;(try rw [show (iv l k != 0) = true from HP.out]))
        go_ret
        exact ⟨k,rfl,by rw [HK.out,HD.out,List.any_cons,show (iv l k != 0) = true from HP.out];simp,rfl⟩
    · have hke : k = l.length:=by omega
      go_wp2
      go_ret
      exact ⟨-1,rfl,by rw [HK.out,hke,List.drop_length];rfl,rfl⟩
theorem Oa {w0 w : World} {A : Option Addr} {c : Nat} {l : List Int} (hb : Below w0.heap.size w0 w) (hr : Kd.C (Kd.int .i64) w0 A l.length l) : Calls Tryz.prog 148 #[.slice A l.length c, .func (.func 184) #[] #[]] w fun e w' => e = .returned (.bool (l.any fun x => x != 0)) ∧ w = w':=by
  have HR:=As (BM hr hb)
  clear hr hb
  go_enter Tryz.func148,Tryz.ntmps148
  go_wp2_with (go_at_call 178;refine (RA (Below.refl _ _) HR.out).mono ?_;rintro e w' ⟨i,rfl,hi,rfl⟩)
  go_ret
  exact ⟨by first | exact AJ hi | rfl,rfl⟩
set_option maxHeartbeats 2000000 in
theorem RB {w0 w : World} {A : Option Addr} {c : Nat} {l : List Int} (hb : Below w0.heap.size w0 w) (hr : Kd.C (Kd.int .i64) w0 A l.length l) : Calls Tryz.prog 178 #[.slice A l.length c, .func (.func 177) #[] #[]] w (V7 (l.any fun x => !inB x 0 9) w):=by
  have HR:=As (BM hr hb)
  have hm:=(D5 hr).2
  clear hr hb
  go_enter Tryz.func178,Tryz.ntmps178
  go_wp2
  go_loop [8] (fun i => ∃ k : Nat,k ≤ l.length ∧ i = .int .i64 (k : Int) ∧ Ac ((l.any fun x => !inB x 0 9) = (l.drop k).any fun x => !inB x 0 9)) (fun i => (l.length - intOf i).toNat)
  case atStart => exact ⟨0,Nat.zero_le _,rfl,⟨rfl⟩⟩
  case round =>
    obtain ⟨k,hk,rfl,HK⟩:=hrel
    by_cases hlt : k < l.length
    · obtain ⟨ad,rfl,g0⟩:=Dk HR.out k hlt
      have HD:=As (JS hlt)
      cases hp : (fun x => !inB x 0 9) (iv l k)
      · have HP:=As hp
        clear hp
        go_wp2_with (go_at_call 177;refine (Mk (iv l k) _).mono ?_;rintro e w' ⟨rfl,rfl⟩;(try rw [show (!inB (iv l k) 0 9) = false from HP.out]))
        go_round
        case rel => exact ⟨k + 1,by omega,by go_num,⟨by rw [HK.out,HD.out,List.any_cons,show (!inB (iv l k) 0 9) = false from HP.out,Bool.false_or]⟩⟩
        case measure => simp [intOf];omega
      · have HP:=As hp
        clear hp
        go_wp2_with (go_at_call 177;refine (Mk (iv l k) _).mono ?_;rintro e w' ⟨rfl,rfl⟩;(try rw [show (!inB (iv l k) 0 9) = true from HP.out]))
        go_ret
        exact ⟨k,rfl,by rw [HK.out,HD.out,List.any_cons,show (!inB (iv l k) 0 9) = true from HP.out];simp,rfl⟩
    · have hke : k = l.length:=by omega
      go_wp2
      go_ret
      exact ⟨-1,rfl,by rw [HK.out,hke,List.drop_length];rfl,rfl⟩
theorem Ob {w0 w : World} {A : Option Addr} {c : Nat} {l : List Int} (hb : Below w0.heap.size w0 w) (hr : Kd.C (Kd.int .i64) w0 A l.length l) : Calls Tryz.prog 148 #[.slice A l.length c, .func (.func 177) #[] #[]] w fun e w' => e = .returned (.bool (l.any fun x => !inB x 0 9)) ∧ w = w':=by
  have HR:=As (BM hr hb)
  clear hr hb
  go_enter Tryz.func148,Tryz.ntmps148
  go_wp2_with (go_at_call 178;refine (RB (Below.refl _ _) HR.out).mono ?_;rintro e w' ⟨i,rfl,hi,rfl⟩)
  go_ret
  exact ⟨by first | exact AJ hi | rfl,rfl⟩
def EK (l : List Int) : Bool := !(l.any fun x => x != 0)
def FC (l : List Int) : Bool:=l.length == 3 && !(l.any fun x => !inB x 0 9)
theorem Kn {w0 w : World} {A : Option Addr} {c : Nat} {l : List Int} {b : Bool} (hv : EK l = b) (hb : Below w0.heap.size w0 w) (hr : Kd.C (Kd.int .i64) w0 A l.length l) : Calls Tryz.prog 172 #[.slice A l.length c] w fun e w' => e = .returned (.bool b) ∧ w' = w:=by
  have HR:=As (BM hr hb)
  subst hv
  clear hr hb
  go_enter Tryz.func172,Tryz.ntmps172
  go_wp2_with (go_at_call 148;refine (Oa (Below.refl _ _) HR.out).mono ?_;rintro e w' ⟨rfl,rfl⟩)
  go_ret
  exact ⟨rfl,rfl⟩
theorem IB {w0 w : World} {A : Option Addr} {c : Nat} {l : List Int} {b : Bool} (hv : FC l = b) (hb : Below w0.heap.size w0 w) (hr : Kd.C (Kd.int .i64) w0 A l.length l) : Calls Tryz.prog 147 #[.slice A l.length c] w fun e w' => e = .returned (.bool b) ∧ w' = w:=by
  have HR:=As (BM hr hb)
  have HV:=As hv
  clear hr hb hv
  rcases BS (l.length : Int) 3 with ⟨e1,b1,c1⟩ | ⟨e1,b1,c1⟩
  · go_enter Tryz.func147,Tryz.ntmps147
    go_wp2_with (go_at_call 148;refine (Ob (Below.refl _ _) HR.out).mono ?_;rintro e w' ⟨rfl,rfl⟩)
    go_ret
    exact ⟨AJ (by rw [← HV.out,FC,show (l.length == 3) = true by have:=e1.out;simp;omega];rfl),rfl⟩
  · go_enter Tryz.func147,Tryz.ntmps147
    go_wp2
    go_ret
    exact ⟨AJ (by rw [← HV.out,FC,show (l.length == 3) = false by have:=e1.out;simp;omega];rfl),rfl⟩
def Bv (p : Page) : Bool:=inB p.lsn 0 150 && inB p.owner 0 3 && FC p.vals && (p.owner != 0 || EK p.vals)
abbrev Page.val (p : Page) (A : Option Addr) (c : Nat) : Value:=.agg #[.int .i64 p.lsn, .int .i64 p.owner, .slice A p.vals.length c]
set_option maxHeartbeats 4000000 in
theorem Dz {w0 w : World} {A : Option Addr} {c : Nat} {p : Page} {b : Bool} (hv : Bv p = b) (hb : Below w0.heap.size w0 w) (hr : Kd.C (Kd.int .i64) w0 A p.vals.length p.vals) : Calls Tryz.prog 131 #[p.val A c] w fun e w' => e = .returned (.bool b) ∧ Below w.heap.size w w':=by
  have HR:=As (BM hr hb)
  have HV:=As hv
  clear hr hb hv
  obtain ⟨v1,hv1⟩ : ∃ v1,FC p.vals = v1:=⟨_,rfl⟩
  obtain ⟨z1,hz1⟩ : ∃ z1,EK p.vals = z1:=⟨_,rfl⟩
  have HV1:=As hv1
  have HZ1:=As hz1
  clear hv1 hz1
  rcases BS p.owner 0 with ⟨e1,b1,c1⟩ | ⟨e1,b1,c1⟩
  all_goals
    go_enter Tryz.func131,Tryz.ntmps131
    go_wp2_with (first | (go_at_call 77;refine (Ce _ _ _ _).mono ?_;rintro e w' ⟨rfl,rfl⟩) | (go_at_call 147;refine (IB HV1.out ((Below.refl _ _).alloc (Nat.le_refl _) _) HR.out).mono ?_;rintro e w' ⟨rfl,rfl⟩) | (go_at_call 172;refine (Kn HZ1.out ((Below.refl _ _).alloc (Nat.le_refl _) _) HR.out).mono ?_;rintro e w' ⟨rfl,rfl⟩))
    all_goals (go_ret;exact ⟨AJ (by rw [← HV.out,Bv,HV1.out,HZ1.out];simp [c1, *]),(Below.refl _ _).alloc (Nat.le_refl _) _⟩)
theorem Cg {p : Page} : Bv p = true ↔ 0 ≤ p.lsn ∧ p.lsn ≤ 150 ∧ 0 ≤ p.owner ∧ p.owner ≤ 3 ∧ p.vals.length = 3 ∧ ∀ x ∈ p.vals,0 ≤ x ∧ x ≤ 9 ∧ (p.owner = 0 → x = 0):=by
  simp only [Bv,FC,EK,Bool.and_eq_true,DI,Bool.or_eq_true,bne_iff_ne,Bool.not_eq_true',List.any_eq_false,beq_iff_eq]
  constructor
  · rintro ⟨⟨⟨⟨h1,h2⟩,h3,h4⟩,h5,h6⟩,h7⟩
    refine ⟨h1,h2,h3,h4,h5,fun x hx => ?_⟩
    have:=h6 x hx
    simp [inB] at this
    refine ⟨this.1,this.2,fun h0 => ?_⟩
    rcases h7 with h7 | h7
    · exact absurd h0 h7
    · have:=h7 x hx
      simpa using this
  · rintro ⟨h1,h2,h3,h4,h5,h6⟩
    refine ⟨⟨⟨⟨h1,h2⟩,h3,h4⟩,h5,fun x hx => ?_⟩,?_⟩
    · have:=h6 x hx
      simp [inB]
      omega
    · by_cases h0 : p.owner = 0
      · refine .inr fun x hx => ?_
        have:=(h6 x hx).2.2 h0
        simp [this]
      · exact .inl h0
theorem Wt {l : List Int} {k : Nat} (h : k < l.length) : iv l k ∈ l:=by
  simp [iv,List.getD_eq_getElem?_getD,h]
def Ao (l : List Rec) (tx : Int) : Nat → Nat
  | 0 => 0
  | n + 1 => if (rc l n).tx = tx then (if EI (rc l n).kind = true then 0 else n + 1) else Ao l tx n
theorem IX {w0 w : World} {A : Option Addr} {n c : Nat} {l : List Rec} (tx : Int) (hb : Below w0.heap.size w0 w) (hr : Kd.C C8 w0 A n l) : Calls Tryz.prog 115 #[.slice A n c, .int .i64 tx] w fun e w' => e = .returned (.int .i64 (Ao l tx n)) ∧ w = w':=by
  have HR:=As (BM hr hb)
  have hm:=(D5 hr).2
  clear hr hb
  go_enter Tryz.func115,Tryz.ntmps115
  go_wp2
  go_loop [5] (fun i => ∃ k : Nat,k ≤ n ∧ i = .int .i64 ((k : Int) - 1) ∧ Ac (Ao l tx n = Ao l tx k)) (fun i => (intOf i + 1).toNat)
  case atStart => exact ⟨n,Nat.le_refl _,rfl,⟨rfl⟩⟩
  case round =>
    obtain ⟨k,hk,rfl,HL⟩:=hrel
    rcases k with _ | k
    · go_wp2
      go_ret
      exact ⟨by rw [HL.out];rfl,rfl⟩
    · obtain ⟨ad,rfl,⟨g0,g1,g2,g3,g4,g5,g6,g7⟩⟩:=Cb HR.out k (by omega)
      rcases BS (rc l k).tx tx with ⟨e1,b1,c1⟩ | ⟨e1,b1,c1⟩
      · rcases BS (rc l k).kind 4 with ⟨e2,b2,c2⟩ | ⟨e2,b2,c2⟩
        · go_wp2
          go_ret
          exact ⟨by rw [HL.out];simp [Ao,EI,e1.out,e2.out],rfl⟩
        · rcases BS (rc l k).kind 5 with ⟨e3,b3,c3⟩ | ⟨e3,b3,c3⟩
          · go_wp2
            go_ret
            exact ⟨by rw [HL.out];simp [Ao,EI,e1.out,e3.out],rfl⟩
          · go_wp2
            go_ret
            exact ⟨by rw [HL.out];simp [Ao,EI,e1.out,e2.out,e3.out],rfl⟩
      · go_wp2
        go_round
        case rel => exact ⟨k,by omega,by go_num,⟨by rw [HL.out];simp [Ao,e1.out]⟩⟩
        case measure => simp [intOf]
theorem Dt {w0 w : World} {A : Option Addr} {n c m : Nat} {l : List Rec} {tx : Int} (h : Ao l tx n = m) (hb : Below w0.heap.size w0 w) (hr : Kd.C C8 w0 A n l) : Calls Tryz.prog 115 #[.slice A n c, .int .i64 tx] w fun e w' => e = .returned (.int .i64 m) ∧ w = w':=(IX tx hb hr).mono fun _ _ x => ⟨h ▸ x.1,x.2⟩
def atOk (l : List Rec) (k : Nat) : Bool:=CU (rc l k) && (rc l k).prev == Ao l (rc l k).tx k && decide ((rc l k).next ≤ k) && (decide ((rc l k).next ≤ 0) || (rc l ((rc l k).next.toNat - 1)).tx == (rc l k).tx)
def Eh (l : List Rec) : Nat → Bool
  | 0 => true
  | n + 1 => Eh l n && atOk l n
def AP (l : List Rec) : Bool:=Eh l l.length && decide (l.length ≤ 150)
theorem Le {l : List Rec} {k n : Nat} (h : atOk l k = false) (hk : k < n) : Eh l n = false:=by
  induction n with
  | zero => omega
  | succ n ih =>
    by_cases e : k = n
    · subst e;simp [Eh,h]
    · simp [Eh,ih (by omega)]
theorem Oz {l : List Rec} {n k : Nat} (h : Eh l n = true) (hk : k < n) : atOk l k = true:=by
  cases e : atOk l k
  · rw [Le e hk] at h;cases h
  · rfl
theorem Bb (l : List Rec) (tx : Int) (n : Nat) : Ao l tx n ≤ n:=by
  induction n with
  | zero => simp [Ao]
  | succ n ih =>
    unfold Ao
    split
    · split <;> omega
    · omega
def BK (l : List Rec) (n : Nat) : Nat:=(rc l (n - 1)).prev.toNat
def EG (l : List Rec) (n : Nat) : Nat:=(rc l (n - 1)).next.toNat
structure Va (l : List Rec) (k : Nat) : Prop where
  ok : CU (rc l k) = true
  prev : (rc l k).prev = BK l (k + 1)
  prev_le : BK l (k + 1) ≤ k
  next : (rc l k).next = EG l (k + 1)
  next_le : EG l (k + 1) ≤ k
  last : BK l (k + 1) = Ao l (rc l k).tx k
  tx1 : 1 ≤ (rc l k).tx
  tx3 : (rc l k).tx ≤ 3
theorem Q8 {r : Rec} (h : CU r = true) : 1 ≤ r.tx ∧ r.tx ≤ 3 ∧ 0 ≤ r.prev ∧ r.prev ≤ 150:=by
  simp only [CU,Bool.and_eq_true,DI] at h
  omega
theorem Rj {r : Rec} (h : CU r = true) : 0 ≤ r.next ∧ r.next ≤ 150:=by
  rw [D7] at h
  omega
theorem AB {l : List Rec} (h : AP l = true) {k : Nat} (hk : k < l.length) : Va l k:=by
  simp only [AP,Bool.and_eq_true] at h
  have ha:=Oz h.1 hk
  simp only [atOk,Bool.and_eq_true,beq_iff_eq,decide_eq_true_eq] at ha
  obtain ⟨⟨⟨h1,h2⟩,h3⟩,h4⟩:=ha
  have h5:=Q8 h1
  have h6:=Rj h1
  have hl:=Bb l (rc l k).tx k
  refine ⟨h1,?_,?_,?_,?_,?_,h5.1,h5.2.1⟩ <;> simp only [BK,EG,Nat.add_sub_cancel] <;> omega
theorem Bg {l : List Rec} (h : AP l = true) : l.length ≤ 150:=by
  simp only [AP,Bool.and_eq_true,decide_eq_true_eq] at h
  exact h.2
def BD (l : List Rec) : Nat → List Nat
  | 0 => []
  | n + 1 => (n + 1) :: if h : BK l (n + 1) ≤ n then BD l (BK l (n + 1)) else []
  termination_by n => n
theorem DV {l : List Rec} {n : Nat} (h : BK l (n + 1) ≤ n) : BD l (n + 1) = (n + 1) :: BD l (BK l (n + 1)):=by
  rw [BD,dif_pos h]
theorem Ck (l : List Rec) : BD l 0 = []:=by rw [BD]
def CW (l : List Rec) : Nat → List Nat
  | 0 => []
  | n + 1 =>
    if (rc l n).kind = 1 ∨ (rc l n).kind = 2 then (n + 1) :: (if h : BK l (n + 1) ≤ n then CW l (BK l (n + 1)) else [])
    else if (rc l n).kind = 6 then (if h : EG l (n + 1) ≤ n then CW l (EG l (n + 1)) else [])
    else if h : BK l (n + 1) ≤ n then CW l (BK l (n + 1)) else []
  termination_by n => n
theorem D6 (l : List Rec) : CW l 0 = []:=by rw [CW]
theorem KS {l : List Rec} {n : Nat} (hk : (rc l n).kind = 1 ∨ (rc l n).kind = 2) (h : BK l (n + 1) ≤ n) : CW l (n + 1) = (n + 1) :: CW l (BK l (n + 1)):=by
  rw [CW,if_pos hk,dif_pos h]
theorem LQ {l : List Rec} {n : Nat} (hk : (rc l n).kind = 6) (h : EG l (n + 1) ≤ n) : CW l (n + 1) = CW l (EG l (n + 1)):=by
  rw [CW,if_neg (by omega),if_pos hk,dif_pos h]
theorem LV {l : List Rec} {n : Nat} (h1 : (rc l n).kind ≠ 1) (h2 : (rc l n).kind ≠ 2) (h6 : (rc l n).kind ≠ 6) (h : BK l (n + 1) ≤ n) : CW l (n + 1) = CW l (BK l (n + 1)):=by
  rw [CW,if_neg (by omega),if_neg h6,dif_pos h]
def Bt (l : List Rec) (n : Nat) : Nat:=(CW l n).headD 0
theorem FM {l : List Rec} (n m : Nat) (ms : List Nat) (h : CW l n = m :: ms) : 0 < m ∧ m ≤ n ∧ ((rc l (m - 1)).kind = 1 ∨ (rc l (m - 1)).kind = 2) ∧ (BK l m < m → ms = CW l (BK l m) ∧ CW l m = m :: ms):=by
  induction n using Nat.strongRecOn with
  | _ n ih =>
    match n with
    | 0 => rw [D6] at h;cases h
    | n + 1 =>
      rw [CW] at h
      split at h
      · rename_i hk
        obtain ⟨rfl,h2⟩:=List.cons.inj h
        refine ⟨by omega,by omega,by simpa using hk,fun hp => ?_⟩
        rw [dif_pos (by omega)] at h2
        exact ⟨h2.symm,by rw [KS hk (by omega),h2]⟩
      · split at h
        · split at h
          · rename_i hle
            obtain ⟨h1,h2,h3,h4⟩:=ih _ (by omega) h
            exact ⟨h1,by omega,h3,h4⟩
          · cases h
        · split at h
          · rename_i hle
            obtain ⟨h1,h2,h3,h4⟩:=ih _ (by omega) h
            exact ⟨h1,by omega,h3,h4⟩
          · cases h
theorem Gf {l : List Rec} {n : Nat} (h : Bt l n = 0) : CW l n = []:=by
  cases e : CW l n with
  | nil => rfl
  | cons m ms =>
    have:=(FM n m ms e).1
    simp [Bt,e] at h
    omega
theorem Ms {l : List Rec} {n m : Nat} (h : Bt l n = m) (hm : 0 < m) : ∃ ms,CW l n = m :: ms:=by
  cases e : CW l n with
  | nil => simp [Bt,e] at h;omega
  | cons a ms => simp [Bt,e] at h;subst h;exact ⟨ms,rfl⟩
theorem LU {l : List Rec} {n m : Nat} (hl : AP l = true) (hn : n ≤ l.length) (h : Bt l n = m + 1) : CW l n = (m + 1) :: CW l (BK l (m + 1)) ∧ m < l.length ∧ BK l (m + 1) ≤ m ∧ ((rc l m).kind = 1 ∨ (rc l m).kind = 2):=by
  obtain ⟨ms,e⟩:=Ms h (by omega)
  obtain ⟨h1,h2,h3,h4⟩:=FM n _ ms e
  have F:=AB hl (k:=m) (by omega)
  exact ⟨by rw [e,(h4 (by have:=F.prev_le;omega)).1],by omega,F.prev_le,by simpa using h3⟩
theorem Gz {l : List Rec} {n : Nat} : Bt l n ≤ n:=by
  cases e : CW l n with
  | nil => simp [Bt,e]
  | cons m ms =>
    have:=(FM n m ms e).2.1
    simp only [Bt,e,List.headD_cons]
    exact this
def EP (l : List Rec) (n : Nat) (page : Int) : Bool:=(BD l n).any fun m => (rc l (m - 1)).kind == 3 && (rc l (m - 1)).page == page
theorem KE (l : List Rec) (p : Int) : EP l 0 p = false:=by simp [EP,Ck]
theorem Rt {l : List Rec} {n : Nat} {p : Int} (h : BK l (n + 1) ≤ n) : EP l (n + 1) p = (((rc l n).kind == 3 && (rc l n).page == p) || EP l (BK l (n + 1)) p):=by
  simp [EP,DV h]
def Im (l : List Rec) (page : Int) : Nat → Bool
  | 0 => false
  | j + 1 => EP l (Ao l (3 - j : Int) l.length) page || Im l page j
def Ik (l : List Rec) : Nat → Nat
  | 0 => 0
  | j + 1 => (CW l (Ao l (3 - j : Int) l.length)).length + (if Ao l (3 - j : Int) l.length = 0 then 0 else 1) + Ik l j
def need (l : List Rec) : Nat:=Ik l 3
def AR (w : World) (base : Nat) (v : Value) (xs : List Int) : Prop:=w.ownsRow base 3 1 v xs.length (nums .i64 xs)
theorem WO {w : World} {A : Option Addr} {n : Nat} {xs : List Int} (h : ReadsInt w .i64 A n xs) : Kd.C (Kd.int .i64) w A n xs:=Kd.Sd (enc:=Value.int .i64) (d:=(0 : Int)) (h1:=fun _ => rfl) h
theorem AR.reads {w : World} {base : Nat} {v : Value} {xs : List Int} (h : AR w base v xs) : ∃ A c,v = .slice A xs.length c ∧ xs.length ≤ c ∧ Kd.C (Kd.int .i64) w A xs.length xs:=by
  obtain ⟨A,c,he,hr⟩:=TH h
  refine ⟨A,c,he,?_,WO hr⟩
  rcases h.2 with ⟨h1,h2⟩ | ⟨g,cap,cur,h1,_,_,h2,_⟩
  · omega
  · rw [h1] at he
    cases he
    exact h2
theorem AR.below {w w1 : World} {base : Nat} {v : Value} {xs : List Int} (h : AR w base v xs) (hb : Below w.heap.size w w1) : AR w1 base v xs:=KX h hb
theorem AR.nil (w : World) (base : Nat) : AR w base (.slice none 0 0) []:=Sy w base _ _
theorem AR.lower {w : World} {b b' : Nat} {v : Value} {xs : List Int} (h : AR w b v xs) (hb : b' ≤ b) : AR w b' v xs:=DY h hb
def V8 (w : World) (xs : List Int) (e : Ending) (w' : World) : Prop := ∃ v,e = .returned v ∧ AR w' w.heap.size v xs ∧ Below w.heap.size w w'
theorem Fs : (Tryz.prog.info? 3).map (fun i => (i.zero,i.size,i.bytes)) = some (some (.int .i64 0),1,8):=by kernel_rfl
theorem DW : Tryz.prog.underlying 33 = some (.slice 3):=Tryz.underlying33
theorem Nf {w : World} {A : Option Addr} {n : Nat} {l : List Int} (h : Kd.C (Kd.int .i64) w A n l) (hn : 0 < n) : ∃ b off,A = some ⟨b,off,none⟩ ∧ ∀ j,j < l.length → w.cell? ⟨b,off + j,none⟩ = some (.int .i64 (l.getD j 0)):=by
  obtain ⟨ad,rfl,h0⟩:=Dk h 0 hn
  have hs : ad.spot = none:=by
    have h1 : w.cell? ad = some (.int .i64 (iv l 0)):=h0
    unfold World.cell? at h1
    split at h1
    · cases e : ad.spot with
      | none => rfl
      | some s => rw [e] at h1;simp at h1
    · cases h1
  obtain ⟨b,off,s⟩:=ad
  obtain rfl : s = none:=hs
  refine ⟨b,off,rfl,fun j hj => ?_⟩
  obtain ⟨ad,e,h2⟩:=Dk h j (by rw [h.1] at hj;exact hj)
  obtain rfl:=Option.some.inj e
  have : (⟨b,off,none⟩ : Addr).add j = ⟨b,off + j,none⟩:=by
    unfold Addr.add
    split
    · rename_i h;subst h;rfl
    · rfl
  rw [this] at h2
  exact h2
theorem MP {w0 w : World} {A : Option Addr} {c : Nat} {l : List Int} (hl : l.length ≤ 17592186044416) (hb : Below w0.heap.size w0 w) (hr : Kd.C (Kd.int .i64) w0 A l.length l) : Calls Tryz.prog 121 #[.slice A l.length c] w (V8 w l):=by
  have h:=BM hr hb
  rcases Nat.eq_zero_or_pos l.length with h0 | h0
  · obtain rfl:=List.eq_nil_of_length_eq_zero h0
    cases A with
    | none => exact (Tryz.slices_Clone_int_nil 0 c w).mono fun e w' ⟨he,hw⟩ => ⟨_,he,AR.nil _ _,hw ▸ Below.refl _ _⟩
    | some a => exact (Tryz.slices_Clone_int_zero a c w).mono fun e w' ⟨v,he,ho,_,hb⟩ => ⟨v,he,ho,hb⟩
  · obtain ⟨b,off,rfl,hc⟩:=Nf h h0
    refine (Tryz.slices_Clone_int b off l.length c l w (Nat.le_refl _) (by omega) hc).mono fun e w' ⟨v,he,ho,_,hb⟩ => ⟨v,he,?_,hb⟩
    rw [List.take_length] at ho
    exact ho
theorem JH {w0 w : World} {A : Option Addr} {c : Nat} {l : List Int} (x : Int) (hb : Below w0.heap.size w0 w) (hr : Kd.C (Kd.int .i64) w0 A l.length l) : Calls Tryz.prog 118 #[.slice A l.length c, .int .i64 x] w fun e w' => e = .returned (.bool (l.contains x)) ∧ w' = w:=by
  have h:=BM hr hb
  rcases Nat.eq_zero_or_pos l.length with h0 | h0
  · obtain rfl:=List.eq_nil_of_length_eq_zero h0
    exact Tryz.slices_Contains_int_empty A c x w
  · obtain ⟨b,off,rfl,hc⟩:=Nf h h0
    have:=Tryz.slices_Contains_int b off l.length c l x w (Nat.le_refl _) (D5 h).2 hc
    rwa [List.take_length] at this
theorem QK {w0 w : World} {A B : Option Addr} {c d : Nat} {l m : List Int} {b : Bool} (hv : (l == m) = b) (hb : Below w0.heap.size w0 w) (hr : Kd.C (Kd.int .i64) w0 A l.length l) (hr2 : Kd.C (Kd.int .i64) w0 B m.length m) : Calls Tryz.prog 136 #[.slice A l.length c, .slice B m.length d] w fun e w' => e = .returned (.bool b) ∧ Below w.heap.size w w':=by
  have h:=BM hr hb
  have h2:=BM hr2 hb
  subst hv
  by_cases hn : l.length = m.length
  · rcases Nat.eq_zero_or_pos l.length with h0 | h0
    · obtain rfl:=List.eq_nil_of_length_eq_zero h0
      obtain rfl:=List.eq_nil_of_length_eq_zero (hn ▸ h0 : m.length = 0)
      exact (Tryz.slices_Equal_int_empty A B c 0 d w (by omega)).mono fun e w' ⟨he,hw⟩ => ⟨he,hw ▸ Below.refl _ _⟩
    · obtain ⟨b1,o1,rfl,hc1⟩:=Nf h h0
      obtain ⟨b2,o2,rfl,hc2⟩:=Nf h2 (by omega)
      refine (Tryz.slices_Equal_int b1 o1 l.length c b2 o2 m.length d l m w (Nat.le_refl _) (Nat.le_refl _) (D5 h).2 (D5 h2).2 hc1 hc2).mono fun e w' ⟨he,q,hw⟩ => ⟨?_,hw ▸ BG (Below.refl _ _) q⟩
      rw [List.take_length,List.take_length] at he
      exact he
  · refine (Tryz.slices_Equal_int_lens A B l.length c m.length d w hn).mono fun e w' ⟨he,hw⟩ => ⟨?_,hw ▸ Below.refl _ _⟩
    rw [he]
    exact AJ (by symm;rw [beq_eq_false_iff_ne];intro e;exact hn (by rw [e]))
def FO (p q : Page) : Bool:=p.lsn == q.lsn && p.owner == q.owner && p.vals == q.vals
set_option maxHeartbeats 2000000 in
theorem EZ {w0 w : World} {A B : Option Addr} {c d : Nat} {p q : Page} {b : Bool} (hv : FO p q = b) (hb : Below w0.heap.size w0 w) (hr : Kd.C (Kd.int .i64) w0 A p.vals.length p.vals) (hr2 : Kd.C (Kd.int .i64) w0 B q.vals.length q.vals) : Calls Tryz.prog 80 #[p.val A c,q.val B d] w fun e w' => e = .returned (.bool b) ∧ Below w.heap.size w w':=by
  have HR:=As (BM hr hb)
  have HR2:=As (BM hr2 hb)
  have HV:=As hv
  clear hr hr2 hb hv
  obtain ⟨v1,hv1⟩ : ∃ v1,(p.vals == q.vals) = v1:=⟨_,rfl⟩
  have HV1:=As hv1
  clear hv1
  rcases BS p.lsn q.lsn with ⟨e1,b1,c1⟩ | ⟨e1,b1,c1⟩
  all_goals rcases BS p.owner q.owner with ⟨e2,b2,c2⟩ | ⟨e2,b2,c2⟩
  all_goals
    go_enter Tryz.func80,Tryz.ntmps80
    go_wp2_with (go_at_call 136;refine (QK HV1.out (((Below.refl _ _).alloc (Nat.le_refl _) _).alloc (by simp) _) HR.out HR2.out).mono ?_;rintro e w1 ⟨rfl,hb1⟩;have HX:=As (bj (((Below.refl _ _).alloc (Nat.le_refl _) _).alloc (by simp) _ : Below w.heap.size w _) hb1);clear hb1)
    all_goals (go_ret;first | exact ⟨AJ (by rw [← HV.out,FO,HV1.out,b1,b2];simp),HX.out⟩ | exact ⟨AJ (by rw [← HV.out,FO];simp [b1,b2]),(((Below.refl _ _).alloc (Nat.le_refl _) _).alloc (by simp) _)⟩)
abbrev Page.box (p : Page) (A : Option Addr) (c : Nat) : Obj:=.cells #[.int .i64 p.lsn, .int .i64 p.owner, .slice A p.vals.length c] 81
theorem Wv (w : World) (p : Page) (A : Option Addr) (c : Nat) : KO (w.alloc (p.box A c)) ⟨w.heap.size,0,none⟩ p A c:=⟨by go_simp,by go_simp,by go_simp⟩
theorem Pw (w : World) (p : Page) (A : Option Addr) (c : Nat) : Below w.heap.size w (w.alloc (p.box A c)):=(Below.refl _ _).alloc (Nat.le_refl _) _
open Go.RowKit Go.Proofs.YtpjmlpmhgfghbaaGreatW.PrintWords Go.Proofs.YtpjmlpmhgfghbaaGreatW.PrintLast
section
variable {P : Program} {ops : Array Oper} {Q : Exit → Act → World → Prop} {md : Region.Mode} {S : Array Bool → Act → World → Prop} {m : Nat}
def Keeps (S : Array Bool → Act → World → Prop) (i : Nat) (d : Option Nat) : Prop := ∀ l a v w,S (l.setIfInBounds i true) (a.put d v) w ↔ S l a w
def Sl (i s : Nat) (p : Value → World → Prop) (l : Array Bool) (a : Act) (w : World) : Prop:=l.getD i false = true → p (a.tmps.getD s undef) w
theorem Aa {p : World → Prop} {i : Nat} {d : Option Nat} : Keeps (fun _ _ w => p w) i d:=fun _ _ _ _ => Iff.rfl
theorem kA {S T : Array Bool → Act → World → Prop} {i : Nat} {d : Option Nat} (h : Keeps S i d) (k : Keeps T i d) : Keeps (fun l a w => S l a w ∧ T l a w) i d:=fun l a v w => and_congr (h l a v w) (k l a v w)
theorem Ab {j i s d : Nat} {p : Value → World → Prop} (h : (d == s) = false) (hi : (j == i) = false) : Keeps (Sl i s p) j (some d):=fun l a v w => by
  have h : d ≠ s:=by simpa using h
  have hi : j ≠ i:=by simpa using hi
  have h1 : (a.put (some d) v).tmps.getD s undef = a.tmps.getD s undef:=by simp [Act.put,h]
  have h2 : (l.setIfInBounds j true).getD i false = l.getD i false:=getD_set_ne false hi
  rw [Sl,Sl,h1,h2]
def LH (P : Program) (ops : Array Oper) (S : Array Bool → Act → World → Prop) (o : Oper) (v : Value) (a : Act) : Prop:=
  (Region.wanted o (yielded ops a.tmps) = true ∧ ∀ l a' w,S l a' w → Eff P (S l a') v ((execOp a.eval o).run P w)) ∨
  (Region.wanted o (yielded ops a.tmps) = false ∧ v = undef)
theorem LH.wpOp {i : Nat} {o : Oper} {v : Value} {a : Act} (hi : ops[i]? = some o) (hy : LH P ops S o v a)
    {K : Act → World → Prop} {w : World} {l : Array Bool} (hS : S l a w) (h : ∀ w',S l a w' → K (a.put o.dst v) w') : wpOp P ops Q i K a w:=by
  rcases hy with ⟨hw,hv⟩ | ⟨hw,rfl⟩
  · exact H7.wpOp (S:=S l a) hi (.inl ⟨hw,fun w hS => hv l a w hS⟩) hS h
  · exact H7.wpOp (S:=S l a) hi (.inr ⟨hw,rfl⟩) hS h
theorem LH.of_same {o : Oper} {v : Value} {a a' : Act} (hy : LH P ops S o v a) (he : execOp a'.eval o = execOp a.eval o)
    (hw : Region.wanted o (yielded ops a'.tmps) = Region.wanted o (yielded ops a.tmps)) : LH P ops S o v a':=by
  unfold LH at *
  rw [he,hw]
  exact hy
theorem Oo {j : Nat} {oi oj : Oper} {v : Value} (hj : ops[j]? = some oj) (hap : oi.apart ops oj = true)
    (hsi : ∀ cs b,oi.op ≠ .select cs b) (hsj : ∀ cs b,oj.op ≠ .select cs b)
    (hQ : ∀ c a w,Q (.panic c) (a.put oi.dst v) w → Q (.panic c) a w) {K : Act → World → Prop} {a : Act} {w : World}
    (hy : LH P ops S oi v a) (h : wpOp P ops Q j K (a.put oi.dst v) w) :
    wpOp P ops Q j (fun a' w' => LH P ops S oi v a' ∧ K (a'.put oi.dst v) w') a w:=by
  obtain ⟨h1,h2,h3⟩:=Oper.apart_spec hap
  have keep : ∀ (a : Act),LH P ops S oi v a → ∀ u,LH P ops S oi v (a.put oj.dst u):=fun a hy u =>
    hy.of_same (execOp_put oi hsi a oj.dst u h3) (wanted_put oi a oj.dst u h3)
  have keepD : ∀ d,LH P ops S oi v { a with defers:=d :: a.defers }:=fun d => hy.of_same rfl rfl
  unfold wpOp at *
  simp only [hj] at *
  rw [wanted_put oj a oi.dst v h1] at h
  split
  · rename_i hw
    simp only [hw,if_true] at h
    rcases h with h | ⟨hasks,hlets⟩
    case inr => exact .inr ⟨by unfold Oper.asks at *;rw [execOp_put oj hsj a oi.dst v h1] at hasks;exact hasks,hlets⟩
    refine .inl ?_
    unfold Oper.wp at *
    rw [execOp_put oj hsj a oi.dst v h1] at h
    generalize (execOp a.eval oj).run P w = r at *
    cases r with
    | ok n w' =>
      cases n <;> simp only [Oper.upon] at h ⊢
      case value u => exact ⟨keep a hy u,by rw [← Act.put_comm a v u h2];exact h⟩
      case skip => exact ⟨keep a hy _,by rw [← Act.put_comm a v undef h2];exact h⟩
      case defer d =>
        refine ⟨keep _ (keepD d) _,?_⟩
        rw [← Act.put_comm _ v undef h2, ← Act.put_defers]
        exact h
      case enter f args =>
        refine Calls.mono h fun e w'' he => ?_
        cases e with
        | returned u => exact ⟨keep a hy u,by rw [← Act.put_comm a v u h2];exact he⟩
        | panicked c => exact hQ _ _ _ he
        | outgrown => exact he
      case row row args => exact Rows.mono h fun u w'' he => ⟨keep a hy u,by rw [← Act.put_comm a v u h2];exact he⟩
    | halt x w' =>
      cases x <;> simp only [Oper.upon] at h ⊢
      case panic u => exact hQ _ _ _ h
  · rename_i hw
    simp only [hw] at h
    exact ⟨keep a hy _,by rw [← Act.put_comm a v undef h2];exact h⟩
def Kr (P : Program) (md : Region.Mode) (ops : Array Oper) (Q : Exit → Act → World → Prop) (S : Array Bool → Act → World → Prop) (m : Nat) : Nat → Array Bool → Act → Prop
  | 0,listed,a => Region.ready md ops listed = [] ∧ ∀ w,S listed a w → Q .normal a w
  | fuel + 1,listed,a =>
    (Region.ready md ops listed = [] → ∀ w,S listed a w → Q .normal a w) ∧
    ∀ i ∈ Region.ready md ops listed, ∀ w,S listed a w → wpOp P ops Q i (fun a' w' => (S (listed.setIfInBounds i true) a' w' ∧ Kr P md ops Q S m fuel (listed.setIfInBounds i true) a') ∨ (m ≤ i ∧ wpAny P md ops Q fuel (listed.setIfInBounds i true) a' w')) a w
theorem Ng : ∀ (fuel : Nat) (listed : Array Bool) (a : Act) (w : World),S listed a w → Kr P md ops Q S m fuel listed a → wpAny P md ops Q fuel listed a w
  | 0,_,_,w,hS,h => ⟨h.1,h.2 w hS⟩
  | fuel + 1,_,_,w,hS,h => ⟨fun hr => h.1 hr w hS,fun i hi => wpOp_mono (fun a' w' h' => h'.elim (fun h' => Ng fuel _ a' w' h'.1 h'.2) (fun h' => h'.2)) (h.2 i hi w hS)⟩
def Tail (md : Region.Mode) (ops : Array Oper) (m : Nat) : Prop := ∀ (listed : Array Bool) j,m ≤ j → j ∈ Region.ready md ops listed → ∀ i,i ∈ Region.ready md ops listed → i < m → False
theorem OJ {i : Nat} {oi : Oper} {v : Value} (hm : Tail md ops m) (him : i < m) (hi : ops[i]? = some oi) (hk : Keeps S i oi.dst) (hsel : ∀ (j : Nat) (o : Oper) cs b,ops[j]? = some o → o.op ≠ .select cs b)
    (hQ : ∀ c a w,Q (.panic c) (a.put oi.dst v) w → Q (.panic c) a w) :
    ∀ (fuel : Nat) (listed : Array Bool) (a : Act),
      (∀ j oj,ops[j]? = some oj → j ≠ i → listed.getD j true = false → (∀ e ∈ oj.after,Region.binds md e = true → e.on ≠ i) → oi.apart ops oj = true) →
      i ∈ Region.ready md ops listed → LH P ops S oi v a →
      Kr P md ops Q S m fuel (listed.setIfInBounds i true) (a.put oi.dst v) → Kr P md ops Q S m (fuel + 1) listed a:=by
  intro fuel
  induction fuel with
  | zero =>
    intro listed a _ hr hy H
    refine ⟨fun h => (by rw [h] at hr;cases hr),fun j hj w hS => ?_⟩
    by_cases hji : j = i
    · subst hji;exact hy.wpOp hi hS (fun w' h' => .inl ⟨(hk _ a v w').2 h',H⟩)
    · have:=ready_mono hj hji
      rw [H.1] at this
      cases this
  | succ fuel ih =>
    intro listed a hfree hr hy H
    refine ⟨fun h => (by rw [h] at hr;cases hr),fun j hj w hS => ?_⟩
    by_cases hji : j = i
    · subst hji;exact hy.wpOp hi hS (fun w' h' => .inl ⟨(hk _ a v w').2 h',H⟩)
    · have hjm : j < m:=Nat.lt_of_not_le fun e => hm listed j e hj i hr him
      have h1:=H.2 j (ready_mono hj hji) w ((hk _ a v w).2 hS)
      obtain ⟨hjun,oj,hoj,hall⟩:=mem_ready.1 hj
      have hnot : ∀ e ∈ oj.after,Region.binds md e = true → e.on ≠ i:=fun e he hb heq => by
        have h1:=hall e he hb
        have h0:=(mem_ready.1 hr).1
        rw [heq] at h1
        rcases Nat.lt_or_ge i listed.size with h' | h'
        · simp [h'] at h0 h1;rw [h0] at h1;cases h1
        · simp [Array.getElem?_eq_none h'] at h1
      have h2:=Oo hoj (hfree j oj hoj hji hjun hnot) (fun cs b => hsel i oi cs b hi) (fun cs b => hsel j oj cs b hoj) hQ hy h1
      have hfree' : ∀ k ok,ops[k]? = some ok → k ≠ i → (listed.setIfInBounds j true).getD k true = false →
          (∀ e ∈ ok.after,Region.binds md e = true → e.on ≠ i) → oi.apart ops ok = true:=fun k ok hk hki hun hno => by
        refine hfree k ok hk hki ?_ hno
        by_cases hjk : j = k
        · subst hjk;exact hjun
        · rw [getD_set_ne true hjk] at hun;exact hun
      refine wpOp_mono (fun a' w' h3 => ?_) h2
      rcases h3.2 with h4 | h4
      · rw [Array.setIfInBounds_comm _ _ (Ne.symm hji)] at h4
        exact .inl ⟨(hk _ a' v w').1 h4.1,ih (listed.setIfInBounds j true) a' hfree' (ready_mono hr (Ne.symm hji)) h3.1 h4.2⟩
      · exact absurd h4.1 (by omega)
def lsd (n : Nat) (done : List Nat) : Array Bool:=((List.range n).map fun j => done.contains j).toArray
theorem JQ (n : Nat) : lsd n [] = Array.replicate n false:=by
  apply Array.ext <;> simp [lsd]
theorem Il (n i : Nat) (done : List Nat) : (lsd n done).setIfInBounds i true = lsd n (i :: done):=by
  apply Array.ext
  · simp [lsd]
  · intro j h1 h2
    simp [lsd] at h1
    by_cases e : i = j
    · subst e;simp [lsd]
    · simp [lsd,e,Ne.symm e]
theorem AZ {n i s : Nat} {p : Value → World → Prop} {a : Act} {w : World} : Sl i s p (lsd n []) a w:=fun h => by
  rw [JQ] at h
  simp [Array.getD] at h
def Ju (ops : Array Oper) (m : Nat) : Bool:=Region.noSelect ops && (List.range ops.size).all fun j => decide (j < m) || match ops[j]? with
  | none => true
  | some o => (List.range m).all fun i => o.after.any fun e => e.on == i && Region.binds .any e
theorem Np {m : Nat} (h : Ju ops m = true) : Tail .any ops m:=by
  intro listed j hmj hj i hi him
  obtain ⟨_,o,ho,hall⟩:=mem_ready.1 hj
  obtain ⟨hiu,oi,hoi,_⟩:=mem_ready.1 hi
  have hjl : j < ops.size:=(Array.getElem?_eq_some_iff.1 ho).1
  have h1:=List.all_eq_true.1 (Bool.and_eq_true_iff.1 h).2 j (by simpa using hjl)
  rw [ho] at h1
  simp only [Bool.or_eq_true,decide_eq_true_eq] at h1
  rcases h1 with h1 | h1
  · omega
  have h1:=List.all_eq_true.1 h1 i (by simpa using him)
  obtain ⟨e0,he0,h2⟩:=Array.any_eq_true'.1 h1
  simp only [Bool.and_eq_true,beq_iff_eq] at h2
  have h3:=hall e0 he0 h2.2
  rw [h2.1] at h3
  rcases Nat.lt_or_ge i listed.size with h' | h'
  · simp [h'] at hiu h3;rw [hiu] at h3;cases h3
  · simp [Array.getElem?_eq_none h'] at h3
def FN (ops : Array Oper) (m : Nat) (done : List Nat) (i : Nat) : Bool:=Region.free .any ops (lsd ops.size done) i && (Region.ready .any ops (lsd ops.size done)).contains i && decide (done.length < ops.size) && decide (i < m)
def M8 (ops : Array Oper) (done : List Nat) (i : Nat) : Bool:=(Region.ready .any ops (lsd ops.size done) == [i]) && decide (done.length < ops.size)
structure Reg (P : Program) (ops : Array Oper) (Q : Exit → Act → World → Prop) (S : Array Bool → Act → World → Prop) (m : Nat) (done : List Nat) (a : Act) : Prop where
  out : Kr P .any ops Q S m (ops.size - done.length) (lsd ops.size done) a
structure Ti (P : Program) (ops : Array Oper) (Q : Exit → Act → World → Prop) (done : List Nat) (a : Act) (w : World) : Prop where
  out : wpAny P .any ops Q (ops.size - done.length) (lsd ops.size done) a w
variable {i d : Nat} {o : Oper} {v : Value} {L : List Value} {D : List Deferred} {done : List Nat}
theorem Ns {a : Act} (ht : Ac (Ju ops m = true)) (hi : ops.toList[i]? = some o) (hok : FN ops m done i = true) (hk : Keeps S i o.dst)
    (hQ : ∀ c a w,Q (.panic c) (a.put o.dst v) w → Q (.panic c) a w) (he : LH P ops S o v a) (h : Reg P ops Q S m (i :: done) (a.put o.dst v)) : Reg P ops Q S m done a:=by
  refine ⟨?_⟩
  have hi' : ops[i]? = some o:=by rw [← Array.getElem?_toList];exact hi
  simp only [FN,Bool.and_eq_true,decide_eq_true_eq] at hok
  obtain ⟨⟨⟨hf,hr⟩,hl⟩,hm⟩:=hok
  have hs:=(Bool.and_eq_true_iff.1 ht.out).1
  have h1:=h.out
  rw [List.length_cons, ← Il] at h1
  rw [show ops.size - done.length = (ops.size - (done.length + 1)) + 1 by omega]
  exact OJ (Np ht.out) hm hi' hk (Region.noSelect_spec hs) hQ _ _ a (Region.free_spec hi' hf) (by simpa using hr) he h1
theorem EM (ht : Ac (Ju ops m = true)) (hi : ops.toList[i]? = some o) (hok : FN ops m done i = true) (hd : o.dst = some d) (hk : Keeps S i (some d)) (hw : Region.wanted o (yielded ops L.toArray) = false)
    (hQ : ∀ c a w,Q (.panic c) (a.put o.dst undef) w → Q (.panic c) a w) (h : Reg P ops Q S m (i :: done) ⟨(L.set d undef).toArray,D⟩) : Reg P ops Q S m done ⟨L.toArray,D⟩:=
  Ns ht hi hok (hd ▸ hk) hQ (.inr ⟨hw,rfl⟩) (by rw [hd,Co];exact h)
theorem Ae (ht : Ac (Ju ops m = true)) (hi : ops.toList[i]? = some o) (hok : FN ops m done i = true) (hd : o.dst = some d) (hk : Keeps S i (some d)) (hw : Region.wanted o (yielded ops L.toArray) = true)
    (hQ : ∀ c a w,Q (.panic c) (a.put o.dst v) w → Q (.panic c) a w) (hr : ∀ l a w,S l a w → (execOp (Act.eval ⟨L.toArray,D⟩) o).run P w = .ok (.value v) w) (h : Reg P ops Q S m (i :: done) ⟨(L.set d v).toArray,D⟩) : Reg P ops Q S m done ⟨L.toArray,D⟩:=
  Ns ht hi hok (hd ▸ hk) hQ (.inl ⟨hw,fun l a w hS => by rw [hr l a w hS];exact ⟨rfl,hS⟩⟩) (by rw [hd,Co];exact h)
theorem Q0 {f : FuncId} {fn : Func} {xs : Array Operand} {ts : Array TypeId} {args : Array Value} {a : Act} (hop : o.op = .call { callee:=.value (.func f),args:=xs,argTypes:=ts }) (hf : P.funcs[f]? = some fn) (hname : (fn.name == "runtime.NumGoroutine") = false) (hb : fn.body.isSome = true)
    (hargs : xs.map a.eval = args) (w : World) : (execOp a.eval o).run P w = .ok (.enter f args) w:=by
  have he:=SN hf hname hb args w
  have hv : a.eval (.func f) = .func (.func f) #[] #[]:=rfl
  unfold execOp
  simp [hop,resolve,Deferred.ofValue,invoke,hv,hargs,he]
theorem Jw {f : FuncId} {fn : Func} {xs : Array Operand} {ts : Array TypeId} {args : Array Value} (ht : Ac (Ju ops m = true)) (hi : ops.toList[i]? = some o) (hok : FN ops m done i = true)
    (hop : o.op = .call { callee:=.value (.func f),args:=xs,argTypes:=ts }) (hf : P.funcs[f]? = some fn) (hname : (fn.name == "runtime.NumGoroutine") = false) (hb : fn.body.isSome = true) (hd : o.dst = some d) (hk : Keeps S i (some d)) (hw : Region.wanted o (yielded ops L.toArray) = true)
    (hQ : ∀ c a w,Q (.panic c) (a.put o.dst v) w → Q (.panic c) a w) (hargs : xs.map (Act.eval ⟨L.toArray,D⟩) = args)
    (hc : ∀ l a w,S l a w → Calls P f args w fun e w' => e = .returned v ∧ S l a w') (h : Reg P ops Q S m (i :: done) ⟨(L.set d v).toArray,D⟩) : Reg P ops Q S m done ⟨L.toArray,D⟩:=by
  refine Ns (v:=v) ht hi hok (hd ▸ hk) hQ (.inl ⟨hw,fun l a w hS => ?_⟩) (by rw [hd,Co];exact h)
  rw [Q0 hop hf hname hb hargs]
  exact hc l a w hS
theorem Oq {f : FuncId} {fn : Func} {xs : Array Operand} {ts : Array TypeId} {args : Array Value} {a : Act} {w : World} {K : Act → World → Prop} (hi : ops[i]? = some o)
    (hop : o.op = .call { callee:=.value (.func f),args:=xs,argTypes:=ts }) (hf : P.funcs[f]? = some fn) (hname : (fn.name == "runtime.NumGoroutine") = false) (hb : fn.body.isSome = true) (hw : Region.wanted o (yielded ops a.tmps) = true)
    (hargs : xs.map a.eval = args) (hc : Calls P f args w fun e w' => ∃ v,e = .returned v ∧ K (a.put o.dst v) w') : wpOp P ops Q i K a w:=by
  unfold Go.wpOp
  simp only [hi,hw,if_true]
  refine .inl ?_
  unfold Oper.wp
  rw [Q0 hop hf hname hb hargs]
  exact Calls.mono hc fun e w' ⟨v,he,h⟩ => by subst he;exact h
theorem Bh {a : Act} {w w1 : World} {K : Act → World → Prop} (hi : ops.toList[i]? = some o) (hw : Region.wanted o (yielded ops a.tmps) = true) (hr : (execOp a.eval o).run P w = .ok .skip w1) (h : K (a.put o.dst undef) w1) : wpOp P ops Q i K a w:=by
  have hi' : ops[i]? = some o:=by rw [← Array.getElem?_toList];exact hi
  unfold Go.wpOp
  simp only [hi',hw,if_true]
  refine .inl ?_
  unfold Oper.wp
  rw [hr]
  exact h
theorem BR {f : FuncId} {fn : Func} {xs : Array Operand} {ts : Array TypeId} {args : Array Value} (G : Value → Prop) (hi : ops.toList[i]? = some o) (hok : M8 ops done i = true)
    (hop : o.op = .call { callee:=.value (.func f),args:=xs,argTypes:=ts }) (hf : P.funcs[f]? = some fn) (hname : (fn.name == "runtime.NumGoroutine") = false) (hb : fn.body.isSome = true) (hd : o.dst = some d) (hw : Region.wanted o (yielded ops L.toArray) = true)
    (hargs : xs.map (Act.eval ⟨L.toArray,D⟩) = args)
    (hc : ∀ w,S (lsd ops.size done) ⟨L.toArray,D⟩ w → Calls P f args w fun e w' => ∃ v,e = .returned v ∧ G v ∧ S (lsd ops.size (i :: done)) ⟨(L.set d v).toArray,D⟩ w') (h : ∀ v,G v → Reg P ops Q S m (i :: done) ⟨(L.set d v).toArray,D⟩) : Reg P ops Q S m done ⟨L.toArray,D⟩:=by
  refine ⟨?_⟩
  have hi' : ops[i]? = some o:=by rw [← Array.getElem?_toList];exact hi
  simp only [M8,Bool.and_eq_true,decide_eq_true_eq,beq_iff_eq] at hok
  rw [show ops.size - done.length = (ops.size - (done.length + 1)) + 1 by omega]
  refine ⟨fun h0 => (by rw [hok.1] at h0;cases h0),fun j hj w hS => ?_⟩
  rw [hok.1,List.mem_singleton] at hj
  subst hj
  refine Oq hi' hop hf hname hb hw hargs ((hc w hS).mono fun e w' ⟨v,he,hg,hS'⟩ => ⟨v,he, .inl ?_⟩)
  rw [hd,Co,Il]
  exact ⟨hS',(h v hg).out⟩
theorem Jo {a : Act} {w w1 : World} {K : Act → World → Prop} (v : Value) (hi : ops.toList[i]? = some o) (hw : Region.wanted o (yielded ops a.tmps) = true) (hr : (execOp a.eval o).run P w = .ok (.value v) w1) (h : K (a.put o.dst v) w1) : wpOp P ops Q i K a w:=by
  have hi' : ops[i]? = some o:=by rw [← Array.getElem?_toList];exact hi
  unfold Go.wpOp
  simp only [hi',hw,if_true]
  refine .inl ?_
  unfold Oper.wp
  rw [hr]
  exact h
theorem Bw {w w1 : World} {K : Act → World → Prop} (v : Value) (hi : ops.toList[i]? = some o) (hd : o.dst = some d) (hw : Region.wanted o (yielded ops L.toArray) = true) (hr : (execOp (Act.eval ⟨L.toArray,D⟩) o).run P w = .ok (.value v) w1) (h : K ⟨(L.set d v).toArray,D⟩ w1) : wpOp P ops Q i K ⟨L.toArray,D⟩ w:=
  Jo v hi hw hr (by rw [hd,Co];exact h)
theorem CV {f : FuncId} {fn : Func} {xs : Array Operand} {ts : Array TypeId} {args : Array Value} {w : World} {K : Act → World → Prop} (hi : ops.toList[i]? = some o)
    (hop : o.op = .call { callee:=.value (.func f),args:=xs,argTypes:=ts }) (hf : P.funcs[f]? = some fn) (hname : (fn.name == "runtime.NumGoroutine") = false) (hb : fn.body.isSome = true) (hd : o.dst = some d) (hw : Region.wanted o (yielded ops L.toArray) = true)
    (hargs : xs.map (Act.eval ⟨L.toArray,D⟩) = args) (hc : Calls P f args w fun e w' => ∃ v,e = .returned v ∧ K ⟨(L.set d v).toArray,D⟩ w') : wpOp P ops Q i K ⟨L.toArray,D⟩ w:=by
  have hi' : ops[i]? = some o:=by rw [← Array.getElem?_toList];exact hi
  refine Oq hi' hop hf hname hb hw hargs (hc.mono fun e w' ⟨v,he,h⟩ => ⟨v,he,?_⟩)
  rw [hd,Co]
  exact h
theorem AQ {a : Act} (l : List Nat) (hok : (Region.ready .any ops (lsd ops.size done) == l && !l.isEmpty && decide (done.length < ops.size)) = true) (h : ∀ i ∈ l, ∀ w,S (lsd ops.size done) a w → wpOp P ops Q i (fun a' w' => S (lsd ops.size (i :: done)) a' w' ∧ Reg P ops Q S m (i :: done) a') a w) : Reg P ops Q S m done a:=by
  refine ⟨?_⟩
  simp only [Bool.and_eq_true,decide_eq_true_eq,beq_iff_eq,Bool.not_eq_true'] at hok
  rw [show ops.size - done.length = (ops.size - (done.length + 1)) + 1 by omega]
  refine ⟨fun h0 => (by rw [hok.1.1] at h0;rw [h0] at hok;simp at hok),fun j hj w hS => ?_⟩
  rw [hok.1.1] at hj
  refine wpOp_mono (fun a' w' h' => .inl ?_) (h j hj w hS)
  rw [Il]
  exact ⟨h'.1,h'.2.out⟩
theorem BQ {a : Act} (hok : M8 ops done i = true) (hm : decide (m ≤ i) = true) (h : ∀ w,S (lsd ops.size done) a w → wpOp P ops Q i (fun a' w' => Ti P ops Q (i :: done) a' w') a w) : Reg P ops Q S m done a:=by
  refine ⟨?_⟩
  simp only [M8,Bool.and_eq_true,decide_eq_true_eq,beq_iff_eq] at hok hm
  rw [show ops.size - done.length = (ops.size - (done.length + 1)) + 1 by omega]
  refine ⟨fun h0 => (by rw [hok.1] at h0;cases h0),fun j hj w hS => ?_⟩
  rw [hok.1,List.mem_singleton] at hj
  subst hj
  refine wpOp_mono (fun a' w' h' => .inr ⟨hm,?_⟩) (h w hS)
  rw [Il]
  exact h'.out
theorem Ky {a : Act} {w : World} (hok : M8 ops done i = true) (h : wpOp P ops Q i (fun a' w' => Ti P ops Q (i :: done) a' w') a w) : Ti P ops Q done a w:=by
  refine ⟨?_⟩
  simp only [M8,Bool.and_eq_true,decide_eq_true_eq,beq_iff_eq] at hok
  rw [show ops.size - done.length = (ops.size - (done.length + 1)) + 1 by omega]
  refine ⟨fun h0 => (by rw [hok.1] at h0;cases h0),fun j hj => ?_⟩
  rw [hok.1,List.mem_singleton] at hj
  subst hj
  refine wpOp_mono (fun a' w' h' => ?_) h
  rw [Il]
  exact h'.out
def VN (ops : Array Oper) (done : List Nat) : Bool:=Region.ready .any ops (lsd ops.size done) == []
theorem BB {a : Act} {w : World} (hok : VN ops done = true) (h : Q .normal a w) : Ti P ops Q done a w:=by
  refine ⟨?_⟩
  have hr:=beq_iff_eq.1 hok
  generalize ops.size - done.length = n
  cases n with
  | zero => exact ⟨hr,h⟩
  | succ n => exact ⟨fun _ => h,fun i hi => by rw [hr] at hi;cases hi⟩
theorem AX {id : Nat} {a : Act} {w : World} (S : Array Bool → Act → World → Prop) (m : Nat) (hm : P.follows .mixedOrders = true) (ht : Ju ops m = true) (hS : S (lsd ops.size []) a w.drew)
    (h : Ac (Ju ops m = true) → Reg P ops Q S m [] a) : (Code.region id ops true).wp P Q a w:=by
  have h1:=(h ⟨ht⟩).out
  rw [JQ] at h1 hS
  exact wp_region_any hm (Ng _ _ _ _ hS h1)
end
end Go.Proofs.YtpjmlpmhgfghbaaGreat
namespace Go.Proofs.YtpjmlpmhgfghbaaGreat
open Go.RowKit Go.Proofs.YtpjmlpmhgfghbaaGreatW.PrintWords Go.Proofs.YtpjmlpmhgfghbaaGreatW.PrintLast Go.Proofs.YtpjmlpmhgfghbaaGreatW.PrintMore
abbrev Page.own (p : Page) (v : Value) : Value:=.agg #[.int .i64 p.lsn, .int .i64 p.owner,v]
def Og (w : World) (p : Page) (e : Ending) (w' : World) : Prop := ∃ v,e = .returned (p.own v) ∧ AR w' w.heap.size v p.vals ∧ Below w.heap.size w w'
abbrev Cw : Obj:=.cells #[.int .i64 0, .int .i64 0, .slice none 0 0] 81
theorem Vz (w : World) (p : Page) (A : Option Addr) (c : Nat) : KO ((w.alloc (p.box A c)).alloc Cw) ⟨w.heap.size,0,none⟩ p A c:=(Wv w p A c).up ((Below.refl _ _).alloc (Nat.le_refl _) _)
def AY (w : World) (g : Nat) (p : Page) (v : Value) : Prop:=w.heap[g]? = some (.cells #[.int .i64 p.lsn, .int .i64 p.owner,v] 81 (0,0))
theorem AY.c0 {w : World} {g : Nat} {p : Page} {v : Value} (h : AY w g p v) : w.cell? ⟨g,0,none⟩ = some (.int .i64 p.lsn):=by unfold AY at h;simp [World.cell?,h]
theorem AY.c1 {w : World} {g : Nat} {p : Page} {v : Value} (h : AY w g p v) : w.cell? ⟨g,1,none⟩ = some (.int .i64 p.owner):=by unfold AY at h;simp [World.cell?,h]
theorem AY.c2 {w : World} {g : Nat} {p : Page} {v : Value} (h : AY w g p v) : w.cell? ⟨g,2,none⟩ = some v:=by unfold AY at h;simp [World.cell?,h]
theorem AY.frz {w : World} {g : Nat} {p : Page} {v : Value} (h : AY w g p v) (k : Nat) : w.frozen? ⟨g,k,none⟩ = false:=by unfold AY at h;simp [World.frozen?,h]
theorem AY.up {w w1 : World} {g : Nat} {p : Page} {v : Value} (h : AY w g p v) (hb : Below w.heap.size w w1) : AY w1 g p v:=by
  have hg : g < w.heap.size:=(Array.getElem?_eq_some_iff.1 h).1
  exact (hb.block g hg).trans h
theorem AY.mk1 (w : World) (p : Page) (v : Value) : AY (w.alloc (.cells #[.int .i64 p.lsn, .int .i64 p.owner,v] 81)) w.heap.size p v:=by
  show (w.heap.push _)[w.heap.size]? = _
  simp
theorem heap_setCell_same {w : World} {g j : Nat} {cs : Array Value} {t : TypeId} {f : Nat × Nat} (h : w.heap[g]? = some (.cells cs t f)) (u : Value) : (w.setCell ⟨g,j,none⟩ u).heap[g]? = some (.cells (cs.setIfInBounds j u) t f):=by
  simp only [World.setCell,Array.getElem?_modify,h]
  simp
theorem AY.set0 {w : World} {g : Nat} {p : Page} {v : Value} (h : AY w g p v) (x : Int) : AY (w.setCell ⟨g,0,none⟩ (.int .i64 x)) g ⟨x,p.owner,p.vals⟩ v:=heap_setCell_same h _
theorem AY.set1 {w : World} {g : Nat} {p : Page} {v : Value} (h : AY w g p v) (x : Int) : AY (w.setCell ⟨g,1,none⟩ (.int .i64 x)) g ⟨p.lsn,x,p.vals⟩ v:=heap_setCell_same h _
theorem AY.set2 {w : World} {g : Nat} {p : Page} {v : Value} (h : AY w g p v) (x : Value) : AY (w.setCell ⟨g,2,none⟩ x) g p x:=heap_setCell_same h _
def zp : Page:=⟨0,0, []⟩
theorem QO (w : World) (p : Page) (A : Option Addr) (c : Nat) : AY ((w.alloc (p.box A c)).alloc Cw) (w.heap.size + 1) zp (.slice none 0 0):=by
  have:=AY.mk1 (w.alloc (p.box A c)) zp (.slice none 0 0)
  rwa [show (w.alloc (p.box A c)).heap.size = w.heap.size + 1 by simp] at this
theorem AR.set {w : World} {b g : Nat} {v : Value} {xs : List Int} (h : AR w b v xs) (hg : g < b) (u : Value) (j : Nat) : AR (w.setCell ⟨g,j,none⟩ u) b v xs:=ownsRow_setCell_below h hg u
abbrev Cu (w : World) (g : Nat) (p : Page) (v : Value) : World:=((w.setCell ⟨g,0,none⟩ (.int .i64 p.lsn)).setCell ⟨g,1,none⟩ (.int .i64 p.owner)).setCell ⟨g,2,none⟩ v
theorem AY.Cu {w : World} {g : Nat} {q : Page} {u : Value} (h : AY w g q u) (p : Page) (v : Value) : AY (Cu w g p v) g p v:=((h.set0 p.lsn).set1 p.owner).set2 v
theorem AR.Cu {w : World} {b g : Nat} {v : Value} {xs : List Int} (h : AR w b v xs) (hg : g < b) (p : Page) (u : Value) : AR (Cu w g p u) b v xs:=((h.set hg _ _).set hg _ _).set hg _ _
theorem Cr {w0 w : World} {g : Nat} (h : Below w0.heap.size w0 w) (hg : w0.heap.size ≤ g) (p : Page) (u : Value) : Below w0.heap.size w0 (Cu w g p u):=((h.setCell (p:=⟨g,0,none⟩) hg _).setCell (p:=⟨g,1,none⟩) hg _).setCell (p:=⟨g,2,none⟩) hg _
theorem WQ (w : World) (p : Page) (A : Option Addr) (c : Nat) : w.heap.size + 2 ≤ ((w.alloc (p.box A c)).alloc Cw).drew.heap.size:=by simp
theorem QN (w : World) (p : Page) (A : Option Addr) (c : Nat) : Below w.heap.size w ((w.alloc (p.box A c)).alloc Cw):=bj (Pw w p A c) ((Below.refl _ _).alloc (Nat.le_refl _) _)
set_option maxRecDepth 100000 in
set_option maxHeartbeats 4000000 in
theorem Fy {w0 w : World} {A : Option Addr} {c : Nat} {p : Page} (hl : p.vals.length ≤ 17592186044416) (hb : Below w0.heap.size w0 w) (hr : Kd.C (Kd.int .i64) w0 A p.vals.length p.vals) : Calls Tryz.prog 61 #[p.val A c] w (Og w p):=by
  have HR:=As (BM hr hb)
  have HL:=As hl
  have HA:=As (Vz w p A c)
  have HB:=As (QN w p A c)
  have HA2:=As (QO w p A c)
  clear hr hb hl
  go_enter Tryz.func61,Tryz.ntmps61
  go_wp2
  refine AX (fun lx a wx => (Below w.heap.size w wx ∧ w.heap.size + 2 ≤ wx.heap.size ∧ KO wx ⟨w.heap.size,0,none⟩ p A c ∧ AY wx (w.heap.size + 1) zp (.slice none 0 0)) ∧ Sl 6 9 (fun v wx => AR wx (w.heap.size + 2) v p.vals) lx a wx) 8 rfl (by kernel_rfl) (⟨⟨Aj HB.out,WQ w p A c,HA.out.up (Aj (Below.refl _ _)),HA2.out.up (Aj (Below.refl _ _))⟩,AZ⟩) (fun HT => ?_)
  refine Ae (i:=0) (v:=?_) HT rfl (by kernel_rfl) rfl (kA Aa (Ab rfl rfl)) (by rfl) (fun _ _ _ h => h) (fun lx ax wx hS => ?_) ?_;rotate_left;(obtain ⟨⟨-, -,⟨x0,x1,x2⟩, -⟩, -⟩:=hS;go_simp;with_reducible rfl);rotate_left;simp only [sc0,sc1]
  refine Ae (i:=1) (v:=?_) HT rfl (by kernel_rfl) rfl (kA Aa (Ab rfl rfl)) (by rfl) (fun _ _ _ h => h) (fun lx ax wx hS => ?_) ?_;rotate_left;(obtain ⟨⟨-, -,⟨x0,x1,x2⟩, -⟩, -⟩:=hS;go_simp;with_reducible rfl);rotate_left;simp only [sc0,sc1]
  refine Ae (i:=2) (v:=?_) HT rfl (by kernel_rfl) rfl (kA Aa (Ab rfl rfl)) (by rfl) (fun _ _ _ h => h) (fun lx ax wx hS => ?_) ?_;rotate_left;(obtain ⟨⟨-, -,⟨x0,x1,x2⟩, -⟩, -⟩:=hS;go_simp;with_reducible rfl);rotate_left;simp only [sc0,sc1]
  refine Ae (i:=3) (v:=?_) HT rfl (by kernel_rfl) rfl (kA Aa (Ab rfl rfl)) (by rfl) (fun _ _ _ h => h) (fun lx ax wx hS => ?_) ?_;rotate_left;(obtain ⟨⟨-, -,⟨x0,x1,x2⟩, -⟩, -⟩:=hS;go_simp;with_reducible rfl);rotate_left;simp only [sc0,sc1]
  refine Ae (i:=4) (v:=?_) HT rfl (by kernel_rfl) rfl (kA Aa (Ab rfl rfl)) (by rfl) (fun _ _ _ h => h) (fun lx ax wx hS => ?_) ?_;rotate_left;(obtain ⟨⟨-, -,⟨x0,x1,x2⟩, -⟩, -⟩:=hS;go_simp;with_reducible rfl);rotate_left;simp only [sc0,sc1]
  refine Ae (i:=5) (v:=?_) HT rfl (by kernel_rfl) rfl (kA Aa (Ab rfl rfl)) (by rfl) (fun _ _ _ h => h) (fun lx ax wx hS => ?_) ?_;rotate_left;(obtain ⟨⟨-, -,⟨x0,x1,x2⟩, -⟩, -⟩:=hS;go_simp;with_reducible rfl);rotate_left;simp only [sc0,sc1]
  refine BR (i:=6) (f:=121) (args:=#[.slice A p.vals.length c]) (fun v => ∃ A1 c1,v = .slice A1 p.vals.length c1) rfl (by kernel_rfl) rfl Tryz.func121 (by kernel_rfl) rfl rfl (by rfl) (by simp only [List.map_toArray,List.map_cons,List.map_nil];rfl) (fun wx hS => (MP HL.out hS.1.1 HR.out).mono (by rintro e w1 ⟨v,rfl,ho,hb⟩;obtain ⟨A1,c1,rfl, -, -⟩:=ho.reads;exact ⟨_,rfl,⟨A1,c1,rfl⟩,⟨bj hS.1.1 hb,by have:=hS.1.2.1;have:=hb.size;omega,hS.1.2.2.1.up hb,hS.1.2.2.2.up hb⟩,fun _ => ho.lower hS.1.2.1⟩)) (fun vx hg => ?_);simp only [sc0,sc1]
  obtain ⟨A1,c1,rfl⟩:=hg
  refine Ae (i:=7) (v:=?_) HT rfl (by kernel_rfl) rfl (kA Aa (Ab rfl rfl)) (by rfl) (fun _ _ _ h => h) (fun lx ax wx hS => ?_) ?_;rotate_left;(go_simp;with_reducible rfl);rotate_left;simp only [sc0,sc1]
  refine BQ (i:=8) (by kernel_rfl) rfl (fun wx hS => ?_)
  obtain ⟨⟨h1,h2, -,hy⟩,hs⟩:=hS
  have ho : AR wx (w.heap.size + 2) (.slice A1 p.vals.length c1) p.vals:=hs (by kernel_rfl)
  clear hs
  have y0:=hy.c0
  have y1:=hy.c1
  have y2:=hy.c2
  have f0:=hy.frz 0
  have f1:=hy.frz 1
  have f2:=hy.frz 2
  refine Bh (w1:=?_) rfl (by rfl) ?_ ?_
  rotate_left
  · go_simp
    with_reducible rfl
  have hy2:=((hy.set0 p.lsn).set1 p.owner).set2 (.slice A1 p.vals.length c1)
  have ho2:=(((ho.set (g:=w.heap.size + 1) (by omega) (Value.int .i64 p.lsn) 0).set (g:=w.heap.size + 1) (by omega) (Value.int .i64 p.owner) 1).set (g:=w.heap.size + 1) (by omega) (.slice A1 p.vals.length c1) 2)
  have h3:=((h1.setCell (p:=⟨w.heap.size + 1,0,none⟩) (by simp) (Value.int .i64 p.lsn)).setCell (p:=⟨w.heap.size + 1,1,none⟩) (by simp) (Value.int .i64 p.owner)).setCell (p:=⟨w.heap.size + 1,2,none⟩) (by simp) (.slice A1 p.vals.length c1)
  have z0:=hy2.c0
  have z1:=hy2.c1
  have z2:=hy2.c2
  refine BB (by kernel_rfl) ?_
  go_wp2
  exact bodyPost_ret (v:=p.own (.slice A1 p.vals.length c1)) (by simp [results,Tryz.results61,go_sem,z0,z1,z2]) rfl ⟨_,rfl,ho2.lower (by omega),h3⟩
abbrev Kq (w : World) (base : Nat) (v : Value) (ps : List Page) : Prop:=Kd.R Dw 81 w base (fun _ => True) v ps
abbrev CB (w : World) (base : Nat) (ok : Nat → Prop) (v : Value) (ps : List Page) : Prop:=Kd.S Dw 81 w base ok v ps
abbrev EA (w : World) (base : Nat) (v : Value) (ps : List Page) : Prop:=CB w base (fun _ => True) v ps
def NT (w : World) (ps : List Page) (e : Ending) (w' : World) : Prop := ∃ v,e = .returned v ∧ EA w' w.heap.size v ps ∧ Below w.heap.size w w'
theorem TW : (Tryz.prog.info? 81).map (fun i => (i.zero,i.size,i.bytes)) = some (some (.agg #[.int .i64 0, .int .i64 0, .slice none 0 0]),3,40):=by kernel_rfl
theorem PW : Tryz.prog.underlying 25 = some (.slice 81):=Tryz.underlying25
theorem Vq {xs : List Page} {k : Nat} (h : k < xs.length) : xs.drop k = pg xs k :: xs.drop (k + 1):=by
  rw [List.drop_eq_getElem_cons h]
  simp [pg,List.getD_eq_getElem?_getD,h]
theorem Sw {xs : List Page} {k : Nat} (h : k < xs.length) : xs.take (k + 1) = xs.take k ++ [pg xs k]:=by
  rw [List.take_add_one]
  simp [pg,List.getD_eq_getElem?_getD,h]
theorem WT {w : World} {base : Nat} {v : Value} {ps : List Page} (h : Kq w base v ps) : ∀ k,v.ownBlock = some k → k < w.heap.size:=by
  obtain ⟨inner,ho⟩:=Kd.Ko h
  exact fun k hk => Nz ho k hk
theorem Wj {w : World} {base : Nat} {ok : Nat → Prop} {v : Value} {ps : List Page} (h : CB w base ok v ps) : ∀ k,v.ownBlock = some k → k < w.heap.size:=Kd.Xf h
theorem KZ {w : World} {base : Nat} {ok : Nat → Prop} {v : Value} {ps : List Page} (h : CB w base ok v ps) : ∀ k,v.ownBlock = some k → ok k:=by
  obtain ⟨f,h0,_⟩:=h
  exact h0
section
variable {ops : Array Oper} {rest : List Oper} {o : Oper} {a : Act} {Q : Exit → Act → World → Prop}
theorem Gi {w0 W : World} {N : Nat} {v u : Value} {ps : List Page} {p : Page} (hgd : o.guard = none) (s x : Operand)
    (ho : o.op = .call { callee:=.builtin .append,args:=#[s,x],argTypes:=#[25,25] }) (hs : a.eval s = v) (hx : a.eval x = .slice (some ⟨W.heap.size,0,none⟩) 1 1)
    (hp : AR W N u p.vals) (HO : CB W w0.heap.size (fun k => True ∧ k < N) v ps) (HB : Below w0.heap.size w0 W) (hl : ps.length + 1 ≤ 1000) (hN : w0.heap.size ≤ N)
    (h : ∀ v1 w1,EA w1 w0.heap.size v1 (ps ++ [p]) → Below w0.heap.size w0 w1 → wpList Tryz.prog ops Q rest (a.put o.dst v1) w1) :
    wpList Tryz.prog ops Q (o :: rest) a (W.alloc (.cells #[.int .i64 p.lsn, .int .i64 p.owner,u] 81)):=by
  have hv:=KZ HO
  refine Kd.QY Dw w0.heap.size hgd s x 25 81 _ 40 ho PW TW rfl (by decide) (by decide) v ps p [.int .i64 p.lsn, .int .i64 p.owner,u] (fun _ => True) (fun k => some k = u.ownBlock) hs hx ?_ (fun k hk => ⟨trivial,fun e => ?_⟩) (fun _ _ => trivial) (Kd.Dh HO (fun k hk => ⟨trivial,fun e => ?_⟩)) HB HB.size (by omega) (fun v1 w1 h1 h2 _ _ => h v1 w1 h1 h2)
  · exact Ir W _ _ p (Kd.Ez (DY hp hN) (fun k hk => hk.symm))
  · have h1:=Cc hp k hk.symm
    have h2:=(hv k e.symm).2
    omega
  · have h1:=Cc hp k e.symm
    have h2:=hk.2
    omega
end
def Na (ps : List Page) : Prop := ∀ p ∈ ps,p.vals.length ≤ 17592186044416
theorem UQ {ps : List Page} (h : Na ps) {k : Nat} (hk : k < ps.length) : (pg ps k).vals.length ≤ 17592186044416:=h _ (by simp [pg,List.getD_eq_getElem?_getD,hk])
set_option maxHeartbeats 4000000 in
theorem EF {w0 w : World} {A : Option Addr} {c : Nat} {ps : List Page} (hf : Na ps) (hn : ps.length ≤ 150) (hb : Below w0.heap.size w0 w) (hr : Kd.C Dw w0 A ps.length ps) : Calls Tryz.prog 49 #[.slice A ps.length c] w (NT w ps):=by
  have HR:=As (BM hr hb)
  have HF:=As hf
  clear hr hb hf
  go_enter Tryz.func49,Tryz.ntmps49
  go_wp2
  go_loopw [3,8] (fun v i wr => ∃ k : Nat,k ≤ ps.length ∧ i = .int .i64 (k : Int) ∧ Ac (EA wr w.heap.size v (ps.take k)) ∧ Ac (Below w.heap.size w wr)) (fun _ i _ => (ps.length - intOf i).toNat)
  case atStart => exact ⟨0,Nat.zero_le _,rfl,⟨Kd.Tf _ _ _ _ _⟩,⟨Below.refl _ _⟩⟩
  case round =>
    obtain ⟨k,hk,rfl,HO,HW⟩:=hrel
    have hm : ps.length ≤ 9223372036854775807:=(D5 HR.out).2
    by_cases hlt : k < ps.length
    · obtain ⟨ad,A2,c2,rfl,QP, -,g2⟩:=Fz (BM HR.out HW.out) k hlt
      obtain ⟨x0,x1,x2⟩:=QP
      have HG:=As g2
      have HFk:=As (UQ HF.out hlt)
      have HN:=As hn
      clear g2 hn
      go_wp2_with (first | (go_at_call 61;refine (Fy (w0:=wr) HFk.out (by go_grown) HG.out).mono ?_;rintro e w2 ⟨v,rfl,ho,hb2⟩;have HOv:=As (ho.lower (b':=wr.heap.size) (by simp));have HW2:=As (bj ((Below.refl _ wr).alloc (Nat.le_refl _) _) hb2);have HO2:=As (Kd.Ep HO.out HW2.out);clear ho hb2) | (at_builtin;refine Gi (p:=pg ps k) rfl (.tmp 12) (.tmp 15) rfl rfl rfl HOv.out HO2.out (bj HW.out HW2.out) (by have:=HN.out;simp;omega) HW.out.size ?_;intro v1 w3 hR hb3;have HR3:=As hR;have HW3:=As hb3;clear hR hb3))
      go_roundw
      case rel => exact ⟨k + 1,by omega,by go_num,⟨by rw [Sw hlt];exact HR3.out⟩,HW3⟩
      case measure => simp [intOf];omega
    · have HE:=As (show k = ps.length by omega)
      go_wp2
      go_ret
      exact ⟨_,rfl,by have:=HO.out;rwa [HE.out,List.take_length] at this,HW.out⟩
end Go.Proofs.YtpjmlpmhgfghbaaGreat
namespace Go.Proofs.YtpjmlpmhgfghbaaGreat
open Go.RowKit Go.Proofs.YtpjmlpmhgfghbaaGreatW.PrintWords Go.Proofs.YtpjmlpmhgfghbaaGreatW.PrintLast Go.Proofs.YtpjmlpmhgfghbaaGreatW.PrintMore
theorem Ut (W : World) (base : Nat) (e : TypeId) (size : Nat) (hb : base ≤ W.heap.size) : (W.alloc (.cells #[] e)).ownsRow base e size (.slice (some ⟨W.heap.size,0,none⟩) 0 0) 0 []:=by
  refine ⟨by simp, .inr ⟨W.heap.size,0,#[],rfl,hb,?_,?_⟩⟩
  · show (W.heap.push _)[W.heap.size]? = _
    simp
  · simp
theorem own_none' {W : World} {g base : Nat} (e : TypeId) (size : Nat) (hg : g = W.heap.size) (hb : base ≤ W.heap.size) : (W.alloc (.cells #[] e)).ownsRow base e size (.slice (some ⟨g,0,none⟩) 0 0) 0 []:=hg ▸ Ut W base e size hb
theorem Wu (w : World) (p : Page) (A : Option Addr) (c : Nat) : AY ((w.alloc (p.box A c)).alloc Cw) w.heap.size p (.slice A p.vals.length c):=(AY.mk1 w p _).up ((Below.refl _ _).alloc (Nat.le_refl _) _)
theorem W9 (w : World) (p : Page) (A : Option Addr) (c : Nat) : ((w.alloc (p.box A c)).alloc Cw).heap.size = w.heap.size + 2:=by simp
theorem AY.far {w : World} {g h : Nat} {p : Page} {v : Value} (hy : AY w g p v) (hne : h ≠ g) (j : Nat) (u : Value) : AY (w.setCell ⟨h,j,none⟩ u) g p v:=(Below.heap_setCell w ⟨h,j,none⟩ u g (Ne.symm hne)).trans hy
set_option maxRecDepth 100000 in
set_option maxHeartbeats 4000000 in
theorem Fq {w0 w : World} {A : Option Addr} {c : Nat} {p : Page} (hl : p.vals.length ≤ 17592186044416) (hb : Below w0.heap.size w0 w) (hr : Kd.C (Kd.int .i64) w0 A p.vals.length p.vals) : Calls Tryz.prog 57 #[p.val A c] w (Og w p):=by
  have HR:=As (BM hr hb)
  have HL:=As hl
  have HA:=As (Wu w p A c)
  have HB:=As (QN w p A c)
  have HA2:=As (QO w p A c)
  have HZ:=As (W9 w p A c)
  clear hr hb hl
  obtain ⟨W2,hW2⟩ : ∃ W2,(w.alloc (p.box A c)).alloc Cw = W2:=⟨_,rfl⟩
  have HW2:=As hW2
  rw [hW2] at HA HB HA2 HZ
  clear hW2
  go_enter Tryz.func57,Tryz.ntmps57
  go_wp2_with (at_builtin;go_loud (rw [HW2.out]);go_loud (refine M5 (w0:=W2) W2.heap.size rfl (.tmp 3) (.tmp 5) 33 3 .i64 8 rfl DW Fs (by omega) _ [] p.vals A p.vals.length c rfl rfl (own_none' 3 1 HZ.out.symm (Nat.le_refl _)) (Kd.Nu (enc:=Value.int .i64) (d:=(0 : Int)) (h1:=fun _ => rfl) (BM HR.out (bj HB.out ((Below.refl _ _).alloc (Nat.le_refl _) _)))) ((Below.refl _ _).alloc (Nat.le_refl _) _) (by simp) (by have:=HL.out;simp;omega) ?_);intro v1 w1 hown hb1 _ _;have hown : AR w1 W2.heap.size v1 p.vals:=hown;obtain ⟨A1,c1,rfl, -, -⟩:=hown.reads;have HO:=As hown;have HA1:=As (HA.out.up hb1);have HA3:=As (HA2.out.up hb1);have HB1:=As (bj HB.out hb1);have x0:=HA1.out.c0;have x1:=HA1.out.c1;have x2:=HA1.out.c2;have x3:=HA1.out.frz 2;have y0:=HA3.out.c0;have y1:=HA3.out.c1;have y2:=HA3.out.c2;have f0:=HA3.out.frz 0;have f1:=HA3.out.frz 1;have f2:=HA3.out.frz 2;clear hown hb1)
  have HA5:=As (HA1.out.set2 (.slice A1 p.vals.length c1))
  have ho1:=HO.out
  rw [HZ.out] at ho1
  have ho2:=ho1.set (g:=w.heap.size) (by omega) (.slice A1 p.vals.length c1) 2
  have h2:=HB1.out.setCell (p:=⟨w.heap.size,2,none⟩) (by simp) (.slice A1 p.vals.length c1)
  have ho3:=ho2.Cu (g:=w.heap.size + 1) (by omega) p (.slice A1 p.vals.length c1)
  have h3:=Cr (g:=w.heap.size + 1) h2 (by omega) p (.slice A1 p.vals.length c1)
  have hy:=AY.Cu (show AY (w1.setCell ⟨w.heap.size,2,none⟩ (.slice A1 p.vals.length c1)) (w.heap.size + 1) zp (.slice none 0 0) from HA3.out.far (by omega) _ _) p (.slice A1 p.vals.length c1)
  have z0:=hy.c0
  have z1:=hy.c1
  have z2:=hy.c2
  exact bodyPost_ret (v:=p.own (.slice A1 p.vals.length c1)) (by simp [results,Tryz.results57,go_sem,z0,z1,z2]) rfl ⟨_,rfl,ho3.lower (by omega),h3⟩
theorem Qa {W : World} {g base : Nat} (hg : g = W.heap.size) (hb : base ≤ W.heap.size) : EA (W.alloc (.cells #[] 81)) base (.slice (some ⟨g,0,none⟩) 0 0) []:=⟨fun _ => 0,fun _ _ => trivial, [],own_none' _ 3 hg hb,Reps.none _ _⟩
set_option maxHeartbeats 4000000 in
theorem Dg {w0 w : World} {A : Option Addr} {c : Nat} {ps : List Page} (hf : Na ps) (hn : ps.length ≤ 150) (hb : Below w0.heap.size w0 w) (hr : Kd.C Dw w0 A ps.length ps) : Calls Tryz.prog 100 #[.slice A ps.length c] w (NT w ps):=by
  have HR:=As (BM hr hb)
  have HF:=As hf
  clear hr hb hf
  go_enter Tryz.func100,Tryz.ntmps100
  go_wp2
  go_loopw [3,4] (fun v i wr => ∃ k : Nat,k ≤ ps.length ∧ i = .int .i64 (k : Int) ∧ Ac (EA wr w.heap.size v (ps.take k)) ∧ Ac (Below w.heap.size w wr)) (fun _ i _ => (ps.length - intOf i).toNat)
  case atStart => exact ⟨0,Nat.zero_le _,rfl,⟨Qa rfl (Nat.le_refl _)⟩,⟨(Below.refl _ _).alloc (Nat.le_refl _) _⟩⟩
  case round =>
    obtain ⟨k,hk,rfl,HO,HW⟩:=hrel
    have hm : ps.length ≤ 9223372036854775807:=(D5 HR.out).2
    by_cases hlt : k < ps.length
    · obtain ⟨ad,A2,c2,rfl,QP, -,g2⟩:=Fz (BM HR.out HW.out) k hlt
      obtain ⟨x0,x1,x2⟩:=QP
      have HG:=As g2
      have HFk:=As (UQ HF.out hlt)
      have HN:=As hn
      clear g2 hn
      go_wp2_with (first | (go_at_call 57;refine (Fq (w0:=wr) HFk.out (Below.refl _ _) HG.out).mono ?_;rintro e w2 ⟨v,rfl,ho,hb2⟩;have HOv:=As ho;have HW2:=As hb2;have HO2:=As (Kd.Ep HO.out HW2.out);clear ho hb2) | (at_builtin;refine Gi (p:=pg ps k) rfl (.tmp 12) (.tmp 18) rfl rfl rfl HOv.out HO2.out (bj HW.out HW2.out) (by have:=HN.out;simp;omega) HW.out.size ?_;intro v1 w3 hR hb3;have HR3:=As hR;have HW3:=As hb3;clear hR hb3))
      go_roundw
      case rel => exact ⟨k + 1,by omega,by go_num,⟨by rw [Sw hlt];exact HR3.out⟩,HW3⟩
      case measure => simp [intOf];omega
    · have HE:=As (show k = ps.length by omega)
      go_wp2
      go_ret
      exact ⟨_,rfl,by have:=HO.out;rwa [HE.out,List.take_length] at this,HW.out⟩
def Be (p : Page) (r : Rec) : Page:=if 0 ≤ r.slot then ⟨p.lsn,p.owner,p.vals.set r.slot.toNat r.new⟩ else if r.new = 0 then ⟨p.lsn,0, [0,0,0]⟩ else ⟨p.lsn,r.new,p.vals⟩
abbrev Rec.box (r : Rec) : Obj:=.cells #[.int .i64 r.kind, .int .i64 r.tx, .int .i64 r.page, .int .i64 r.slot, .int .i64 r.old, .int .i64 r.new, .int .i64 r.prev, .int .i64 r.next] 98
theorem Gh (w : World) (r : Rec) : G5 (w.alloc r.box) ⟨w.heap.size,0,none⟩ r:=⟨by go_simp,by go_simp,by go_simp,by go_simp,by go_simp,by go_simp,by go_simp,by go_simp⟩
theorem Ah {w0 w : World} (h : Below w0.heap.size w0 w) (o : Obj) : Below w0.heap.size w0 (w.alloc o):=h.alloc h.size o
theorem BA (w : World) (o : Obj) : (w.alloc o).heap.size = w.heap.size + 1:=by simp
theorem AR.lt {w : World} {b k : Nat} {v : Value} {xs : List Int} (h : AR w b v xs) (hk : v.ownBlock = some k) : k < w.heap.size:=Nz h k hk
theorem AR.base {w : World} {b k : Nat} {v : Value} {xs : List Int} (h : AR w b v xs) (hk : v.ownBlock = some k) : b ≤ k:=Cc h k hk
theorem AR.at {w : World} {b g cap : Nat} {xs : List Int} (h : AR w b (.slice (some ⟨g,0,none⟩) xs.length cap) xs) (i : Int) (h0 : 0 ≤ i) (h1 : i < xs.length) : w.cell? ⟨g,i.toNat,none⟩ = some (.int .i64 (rd xs i)) ∧ w.frozen? ⟨g,i.toNat,none⟩ = false:=Wo h i h0 h1
theorem AR.far {w : World} {b g : Nat} {v : Value} {xs : List Int} (h : AR w b v xs) (hg : ∀ k,v.ownBlock = some k → k ≠ g) (u : Value) (j : Nat) : AR (w.setCell ⟨g,j,none⟩ u) b v xs:=Qf h (fun e => hg g e.symm rfl) u
theorem AR.put {w : World} {b g cap : Nat} {xs : List Int} (h : AR w b (.slice (some ⟨g,0,none⟩) xs.length cap) xs) (i x : Int) : AR (w.setCell ⟨g,i.toNat,none⟩ (.int .i64 x)) b (.slice (some ⟨g,0,none⟩) xs.length cap) (xs.set i.toNat x):=Vr h i x
theorem FJ {P : Program} {ops : Array Oper} {l : List Oper} {Q : Exit → Act → World → Prop} {a : Act} {w : World} (p : Page) {v : Value} (h : ∀ w1,Below w.heap.size w w1 → w1.heap.size = w.heap.size + 1 → AY w1 w.heap.size p v → wpList P ops Q l a w1) : wpList P ops Q l a (w.alloc (.cells #[.int .i64 p.lsn, .int .i64 p.owner,v] 81)):=
  h _ ((Below.refl _ _).alloc (Nat.le_refl _) _) (BA _ _) (AY.mk1 w p v)
theorem SA : ∀ W : World,(Instr.makeSlice 33 (.int .i64 3) (.int .i64 3)).run Tryz.prog W = .ok (.slice (some ⟨W.heap.size,0,none⟩) 3 3) (W.alloc (.cells (madeCells #[.int .i64 0] 3) 3)):=Rm 33 3 .i64 8 DW Fs (by decide) 3 (by decide)
set_option maxRecDepth 100000 in
set_option maxHeartbeats 4000000 in
theorem Kt {w0 w : World} {A : Option Addr} {c : Nat} {p : Page} (r : Rec) (hl : p.vals.length ≤ 17592186044416) (hs : r.slot < p.vals.length) (hb : Below w0.heap.size w0 w) (hr : Kd.C (Kd.int .i64) w0 A p.vals.length p.vals) : Calls Tryz.prog 106 #[p.val A c,r.val] w (Og w (Be p r)):=by
  have HR:=As (BM hr hb)
  have HL:=As hl
  have HS:=As hs
  clear hr hb hl hs
  obtain ⟨W1,hW1⟩ : ∃ W1,w.alloc (p.box A c) = W1:=⟨_,rfl⟩
  obtain ⟨W2,hW2⟩ : ∃ W2,W1.alloc r.box = W2:=⟨_,rfl⟩
  obtain ⟨W3,hW3⟩ : ∃ W3,W2.alloc Cw = W3:=⟨_,rfl⟩
  have Z1 : W1.heap.size = w.heap.size + 1:=by rw [← hW1,BA]
  have Z2 : W2.heap.size = w.heap.size + 2:=by rw [← hW2,BA,Z1]
  have Z3 : W3.heap.size = w.heap.size + 3:=by rw [← hW3,BA,Z2]
  have hR3 : G5 W3 ⟨w.heap.size + 1,0,none⟩ r:=by
    have:=Gh W1 r
    rw [Z1,hW2] at this
    rw [← hW3]
    exact this.up (Ah (Below.refl _ _) _)
  have hP3 : AY W3 (w.heap.size + 2) zp (.slice none 0 0):=by
    have:=AY.mk1 W2 zp (.slice none 0 0)
    rw [Z2] at this
    rw [← hW3]
    exact this
  have hB3 : Below w.heap.size w W3:=by
    rw [← hW3, ← hW2, ← hW1]
    exact Ah (Ah (Ah (Below.refl _ _) _) _) _
  have HW3 : Ac (((w.alloc (p.box A c)).alloc r.box).alloc Cw = W3):=⟨by rw [hW1,hW2,hW3]⟩
  have HR3:=As hR3
  have HP3:=As hP3
  have HB3:=As hB3
  have HZ3:=As Z3
  clear hW1 hW2 hW3 Z1 Z2 Z3 hR3 hP3 hB3
  rcases lts r.slot 0 with ⟨e1,b1,c1⟩ | ⟨e1,b1,c1⟩
  · rcases BS r.new 0 with ⟨e2,b2,c2⟩ | ⟨e2,b2,c2⟩
    · go_enter Tryz.func106,Tryz.ntmps106
      go_wp2_with (first | (go_at_call 61;rw [HW3.out];refine (Fy (w0:=w) HL.out HB3.out HR.out).mono ?_;rintro e w1 ⟨v,rfl,ho,hb1⟩;obtain ⟨A1,c1,rfl, -, -⟩:=ho.reads;have HO:=As ho;have HB1:=As hb1;clear ho hb1) | (with_reducible refine FJ p ?_;intro w2 hb2 hz2 hq2;have HB2:=As (bj HB1.out hb2);have HW2:=As (bj HB3.out HB2.out);have HR2:=As (HR3.out.up HB2.out);have HP2:=As (HP3.out.up HB2.out);have HO2:=As (HO.out.below hb2);have HQ2:=As hq2;have hlt : w.heap.size + 3 ≤ w1.heap.size:=(by have:=HB1.out.size;have:=HZ3.out;omega);have hn1 : w.heap.size + 1 ≠ w1.heap.size:=(by omega);have hn2 : w.heap.size + 2 ≠ w1.heap.size:=(by omega);obtain ⟨-, -, -,x3, -,x5, -, -⟩:=HR2.out;simp only [Nat.zero_add] at x3 x5;have y0:=HP2.out.c0;have y1:=HP2.out.c1;have y2:=HP2.out.c2;have f0:=HP2.out.frz 0;have f1:=HP2.out.frz 1;have f2:=HP2.out.frz 2;have q0:=hq2.c0;have q1:=hq2.c1;have q2:=hq2.c2;have g1:=hq2.frz 1;have g2:=hq2.frz 2;clear hb2 hq2))
      have hmk:=SA
      go_region
      obtain ⟨W5,hW5⟩ : ∃ W5,(((w2.setCell ⟨w1.heap.size,1,none⟩ (.int .i64 0)).setCell ⟨w1.heap.size,2,none⟩ (.slice (some ⟨w1.heap.size + 1,0,none⟩) 3 3)).alloc (.cells (madeCells #[.int .i64 0] 3) 3)).drew = W5:=⟨_,rfl⟩
      have hs : ((w2.setCell ⟨w1.heap.size,1,none⟩ (.int .i64 0)).setCell ⟨w1.heap.size,2,none⟩ (.slice (some ⟨w1.heap.size + 1,0,none⟩) 3 3)).heap.size = w1.heap.size + 1:=by simp [hz2]
      have hup : Below (w1.heap.size + 1) ((w2.setCell ⟨w1.heap.size,1,none⟩ (.int .i64 0)).setCell ⟨w1.heap.size,2,none⟩ (.slice (some ⟨w1.heap.size + 1,0,none⟩) 3 3)) W5:=by
        rw [← hW5]
        exact ((Below.refl _ _).alloc (by omega) _).drew
      have hup : Below ((w2.setCell ⟨w1.heap.size,1,none⟩ (.int .i64 0)).setCell ⟨w1.heap.size,2,none⟩ (.slice (some ⟨w1.heap.size + 1,0,none⟩) 3 3)).heap.size ((w2.setCell ⟨w1.heap.size,1,none⟩ (.int .i64 0)).setCell ⟨w1.heap.size,2,none⟩ (.slice (some ⟨w1.heap.size + 1,0,none⟩) 3 3)) W5:=(congrArg (fun n => Below n _ W5) hs).mpr hup
      have hQ5 : AY W5 w1.heap.size ⟨p.lsn,0,p.vals⟩ (.slice (some ⟨w1.heap.size + 1,0,none⟩) 3 3):=((HQ2.out.set1 0).set2 _).up hup
      have hP5 : AY W5 (w.heap.size + 2) zp (.slice none 0 0):=((HP2.out.far (h:=w1.heap.size) (by omega) 1 _).far (h:=w1.heap.size) (by omega) 2 _).up hup
      have hB5 : Below w.heap.size w W5:=bj ((HW2.out.setCell (p:=⟨w1.heap.size,1,none⟩) (by simp;omega) _).setCell (p:=⟨w1.heap.size,2,none⟩) (by simp;omega) _) hup
      have hO5 : AR W5 W3.heap.size (.slice (some ⟨w1.heap.size + 1,0,none⟩) 3 3) [0,0,0]:=by
        rw [← hW5]
        have:=JO ((w2.setCell ⟨w1.heap.size,1,none⟩ (.int .i64 0)).setCell ⟨w1.heap.size,2,none⟩ (.slice (some ⟨w1.heap.size + 1,0,none⟩) 3 3)) W3.heap.size 3 .i64 3 (by have:=HZ3.out;omega) (by decide)
        rw [hs] at this
        exact this
      rw [hW5]
      have q0:=hQ5.c0
      have q1:=hQ5.c1
      have q2:=hQ5.c2
      have y0:=hP5.c0
      have y1:=hP5.c1
      have y2:=hP5.c2
      have f0:=hP5.frz 0
      have f1:=hP5.frz 1
      have f2:=hP5.frz 2
      have HO5:=As hO5
      have HB5:=As hB5
      have HP5:=As hP5
      clear hO5 hB5 hP5 hQ5 hup hs hW5
      go_wp2
      have h1:=HO5.out.Cu (g:=w.heap.size + 2) (by have:=HZ3.out;omega) ⟨p.lsn,0, [0,0,0]⟩ (.slice (some ⟨w1.heap.size + 1,0,none⟩) 3 3)
      have h2:=Cr (g:=w.heap.size + 2) HB5.out (by omega) ⟨p.lsn,0, [0,0,0]⟩ (.slice (some ⟨w1.heap.size + 1,0,none⟩) 3 3)
      have hy:=HP5.out.Cu ⟨p.lsn,0, [0,0,0]⟩ (.slice (some ⟨w1.heap.size + 1,0,none⟩) 3 3)
      have z0:=hy.c0
      have z1:=hy.c1
      have z2:=hy.c2
      have hw : Be p r = ⟨p.lsn,0, [0,0,0]⟩:=by rw [Be,if_neg (by have:=e1.out;omega),if_pos e2.out]
      rw [hw]
      exact bodyPost_ret (v:=(⟨p.lsn,0, [0,0,0]⟩ : Page).own (.slice (some ⟨w1.heap.size + 1,0,none⟩) 3 3)) (by simp [results,Tryz.results106,go_sem,z0,z1,z2]) rfl ⟨_,rfl,h1.lower (by have:=HZ3.out;omega),h2⟩
    · go_enter Tryz.func106,Tryz.ntmps106
      go_wp2_with (first | (go_at_call 61;rw [HW3.out];refine (Fy (w0:=w) HL.out HB3.out HR.out).mono ?_;rintro e w1 ⟨v,rfl,ho,hb1⟩;obtain ⟨A1,c1,rfl, -, -⟩:=ho.reads;have HO:=As ho;have HB1:=As hb1;clear ho hb1) | (with_reducible refine FJ p ?_;intro w2 hb2 hz2 hq2;have HB2:=As (bj HB1.out hb2);have HW2:=As (bj HB3.out HB2.out);have HR2:=As (HR3.out.up HB2.out);have HP2:=As (HP3.out.up HB2.out);have HO2:=As (HO.out.below hb2);have HQ2:=As hq2;have hlt : w.heap.size + 3 ≤ w1.heap.size:=(by have:=HB1.out.size;have:=HZ3.out;omega);have hn1 : w.heap.size + 1 ≠ w1.heap.size:=(by omega);have hn2 : w.heap.size + 2 ≠ w1.heap.size:=(by omega);obtain ⟨-, -, -,x3, -,x5, -, -⟩:=HR2.out;simp only [Nat.zero_add] at x3 x5;have y0:=HP2.out.c0;have y1:=HP2.out.c1;have y2:=HP2.out.c2;have f0:=HP2.out.frz 0;have f1:=HP2.out.frz 1;have f2:=HP2.out.frz 2;have q0:=hq2.c0;have q1:=hq2.c1;have q2:=hq2.c2;have g1:=hq2.frz 1;have g2:=hq2.frz 2;clear hb2 hq2))
      have h1:=(HO2.out.far (g:=w1.heap.size) (fun k hk => by have:=HO.out.lt hk;omega) (Value.int .i64 r.new) 1).Cu (g:=w.heap.size + 2) (by have:=HZ3.out;omega) ⟨p.lsn,r.new,p.vals⟩ (.slice A1 p.vals.length c1)
      have h2:=Cr (g:=w.heap.size + 2) (HW2.out.setCell (p:=⟨w1.heap.size,1,none⟩) (by simp;omega) (Value.int .i64 r.new)) (by omega) ⟨p.lsn,r.new,p.vals⟩ (.slice A1 p.vals.length c1)
      have hy:=(HP2.out.far (h:=w1.heap.size) (by omega) 1 (Value.int .i64 r.new)).Cu ⟨p.lsn,r.new,p.vals⟩ (.slice A1 p.vals.length c1)
      have z0:=hy.c0
      have z1:=hy.c1
      have z2:=hy.c2
      have hw : Be p r = ⟨p.lsn,r.new,p.vals⟩:=by rw [Be,if_neg (by have:=e1.out;omega),if_neg e2.out]
      rw [hw]
      exact bodyPost_ret (v:=(⟨p.lsn,r.new,p.vals⟩ : Page).own (.slice A1 p.vals.length c1)) (by simp [results,Tryz.results106,go_sem,z0,z1,z2]) rfl ⟨_,rfl,h1.lower (by have:=HZ3.out;omega),h2⟩
  · have hs2:=HS.out
    have hs1:=e1.out
    go_enter Tryz.func106,Tryz.ntmps106
    go_wp2_with (first | (go_at_call 61;rw [HW3.out];refine (Fy (w0:=w) HL.out HB3.out HR.out).mono ?_;rintro e w1 ⟨v,rfl,ho,hb1⟩;obtain ⟨g,cap,rfl,hgb,hgl⟩:=ho.form (by have:=HS.out;have:=e1.out;omega);have HG:=As (And.intro hgb hgl);clear hgb hgl;have HO:=As ho;have HB1:=As hb1;clear ho hb1) | (with_reducible refine FJ p ?_;(intro w2 hb2 hz2 hq2;have HB2:=As (bj HB1.out hb2);have HW2:=As (bj HB3.out HB2.out);have HR2:=As (HR3.out.up HB2.out);have HP2:=As (HP3.out.up HB2.out);have HO2:=As (HO.out.below hb2);have HQ2:=As hq2;have hlt : w.heap.size + 3 ≤ w1.heap.size:=(by have:=HB1.out.size;have:=HZ3.out;omega);have hn1 : w.heap.size + 1 ≠ w1.heap.size:=(by omega);have hn2 : w.heap.size + 2 ≠ w1.heap.size:=(by omega);obtain ⟨-, -, -,x3, -,x5, -, -⟩:=HR2.out;simp only [Nat.zero_add] at x3 x5;have y0:=HP2.out.c0;have y1:=HP2.out.c1;have y2:=HP2.out.c2;have f0:=HP2.out.frz 0;have f1:=HP2.out.frz 1;have f2:=HP2.out.frz 2;have q0:=hq2.c0;have q1:=hq2.c1;have q2:=hq2.c2;have g1:=hq2.frz 1;have g2:=hq2.frz 2;have hgw : g < w1.heap.size:=HO.out.lt (k:=g) rfl;have hgb : w.heap.size + 3 ≤ g:=(by have:=HO.out.base (k:=g) rfl;have:=HZ3.out;omega);have hg1 : w1.heap.size ≠ g:=(by omega);have hg2 : w.heap.size + 1 ≠ g:=(by omega);have hg3 : w.heap.size + 2 ≠ g:=(by omega);obtain ⟨p1,p2⟩:=HO2.out.at r.slot e1.out (by have:=HS.out;omega);clear hb2 hq2)))
    have h1:=(HO2.out.put r.slot r.new).Cu (g:=w.heap.size + 2) (by have:=HZ3.out;omega) p (.slice (some ⟨g,0,none⟩) p.vals.length cap)
    have h2:=Cr (g:=w.heap.size + 2) (HW2.out.setCell (p:=⟨g,r.slot.toNat,none⟩) (by simp;omega) (Value.int .i64 r.new)) (by omega) p (.slice (some ⟨g,0,none⟩) p.vals.length cap)
    have hy:=(HP2.out.far (h:=g) (by omega) r.slot.toNat (Value.int .i64 r.new)).Cu p (.slice (some ⟨g,0,none⟩) p.vals.length cap)
    have z0:=hy.c0
    have z1:=hy.c1
    have z2:=hy.c2
    have hw : Be p r = ⟨p.lsn,p.owner,p.vals.set r.slot.toNat r.new⟩:=by rw [Be,if_pos e1.out]
    rw [hw]
    exact bodyPost_ret (v:=(⟨p.lsn,p.owner,p.vals.set r.slot.toNat r.new⟩ : Page).own (.slice (some ⟨g,0,none⟩) p.vals.length cap)) (by simp [results,Tryz.results106,go_sem,z0,z1,z2]) rfl ⟨_,rfl,h1.lower (by have:=HZ3.out;omega),h2⟩
def doR (p : Page) (r : Rec) (n : Int) : Page:=⟨n,(Be p r).owner,(Be p r).vals⟩
theorem Ua {P : Program} {ops : Array Oper} {l : List Oper} {Q : Exit → Act → World → Prop} {a : Act} {W : World} (h : ∀ w1,Below W.heap.size W w1 → AR w1 W.heap.size (.slice (some ⟨W.heap.size,0,none⟩) 3 3) [0,0,0] → wpList P ops Q l a w1) : wpList P ops Q l a (W.alloc (.cells (madeCells #[.int .i64 0] 3) 3)):=
  h _ ((Below.refl _ _).alloc (Nat.le_refl _) _) (JO W W.heap.size 3 .i64 3 (Nat.le_refl _) (by decide))
set_option maxRecDepth 100000 in
set_option maxHeartbeats 4000000 in
theorem NF {w0 w : World} {A : Option Addr} {c : Nat} {p : Page} (r : Rec) (n : Int) (hl : p.vals.length ≤ 17592186044416) (hs : r.slot < p.vals.length) (hb : Below w0.heap.size w0 w) (hr : Kd.C (Kd.int .i64) w0 A p.vals.length p.vals) : Calls Tryz.prog 160 #[p.val A c,r.val, .int .i64 n] w (Og w (doR p r n)):=by
  have HR:=As (BM hr hb)
  have HL:=As hl
  have HS:=As hs
  clear hr hb hl hs
  obtain ⟨W1,hW1⟩ : ∃ W1,w.alloc (p.box A c) = W1:=⟨_,rfl⟩
  obtain ⟨W2,hW2⟩ : ∃ W2,W1.alloc r.box = W2:=⟨_,rfl⟩
  obtain ⟨W3,hW3⟩ : ∃ W3,W2.alloc Cw = W3:=⟨_,rfl⟩
  have Z1 : W1.heap.size = w.heap.size + 1:=by rw [← hW1,BA]
  have Z2 : W2.heap.size = w.heap.size + 2:=by rw [← hW2,BA,Z1]
  have Z3 : W3.heap.size = w.heap.size + 3:=by rw [← hW3,BA,Z2]
  have hR3 : G5 W3 ⟨w.heap.size + 1,0,none⟩ r:=by
    have:=Gh W1 r
    rw [Z1,hW2] at this
    rw [← hW3]
    exact this.up (Ah (Below.refl _ _) _)
  have hP3 : AY W3 (w.heap.size + 2) zp (.slice none 0 0):=by
    have:=AY.mk1 W2 zp (.slice none 0 0)
    rw [Z2] at this
    rw [← hW3]
    exact this
  have hB3 : Below w.heap.size w W3:=by
    rw [← hW3, ← hW2, ← hW1]
    exact Ah (Ah (Ah (Below.refl _ _) _) _) _
  have HW3 : Ac (((w.alloc (p.box A c)).alloc r.box).alloc Cw = W3):=⟨by rw [hW1,hW2,hW3]⟩
  have HR3:=As hR3
  have HP3:=As hP3
  have HB3:=As hB3
  have HZ3:=As Z3
  clear hW1 hW2 hW3 Z1 Z2 Z3 hR3 hP3 hB3
  rcases lts r.slot 0 with ⟨e1,b1,c1⟩ | ⟨e1,b1,c1⟩
  · rcases BS r.new 0 with ⟨e2,b2,c2⟩ | ⟨e2,b2,c2⟩
    · have hmk:=SA
      go_enter Tryz.func160,Tryz.ntmps160
      go_wp2_with (first | (go_at_call 57;rw [HW3.out];refine (Fq (w0:=w) HL.out HB3.out HR.out).mono ?_;rintro e w1 ⟨v,rfl,ho,hb1⟩;obtain ⟨A1,c1,rfl, -, -⟩:=ho.reads;have HO:=As ho;have HB1:=As hb1;clear ho hb1) | (with_reducible refine FJ p ?_;intro w2 hb2 hz2 hq2;have HB2:=As (bj HB1.out hb2);have HW2:=As (bj HB3.out HB2.out);have HR2:=As (HR3.out.up HB2.out);have HP2:=As (HP3.out.up HB2.out);have HO2:=As (HO.out.below hb2);have HQ2:=As hq2;have hlt : w.heap.size + 3 ≤ w1.heap.size:=(by have:=HB1.out.size;have:=HZ3.out;omega);have hn1 : w.heap.size + 1 ≠ w1.heap.size:=(by omega);have hn2 : w.heap.size + 2 ≠ w1.heap.size:=(by omega);obtain ⟨-, -, -,x3, -,x5, -, -⟩:=HR2.out;simp only [Nat.zero_add] at x3 x5;have y0:=HP2.out.c0;have y1:=HP2.out.c1;have y2:=HP2.out.c2;have f0:=HP2.out.frz 0;have f1:=HP2.out.frz 1;have f2:=HP2.out.frz 2;have q0:=hq2.c0;have q1:=hq2.c1;have q2:=hq2.c2;have g0:=hq2.frz 0;have g1:=hq2.frz 1;have g2:=hq2.frz 2;clear hb2 hq2) | (with_reducible refine Ua ?_;intro w4 hb4 ho4;have hQ4:=((HQ2.out.set0 n).set1 r.new).up hb4;have hP4:=((HP2.out.far (h:=w1.heap.size) (by omega) 0 (Value.int .i64 n)).far (h:=w1.heap.size) (by omega) 1 (Value.int .i64 r.new)).up hb4;have HB4:=As (bj ((HW2.out.setCell (p:=⟨w1.heap.size,0,none⟩) (by simp;omega) (Value.int .i64 n)).setCell (p:=⟨w1.heap.size,1,none⟩) (by simp;omega) (Value.int .i64 r.new)) hb4);simp only [World.size_setCell,hz2] at ho4;have HO4:=As ho4;have HQ4:=As hQ4;have HP4:=As hP4;have q0':=hQ4.c0;have q1':=hQ4.c1;have q2':=hQ4.c2;have g2':=hQ4.frz 2;have y0':=hP4.c0;have y1':=hP4.c1;have y2':=hP4.c2;have f0':=hP4.frz 0;have f1':=hP4.frz 1;have f2':=hP4.frz 2;clear hb4 ho4 hQ4 hP4))
      have h1:=(HO4.out.set (g:=w1.heap.size) (by omega) (.slice (some ⟨w1.heap.size + 1,0,none⟩) 3 3) 2).Cu (g:=w.heap.size + 2) (by omega) ⟨n,r.new, []⟩ (.slice (some ⟨w1.heap.size + 1,0,none⟩) 3 3)
      have h2:=Cr (g:=w.heap.size + 2) (HB4.out.setCell (p:=⟨w1.heap.size,2,none⟩) (by simp;omega) (.slice (some ⟨w1.heap.size + 1,0,none⟩) 3 3)) (by omega) ⟨n,r.new, []⟩ (.slice (some ⟨w1.heap.size + 1,0,none⟩) 3 3)
      have hy:=(HP4.out.far (h:=w1.heap.size) (by omega) 2 (.slice (some ⟨w1.heap.size + 1,0,none⟩) 3 3)).Cu ⟨n,r.new, []⟩ (.slice (some ⟨w1.heap.size + 1,0,none⟩) 3 3)
      have z0:=hy.c0
      have z1:=hy.c1
      have z2:=hy.c2
      have hw : doR p r n = ⟨n,r.new, [0,0,0]⟩:=by rw [doR,Be,if_neg (by have:=e1.out;omega),if_pos e2.out,e2.out]
      rw [hw]
      exact bodyPost_ret (v:=(⟨n,r.new, [0,0,0]⟩ : Page).own (.slice (some ⟨w1.heap.size + 1,0,none⟩) 3 3)) (by simp [results,Tryz.results160,go_sem,z0,z1,z2]) rfl ⟨_,rfl,h1.lower (by omega),h2⟩
    · go_enter Tryz.func160,Tryz.ntmps160
      go_wp2_with (first | (go_at_call 57;rw [HW3.out];refine (Fq (w0:=w) HL.out HB3.out HR.out).mono ?_;rintro e w1 ⟨v,rfl,ho,hb1⟩;obtain ⟨A1,c1,rfl, -, -⟩:=ho.reads;have HO:=As ho;have HB1:=As hb1;clear ho hb1) | (with_reducible refine FJ p ?_;intro w2 hb2 hz2 hq2;have HB2:=As (bj HB1.out hb2);have HW2:=As (bj HB3.out HB2.out);have HR2:=As (HR3.out.up HB2.out);have HP2:=As (HP3.out.up HB2.out);have HO2:=As (HO.out.below hb2);have HQ2:=As hq2;have hlt : w.heap.size + 3 ≤ w1.heap.size:=(by have:=HB1.out.size;have:=HZ3.out;omega);have hn1 : w.heap.size + 1 ≠ w1.heap.size:=(by omega);have hn2 : w.heap.size + 2 ≠ w1.heap.size:=(by omega);obtain ⟨-, -, -,x3, -,x5, -, -⟩:=HR2.out;simp only [Nat.zero_add] at x3 x5;have y0:=HP2.out.c0;have y1:=HP2.out.c1;have y2:=HP2.out.c2;have f0:=HP2.out.frz 0;have f1:=HP2.out.frz 1;have f2:=HP2.out.frz 2;have q0:=hq2.c0;have q1:=hq2.c1;have q2:=hq2.c2;have g0:=hq2.frz 0;have g1:=hq2.frz 1;have g2:=hq2.frz 2;clear hb2 hq2))
      have h1:=((HO2.out.far (g:=w1.heap.size) (fun k hk => by have:=HO.out.lt hk;omega) (Value.int .i64 n) 0).far (g:=w1.heap.size) (fun k hk => by have:=HO.out.lt hk;omega) (Value.int .i64 r.new) 1).Cu (g:=w.heap.size + 2) (by have:=HZ3.out;omega) ⟨n,r.new,p.vals⟩ (.slice A1 p.vals.length c1)
      have h2:=Cr (g:=w.heap.size + 2) ((HW2.out.setCell (p:=⟨w1.heap.size,0,none⟩) (by simp;omega) (Value.int .i64 n)).setCell (p:=⟨w1.heap.size,1,none⟩) (by simp;omega) (Value.int .i64 r.new)) (by omega) ⟨n,r.new,p.vals⟩ (.slice A1 p.vals.length c1)
      have hy:=((HP2.out.far (h:=w1.heap.size) (by omega) 0 (Value.int .i64 n)).far (h:=w1.heap.size) (by omega) 1 (Value.int .i64 r.new)).Cu ⟨n,r.new,p.vals⟩ (.slice A1 p.vals.length c1)
      have z0:=hy.c0
      have z1:=hy.c1
      have z2:=hy.c2
      have hw : doR p r n = ⟨n,r.new,p.vals⟩:=by rw [doR,Be,if_neg (by have:=e1.out;omega),if_neg e2.out]
      rw [hw]
      exact bodyPost_ret (v:=(⟨n,r.new,p.vals⟩ : Page).own (.slice A1 p.vals.length c1)) (by simp [results,Tryz.results160,go_sem,z0,z1,z2]) rfl ⟨_,rfl,h1.lower (by have:=HZ3.out;omega),h2⟩
  · have hs2:=HS.out
    have hs1:=e1.out
    go_enter Tryz.func160,Tryz.ntmps160
    go_wp2_with (first | (go_at_call 57;rw [HW3.out];refine (Fq (w0:=w) HL.out HB3.out HR.out).mono ?_;rintro e w1 ⟨v,rfl,ho,hb1⟩;obtain ⟨g,cap,rfl,hgb,hgl⟩:=ho.form (by have:=HS.out;have:=e1.out;omega);have HG:=As (And.intro hgb hgl);clear hgb hgl;have HO:=As ho;have HB1:=As hb1;clear ho hb1) | (with_reducible refine FJ p ?_;(intro w2 hb2 hz2 hq2;have HB2:=As (bj HB1.out hb2);have HW2:=As (bj HB3.out HB2.out);have HR2:=As (HR3.out.up HB2.out);have HP2:=As (HP3.out.up HB2.out);have HO2:=As (HO.out.below hb2);have HQ2:=As hq2;have hlt : w.heap.size + 3 ≤ w1.heap.size:=(by have:=HB1.out.size;have:=HZ3.out;omega);have hn1 : w.heap.size + 1 ≠ w1.heap.size:=(by omega);have hn2 : w.heap.size + 2 ≠ w1.heap.size:=(by omega);obtain ⟨-, -, -,x3, -,x5, -, -⟩:=HR2.out;simp only [Nat.zero_add] at x3 x5;have y0:=HP2.out.c0;have y1:=HP2.out.c1;have y2:=HP2.out.c2;have f0:=HP2.out.frz 0;have f1:=HP2.out.frz 1;have f2:=HP2.out.frz 2;have q0:=hq2.c0;have q1:=hq2.c1;have q2:=hq2.c2;have g0:=hq2.frz 0;have g1:=hq2.frz 1;have g2:=hq2.frz 2;have hgw : g < w1.heap.size:=HO.out.lt (k:=g) rfl;have hgb : w.heap.size + 3 ≤ g:=(by have:=HO.out.base (k:=g) rfl;have:=HZ3.out;omega);have hg1 : w1.heap.size ≠ g:=(by omega);have hg2 : w.heap.size + 1 ≠ g:=(by omega);have hg3 : w.heap.size + 2 ≠ g:=(by omega);obtain ⟨p1,p2⟩:=HO2.out.at r.slot e1.out (by have:=HS.out;omega);clear hb2 hq2)))
    have h1:=((HO2.out.far (g:=w1.heap.size) (fun k hk => by have:=HO.out.lt hk;omega) (Value.int .i64 n) 0).put r.slot r.new).Cu (g:=w.heap.size + 2) (by have:=HZ3.out;omega) ⟨n,p.owner, []⟩ (.slice (some ⟨g,0,none⟩) p.vals.length cap)
    have h2:=Cr (g:=w.heap.size + 2) ((HW2.out.setCell (p:=⟨w1.heap.size,0,none⟩) (by simp;omega) (Value.int .i64 n)).setCell (p:=⟨g,r.slot.toNat,none⟩) (by simp;omega) (Value.int .i64 r.new)) (by omega) ⟨n,p.owner, []⟩ (.slice (some ⟨g,0,none⟩) p.vals.length cap)
    have hy:=((HP2.out.far (h:=w1.heap.size) (by omega) 0 (Value.int .i64 n)).far (h:=g) (by omega) r.slot.toNat (Value.int .i64 r.new)).Cu ⟨n,p.owner, []⟩ (.slice (some ⟨g,0,none⟩) p.vals.length cap)
    have z0:=hy.c0
    have z1:=hy.c1
    have z2:=hy.c2
    have hw : doR p r n = ⟨n,p.owner,p.vals.set r.slot.toNat r.new⟩:=by rw [doR,Be,if_pos e1.out]
    rw [hw]
    exact bodyPost_ret (v:=(⟨n,p.owner,p.vals.set r.slot.toNat r.new⟩ : Page).own (.slice (some ⟨g,0,none⟩) p.vals.length cap)) (by simp [results,Tryz.results160,go_sem,z0,z1,z2]) rfl ⟨_,rfl,h1.lower (by have:=HZ3.out;omega),h2⟩
def V6 (b : Bool) (w : World) (e : Ending) (w' : World) : Prop := ∃ i : Int,e = .returned (.int .i64 i) ∧ decide (0 ≤ i) = b ∧ Below w.heap.size w w'
theorem TQ {w0 w : World} {A : Option Addr} {c : Nat} {p : Page} {b : Bool} (hv : Bv p = b) (hb : Below w0.heap.size w0 w) (hr : Kd.C (Kd.int .i64) w0 A p.vals.length p.vals) : Calls Tryz.prog 130 #[p.val A c] w fun e w' => e = .returned (.bool (!b)) ∧ Below w.heap.size w w':=by
  have HR:=As (BM hr hb)
  have HV:=As hv
  have HB:=As (Pw w p A c)
  clear hr hb hv
  go_enter Tryz.func130,Tryz.ntmps130
  go_wp2_with (go_at_call 131;refine (Dz HV.out HB.out HR.out).mono ?_;rintro e w1 ⟨rfl,hb1⟩;have HX:=As (bj HB.out hb1);clear hb1)
  go_ret
  exact ⟨rfl,HX.out⟩
set_option maxHeartbeats 4000000 in
theorem QC {w0 w : World} {A : Option Addr} {c : Nat} {l : List Page} (hb : Below w0.heap.size w0 w) (hr : Kd.C Dw w0 A l.length l) : Calls Tryz.prog 171 #[.slice A l.length c, .func (.func 130) #[] #[]] w (V6 (l.any fun x => !Bv x) w):=by
  have HR:=As (BM hr hb)
  have hm:=(D5 hr).2
  clear hr hb
  go_enter Tryz.func171,Tryz.ntmps171
  go_wp2
  go_loopw [8] (fun i wr => ∃ k : Nat,k ≤ l.length ∧ i = .int .i64 (k : Int) ∧ Ac ((l.any fun x => !Bv x) = (l.drop k).any fun x => !Bv x) ∧ Ac (Below w.heap.size w wr)) (fun i _ => (l.length - intOf i).toNat)
  case atStart => exact ⟨0,Nat.zero_le _,rfl,⟨rfl⟩,⟨Below.refl _ _⟩⟩
  case round =>
    obtain ⟨k,hk,rfl,HK,HW⟩:=hrel
    by_cases hlt : k < l.length
    · obtain ⟨ad,A2,c2,rfl,QP, -,g2⟩:=Fz (BM HR.out HW.out) k hlt
      obtain ⟨x0,x1,x2⟩:=QP
      have HG:=As g2
      have HD:=As (Vq hlt)
      clear g2
      cases hp : Bv (pg l k)
      all_goals
        have HP:=As hp
        clear hp
        go_wp2_with (go_at_call 130;refine (TQ HP.out (Below.refl _ _) HG.out).mono ?_;rintro e w1 ⟨rfl,hb1⟩;have HX:=As (bj HW.out hb1);clear hb1)
      · go_ret
        exact ⟨k,rfl,by rw [HK.out,HD.out,List.any_cons,HP.out];simp,HX.out⟩
      · go_roundw
        case rel => exact ⟨k + 1,by omega,by go_num,⟨by rw [HK.out,HD.out,List.any_cons,HP.out];rfl⟩,HX⟩
        case measure => simp [intOf];omega
    · have hke : k = l.length:=by omega
      go_wp2
      go_ret
      exact ⟨-1,rfl,by rw [HK.out,hke,List.drop_length];rfl,HW.out⟩
theorem NM {w0 w : World} {A : Option Addr} {c : Nat} {l : List Page} (hb : Below w0.heap.size w0 w) (hr : Kd.C Dw w0 A l.length l) : Calls Tryz.prog 129 #[.slice A l.length c, .func (.func 130) #[] #[]] w fun e w' => e = .returned (.bool (l.any fun x => !Bv x)) ∧ Below w.heap.size w w':=by
  have HR:=As (BM hr hb)
  clear hr hb
  go_enter Tryz.func129,Tryz.ntmps129
  go_wp2_with (go_at_call 171;refine (QC (Below.refl _ _) HR.out).mono ?_;rintro e w' ⟨i,rfl,hi,hb⟩)
  go_ret
  exact ⟨by first | exact AJ hi | rfl,hb⟩
def H8 (l : List Page) : Bool:=l.length == 5 && !(l.any fun x => !Bv x)
set_option maxHeartbeats 2000000 in
theorem BU {w0 w : World} {A : Option Addr} {c : Nat} {l : List Page} {b : Bool} (hv : H8 l = b) (hb : Below w0.heap.size w0 w) (hr : Kd.C Dw w0 A l.length l) : Calls Tryz.prog 75 #[.slice A l.length c] w fun e w' => e = .returned (.bool b) ∧ Below w.heap.size w w':=by
  have HR:=As (BM hr hb)
  have HV:=As hv
  clear hr hb hv
  rcases BS (l.length : Int) 5 with ⟨e1,b1,c1⟩ | ⟨e1,b1,c1⟩
  · go_enter Tryz.func75,Tryz.ntmps75
    go_wp2_with (go_at_call 129;refine (NM (Below.refl _ _) HR.out).mono ?_;rintro e w1 ⟨rfl,hb1⟩;have HX:=As hb1;clear hb1)
    go_ret
    exact ⟨AJ (by rw [← HV.out,H8,show (l.length == 5) = true by have:=e1.out;simp;omega];rfl),HX.out⟩
  · go_enter Tryz.func75,Tryz.ntmps75
    go_wp2
    go_ret
    exact ⟨AJ (by rw [← HV.out,H8,show (l.length == 5) = false by have:=e1.out;simp;omega];rfl),Below.refl _ _⟩
theorem TF {w0 w : World} {A : Option Addr} {n c : Nat} {l : List Page} {b : Bool} (hn : l.length = n) (hv : H8 l = b) (hb : Below w0.heap.size w0 w) (hr : Kd.C Dw w0 A l.length l) : Calls Tryz.prog 75 #[.slice A n c] w fun e w' => e = .returned (.bool b) ∧ Below w.heap.size w w':=hn ▸ BU hv hb hr
def E9 (ps : List Page) (r : Rec) (n : Nat) : List Page:=if Cx r.kind = true ∧ (pg ps r.page.toNat).lsn < n then ps.set r.page.toNat (doR (pg ps r.page.toNat) r n) else ps
def Cj (ps : List Page) (l : List Rec) : Nat → List Page
  | 0 => ps
  | n + 1 => E9 (Cj ps l n) (rc l n) (n + 1)
def geo (ps : List Page) : Prop:=ps.length = 5 ∧ ∀ p ∈ ps,p.vals.length = 3
theorem Ay {ps : List Page} (h : H8 ps = true) : geo ps:=by
  simp only [H8,Bool.and_eq_true,beq_iff_eq,Bool.not_eq_true',List.any_eq_false] at h
  exact ⟨h.1,fun p hp => (Cg.1 (by simpa using h.2 p hp)).2.2.2.2.1⟩
theorem G7 {ps : List Page} (h : geo ps) {k : Nat} (hk : k < 5) : (pg ps k).vals.length = 3:=h.2 _ (by simp [pg,List.getD_eq_getElem?_getD,h.1,hk])
theorem Fv {ps : List Page} (h : geo ps) : Na ps:=fun p hp => by rw [h.2 p hp];decide
theorem JL {p : Page} {r : Rec} (h : p.vals.length = 3) : (Be p r).vals.length = 3:=by
  unfold Be
  split
  · simpa using h
  · split
    · rfl
    · exact h
theorem Lm {ps : List Page} {k : Nat} {q : Page} (h : geo ps) (hq : q.vals.length = 3) : geo (ps.set k q):=by
  refine ⟨by simpa using h.1,fun p hp => ?_⟩
  rcases List.mem_or_eq_of_mem_set hp with hp | rfl
  · exact h.2 p hp
  · exact hq
theorem UL {ps : List Page} {r : Rec} {n : Nat} (h : geo ps) (hr : Cx r.kind = true → 0 ≤ r.page ∧ r.page ≤ 4) : geo (E9 ps r n):=by
  unfold E9
  split
  · rename_i hc
    have:=hr hc.1
    exact Lm h (JL (G7 h (by omega)))
  · exact h
theorem GY {r : Rec} (h : CU r = true) (hc : Cx r.kind = true) : 0 ≤ r.page ∧ r.page ≤ 4 ∧ -1 ≤ r.slot ∧ r.slot ≤ 2 ∧ 0 ≤ r.new ∧ r.new ≤ 9 ∧ (r.slot = -1 → r.new ≤ 3):=by
  rw [D7] at h
  simp only [Cx,Bool.or_eq_true,beq_iff_eq] at hc
  omega
theorem JF {ps : List Page} {l : List Rec} (h : geo ps) (hl : ∀ k,k < l.length → CU (rc l k) = true) : ∀ n,n ≤ l.length → geo (Cj ps l n)
  | 0,_ => h
  | n + 1,hn => UL (JF h hl n (by omega)) (fun hc => by have:=GY (hl n hn) hc;omega)
theorem Eu {w : World} {b B : Nat} {v u : Value} {xs : List Int} {p : Page} (h : AR w b v xs) (hp : AY w B p u) : ∀ k,v.ownBlock = some k → k ≠ B:=by
  rintro k hk rfl
  obtain ⟨cells,hc⟩:=Df h k hk
  have h1 : w.heap[k]? = _:=hp
  rw [hc] at h1
  injection h1 with h1
  injection h1 with _ h2
  exact absurd h2 (by decide)
theorem Vo {w : World} {b : Nat} {v : Value} {ps : List Page} (h : Kq w b v ps) (hn : 0 < ps.length) : ∃ g cap,v = .slice (some ⟨g,0,none⟩) ps.length cap ∧ b ≤ g ∧ g < w.heap.size:=by
  obtain ⟨inner,ho⟩:=Kd.Ko h
  rcases ho.2 with ⟨_,h2⟩ | ⟨g,cap,cur,h1,h2,_⟩
  · omega
  · exact ⟨g,cap,h1,Cc ho g (by rw [h1];rfl),Nz ho g (by rw [h1];rfl)⟩
theorem VL {w : World} {b g n cap : Nat} {ps : List Page} (h : Kq w b (.slice (some ⟨g,0,none⟩) n cap) ps) (i : Nat) (hi : i < n) : ∃ A c,w.cell? ⟨g,i * 3,none⟩ = some (.int .i64 (pg ps i).lsn) ∧ w.cell? ⟨g,i * 3 + 1,none⟩ = some (.int .i64 (pg ps i).owner) ∧ w.cell? ⟨g,i * 3 + 2,none⟩ = some (.slice A (pg ps i).vals.length c) ∧ Kd.C (Kd.int .i64) w A (pg ps i).vals.length (pg ps i).vals ∧ ∀ j,w.frozen? ⟨g,i * 3 + j,none⟩ = false:=by
  obtain ⟨c,hl,hM,hc,hf⟩:=Kd.NU h z0 (i : Int) (by omega) (by omega)
  obtain ⟨v,rfl,hv⟩:=MI hM
  obtain ⟨A,c2,rfl,_,hC⟩:=Kd.DK hv
  exact ⟨A,c2,hc 0 _ rfl,hc 1 _ rfl,hc 2 _ rfl,hC,hf⟩
theorem Cq {w : World} {b : Nat} {ok : Nat → Prop} {v : Value} {ps : List Page} (h : CB w b ok v ps) (hn : 0 < ps.length) : ∃ g cap,v = .slice (some ⟨g,0,none⟩) ps.length cap ∧ b ≤ g ∧ g < w.heap.size:=Vo (Kd.Ej (Kd.S_R h) (fun _ _ => trivial)) hn
theorem DC {w : World} {b g n cap : Nat} {ok : Nat → Prop} {ps : List Page} (h : CB w b ok (.slice (some ⟨g,0,none⟩) n cap) ps) (i : Nat) (hi : i < n) : ∃ A c,w.cell? ⟨g,i * 3,none⟩ = some (.int .i64 (pg ps i).lsn) ∧ w.cell? ⟨g,i * 3 + 1,none⟩ = some (.int .i64 (pg ps i).owner) ∧ w.cell? ⟨g,i * 3 + 2,none⟩ = some (.slice A (pg ps i).vals.length c) ∧ Kd.C (Kd.int .i64) w A (pg ps i).vals.length (pg ps i).vals ∧ ∀ j,w.frozen? ⟨g,i * 3 + j,none⟩ = false:=VL (Kd.Ej (Kd.S_R h) (fun _ _ => trivial)) i hi
theorem Sj {α : Type} (xs : List α) (i : Nat) (x : α) : (xs.set i x).zipIdx = xs.zipIdx.set i (x,i):=by
  apply List.ext_getElem?
  intro j
  rw [List.getElem?_zipIdx,List.getElem?_set,List.getElem?_set,List.getElem?_zipIdx,List.length_zipIdx]
  split
  · rename_i e
    subst e
    split <;> simp
  · rfl
section
variable {ops : Array Oper} {rest : List Oper} {o : Oper} {a : Act} {Q : Exit → Act → World → Prop}
theorem Mw {w0 W : World} {g n cap N : Nat} {ps : List Page} {q : Page} {v : Value} (i : Nat) (hn : ps.length = n) (hN : o.dst = none) (hgd : o.guard = none) (s x : Operand) (ho : o.op = .store 81 s x)
    (haddr : a.eval s = .pointer (some ⟨g,i * 3,none⟩)) (hx : a.eval x = q.own v) (hp : AR W N v q.vals) (hN0 : w0.heap.size ≤ N) (HO : Kq W w0.heap.size (.slice (some ⟨g,0,none⟩) n cap) ps) (hi : i < n) (HB : Below w0.heap.size w0 W)
    (h : ∀ w1,Kq w1 w0.heap.size (.slice (some ⟨g,0,none⟩) n cap) (ps.set i q) → Below w0.heap.size w0 w1 → W.grownBy w1 (some g) → wpList Tryz.prog ops Q rest a w1) : wpList Tryz.prog ops Q (o :: rest) a W:=by
  subst hn
  obtain ⟨c,hl,hM,hc,hf⟩:=Kd.NU HO z0 (i : Int) (by omega) (by omega)
  have hne : ∀ k,v.ownBlock = some k → True ∧ k ≠ g:=by
    rintro k hk
    refine ⟨trivial,?_⟩
    rintro rfl
    obtain ⟨cells,hc1⟩:=Df hp k hk
    obtain ⟨inner,ho2⟩:=Kd.Ko HO
    obtain ⟨cells2,hc2⟩:=Df ho2 k rfl
    rw [hc1] at hc2
    injection hc2 with h1
    injection h1 with _ h2
    exact absurd h2 (by decide)
  obtain ⟨A1,c1,rfl,_,_⟩:=AR.reads hp
  refine Kd.Tk Dw w0.heap.size hN hgd 81 s x ho _ (i : Int) 0 ps q _ [.int .i64 q.lsn, .int .i64 q.owner, .slice A1 q.vals.length c1] c (fun _ => True) (fun k => True ∧ k ≠ g) haddr (by rw [Nat.add_zero];rfl) hx rfl (by kernel_rfl) (by simp [Value.oneCell']) HO (by omega) (by omega) hl hc (Nat.le_refl 3) ?_ (fun k hk => hk) HB (fun w1 h1 h2 h3 => h w1 h1 h2 h3)
  have hl3 : c.length = 3:=hl
  rw [List.take_zero,List.nil_append,List.drop_of_length_le (by simp [hl3]),List.append_nil]
  exact Ir W _ _ q (Kd.Ez (DY hp hN0) hne)
theorem L9 {w0 W : World} {g n cap N : Nat} {ps : List Page} {q : Page} {v : Value} {ok : Nat → Prop} (i : Nat) (hn : ps.length = n) (hN : o.dst = none) (hgd : o.guard = none) (s x : Operand) (ho : o.op = .store 81 s x)
    (haddr : a.eval s = .pointer (some ⟨g,i * 3,none⟩)) (hx : a.eval x = q.own v) (hp : AR W N v q.vals) (hN0 : w0.heap.size ≤ N) (HO : CB W w0.heap.size (fun k => ok k ∧ k < N) (.slice (some ⟨g,0,none⟩) n cap) ps) (hi : i < n) (HB : Below w0.heap.size w0 W)
    (h : ∀ w1,CB w1 w0.heap.size (fun k => ok k ∨ some k = v.ownBlock) (.slice (some ⟨g,0,none⟩) n cap) (ps.set i q) → Below w0.heap.size w0 w1 → W.grownBy w1 (some g) → wpList Tryz.prog ops Q rest a w1) : wpList Tryz.prog ops Q (o :: rest) a W:=by
  subst hn
  have hgN:=KZ HO g rfl
  obtain ⟨f,hf,hR⟩:=Kd.V5 HO i (fun k => some k = v.ownBlock) (fun k hk h2 => by have:=Cc hp k hk.symm;omega)
  have hR2:=Kd.Ej (ok':=fun k => ok k ∨ some k = v.ownBlock) hR (fun k hk => .inl hk.1)
  obtain ⟨c,hl,hM,hc,hfz⟩:=Kd.NU hR2 (z0,0) (i : Int) (by omega) (by omega)
  obtain ⟨A1,c1,rfl,_,_⟩:=AR.reads hp
  refine Kd.Tk (Kd.tag f Dw) w0.heap.size hN hgd 81 s x ho _ (i : Int) 0 ps.zipIdx (q,i) _ [.int .i64 q.lsn, .int .i64 q.owner, .slice A1 q.vals.length c1] c (fun k => ok k ∨ some k = (Value.slice A1 q.vals.length c1).ownBlock) (fun k => some k = (Value.slice A1 q.vals.length c1).ownBlock) haddr (by rw [Nat.add_zero];rfl) hx rfl (by kernel_rfl) (by simp [Value.oneCell']) hR2 (by omega) (by omega) hl hc (Nat.le_refl 3) ?_ (fun k hk => ⟨.inr hk,fun e => ?_⟩) HB (fun w1 h1 h2 h3 => ?_)
  · have hl3 : c.length = 3:=hl
    rw [List.take_zero,List.nil_append,List.drop_of_length_le (by simp [hl3]),List.append_nil]
    exact Ir W _ _ q (Kd.Ez (DY hp hN0) (fun k hk => ⟨hk.symm,hf k hk.symm⟩))
  · have h1:=Cc hp k hk.symm
    omega
  · refine h w1 ⟨f,?_⟩ h2 h3
    rw [Sj]
    exact h1
end
end Go.Proofs.YtpjmlpmhgfghbaaGreat
namespace Go.Proofs.YtpjmlpmhgfghbaaGreat
open Go.RowKit Go.Proofs.YtpjmlpmhgfghbaaGreatW.PrintWords Go.Proofs.YtpjmlpmhgfghbaaGreatW.PrintLast Go.Proofs.YtpjmlpmhgfghbaaGreatW.PrintMore
theorem Ct {P : Program} {ops : Array Oper} {l : List Oper} {Q : Exit → Act → World → Prop} {a : Act} {w : World} (r : Rec) (h : ∀ w1,Below w.heap.size w w1 → w1.heap.size = w.heap.size + 1 → G5 w1 ⟨w.heap.size,0,none⟩ r → wpList P ops Q l a w1) : wpList P ops Q l a (w.alloc (.cells #[.int .i64 r.kind, .int .i64 r.tx, .int .i64 r.page, .int .i64 r.slot, .int .i64 r.old, .int .i64 r.new, .int .i64 r.prev, .int .i64 r.next] 98)):=
  h _ ((Below.refl _ _).alloc (Nat.le_refl _) _) (BA _ _) (Gh w r)
theorem Lp {ps : List Page} (h : geo ps) : ps.length = 5:=h.1
theorem AA {b : Bool} (h : b = true) (k : b = false) : False:=by rw [h] at k;cases k
theorem Ho {w : World} {b B : Nat} {v : Value} {xs : List Int} (h : AR w b v xs) (hg : ∀ k,v.ownBlock = some k → k ≠ B) (p : Page) (u : Value) : AR (Cu w B p u) b v xs:=((h.far hg _ _).far hg _ _).far hg _ _
def VT (w : World) (ps : List Page) (b : Bool) (e : Ending) (w' : World) : Prop := ∃ v,e = .returned (.tuple #[v, .bool b]) ∧ EA w' w.heap.size v ps ∧ Below w.heap.size w w'
set_option maxRecDepth 100000 in
set_option maxHeartbeats 4000000 in
theorem Kz {w0 w : World} {A B : Option Addr} {c d : Nat} {ps : List Page} {l : List Rec} (hg : geo ps) (hok : ∀ k,k < l.length → CU (rc l k) = true) (hl : l.length ≤ 150) (hb : Below w0.heap.size w0 w) (hr : Kd.C Dw w0 A ps.length ps) (hr2 : Kd.C C8 w0 B l.length l) : Calls Tryz.prog 46 #[.slice A ps.length c, .slice B l.length d] w (VT w (Cj ps l l.length) (H8 (Cj ps l l.length))):=by
  have HR:=As (BM hr hb)
  have HR2:=As (BM hr2 hb)
  have HG:=As hg
  have HK:=As hok
  clear hr hr2 hb hok hg
  go_enter Tryz.func46,Tryz.ntmps46
  go_wp2_with (go_at_call 49;refine (EF (Fv HG.out) (by have:=HG.out.1;omega) (Below.refl _ _) HR.out).mono ?_;rintro e w1 ⟨v,rfl,hO,hb1⟩;obtain ⟨g,cap,rfl,hgb,hgl⟩:=Cq hO (by have:=HG.out.1;omega);have HO:=As hO;have HB:=As hb1;have HGB:=As (And.intro hgb hgl);clear hO hb1 hgb hgl)
  have h5:=HG.out.1
  rw [h5] at HO ⊢
  clear h5
  go_loopw [14] (fun i wr => ∃ k : Nat,k ≤ l.length ∧ i = .int .i64 (k : Int) ∧ Ac (EA wr w.heap.size (.slice (some ⟨g,0,none⟩) 5 cap) (Cj ps l k)) ∧ Ac (Below w.heap.size w wr)) (fun i _ => (l.length - intOf i).toNat)
  case atStart => exact ⟨0,Nat.zero_le _,rfl,HO,HB⟩
  case round =>
    obtain ⟨k,hk,rfl,HO,HW⟩:=hrel
    have HGk:=As (JF HG.out HK.out k hk)
    by_cases hlt : k < l.length
    · obtain ⟨ad,rfl,QR⟩:=Cb (BM HR2.out HW.out) k hlt
      obtain ⟨z0,z1,z2,z3,z4,z5,z6,z7⟩:=QR
      cases hc : Cx (rc l k).kind
      · have HC:=As hc
        clear hc
        go_wp2_with (first | (with_reducible refine Ct (rc l k) ?_;intro w2 hb2 hz2 hq2;have HW2:=As (bj HW.out hb2);have HO2:=As (Kd.Bu HO.out hb2);obtain ⟨x0,x1,x2,x3,x4,x5,x6,x7⟩:=hq2;simp only [Nat.zero_add] at x1 x2 x3 x4 x5 x6 x7;clear hb2) | (go_at_call 105;refine (F3 HC.out _).mono ?_;rintro e w3 ⟨rfl,hb3⟩;have hs3:=hb3.size;have HW3:=As (bj HW2.out hb3);have HO3:=As (Kd.Bu HO2.out hb3);clear hb3))
        go_roundw
        case rel => exact ⟨k + 1,by omega,by go_num,⟨by rw [Cj,E9,if_neg (by rw [HC.out];simp)];exact HO3.out⟩,HW3⟩
        case measure => simp [intOf];omega
      · have HC:=As hc
        have hP:=GY (HK.out k hlt) hc
        have hp0 : 0 ≤ (rc l k).page:=hP.1
        have hp5 : (rc l k).page < 5:=by omega
        have hpn : (rc l k).page.toNat < 5:=by omega
        have HP:=As hP
        clear hc hP
        rcases lts (pg (Cj ps l k) (rc l k).page.toNat).lsn (k + 1 : Int) with ⟨e1,b1,c1⟩ | ⟨e1,b1,c1⟩
        · go_wp2_with (first | (with_reducible refine Ct (rc l k) ?_;intro w2 hb2 hz2 hq2;have HW2:=As (bj HW.out hb2);have HO2:=As (Kd.Bu HO.out hb2);have HQ2:=As hq2;obtain ⟨x0,x1,x2,x3,x4,x5,x6,x7⟩:=hq2;simp only [Nat.zero_add] at x1 x2 x3 x4 x5 x6 x7;clear hb2) | (go_at_call 105;refine (F3 HC.out _).mono ?_;rintro e w3 ⟨rfl,hb3⟩;have hs3:=hb3.size;have HW3:=As (bj HW2.out hb3);have HO3:=As (Kd.Bu HO2.out hb3);have HQ3:=As (HQ2.out.up hb3);obtain ⟨-, -,y2, -, -, -, -, -⟩:=HQ2.out.up hb3;simp only [Nat.zero_add] at y2;obtain ⟨A3,c3,p0,p1,p2,pC, -⟩:=DC HO3.out (rc l k).page.toNat hpn;have HPC:=As pC;clear hb3 pC))
          obtain ⟨q,hq⟩ : ∃ q,Be (pg (Cj ps l k) (rc l k).page.toNat) (rc l k) = q:=⟨_,rfl⟩
          have HQ:=As hq
          have hg3:=G7 HGk.out hpn
          have HG3:=As hg3
          have hgw : g < w3.heap.size:=by have:=HGB.out.2;have:=HW3.out.size;have:=Wj HO3.out g rfl;omega
          have hcall : ∀ wx,Below w3.heap.size w3 wx → Calls Tryz.prog 106 #[(pg (Cj ps l k) (rc l k).page.toNat).val A3 c3,(rc l k).val] wx (Og wx q):=fun wx hb => HQ.out ▸ Kt (rc l k) (by rw [HG3.out];decide) (by rw [HG3.out];have:=HP.out;omega) hb HPC.out
          clear hq hg3
          refine AX (fun lx a wx => (Below w.heap.size w wx ∧ Below w3.heap.size w3 wx) ∧ (Sl 6 39 (fun v wx => ∃ u,v = q.own u ∧ AR wx w3.heap.size u q.vals) lx a wx ∧ Sl 7 9 (fun v wx => ∃ B,v = .pointer (some ⟨B,0,none⟩) ∧ w3.heap.size ≤ B ∧ AY wx B zp (.slice none 0 0)) lx a wx)) 8 rfl (by kernel_rfl) (⟨⟨Aj HW3.out,Aj (Below.refl _ _)⟩,AZ,AZ⟩) (fun HT => ?_)
          refine Ae (i:=0) (v:=?_) HT rfl (by kernel_rfl) rfl (kA Aa (kA (Ab rfl rfl) (Ab rfl rfl))) (by rfl) (fun _ _ _ h => h) (fun lx ax wx hS => ?_) ?_;rotate_left;(obtain ⟨⟨-,hbx⟩, -⟩:=hS;obtain ⟨x0,x1,x2,x3,x4,x5,x6,x7⟩:=HQ3.out.up hbx;simp only [Nat.zero_add] at x1 x2 x3 x4 x5 x6 x7;replace p0:=bc hbx p0;replace p1:=bc hbx p1;replace p2:=bc hbx p2;go_simp;with_reducible rfl);rotate_left;simp only [sc0,sc1]
          refine Ae (i:=1) (v:=?_) HT rfl (by kernel_rfl) rfl (kA Aa (kA (Ab rfl rfl) (Ab rfl rfl))) (by rfl) (fun _ _ _ h => h) (fun lx ax wx hS => ?_) ?_;rotate_left;(obtain ⟨⟨-,hbx⟩, -⟩:=hS;obtain ⟨x0,x1,x2,x3,x4,x5,x6,x7⟩:=HQ3.out.up hbx;simp only [Nat.zero_add] at x1 x2 x3 x4 x5 x6 x7;replace p0:=bc hbx p0;replace p1:=bc hbx p1;replace p2:=bc hbx p2;go_simp;with_reducible rfl);rotate_left;simp only [sc0,sc1]
          refine Ae (i:=2) (v:=?_) HT rfl (by kernel_rfl) rfl (kA Aa (kA (Ab rfl rfl) (Ab rfl rfl))) (by rfl) (fun _ _ _ h => h) (fun lx ax wx hS => ?_) ?_;rotate_left;(obtain ⟨⟨-,hbx⟩, -⟩:=hS;obtain ⟨x0,x1,x2,x3,x4,x5,x6,x7⟩:=HQ3.out.up hbx;simp only [Nat.zero_add] at x1 x2 x3 x4 x5 x6 x7;replace p0:=bc hbx p0;replace p1:=bc hbx p1;replace p2:=bc hbx p2;go_simp;with_reducible rfl);rotate_left;simp only [sc0,sc1]
          refine Ae (i:=3) (v:=?_) HT rfl (by kernel_rfl) rfl (kA Aa (kA (Ab rfl rfl) (Ab rfl rfl))) (by rfl) (fun _ _ _ h => h) (fun lx ax wx hS => ?_) ?_;rotate_left;(obtain ⟨⟨-,hbx⟩, -⟩:=hS;obtain ⟨x0,x1,x2,x3,x4,x5,x6,x7⟩:=HQ3.out.up hbx;simp only [Nat.zero_add] at x1 x2 x3 x4 x5 x6 x7;replace p0:=bc hbx p0;replace p1:=bc hbx p1;replace p2:=bc hbx p2;go_simp;with_reducible rfl);rotate_left;simp only [sc0,sc1]
          refine Ae (i:=4) (v:=?_) HT rfl (by kernel_rfl) rfl (kA Aa (kA (Ab rfl rfl) (Ab rfl rfl))) (by rfl) (fun _ _ _ h => h) (fun lx ax wx hS => ?_) ?_;rotate_left;(obtain ⟨⟨-,hbx⟩, -⟩:=hS;obtain ⟨x0,x1,x2,x3,x4,x5,x6,x7⟩:=HQ3.out.up hbx;simp only [Nat.zero_add] at x1 x2 x3 x4 x5 x6 x7;replace p0:=bc hbx p0;replace p1:=bc hbx p1;replace p2:=bc hbx p2;go_simp;with_reducible rfl);rotate_left;simp only [sc0,sc1]
          refine Ae (i:=5) (v:=?_) HT rfl (by kernel_rfl) rfl (kA Aa (kA (Ab rfl rfl) (Ab rfl rfl))) (by rfl) (fun _ _ _ h => h) (fun lx ax wx hS => ?_) ?_;rotate_left;(obtain ⟨⟨-,hbx⟩, -⟩:=hS;obtain ⟨x0,x1,x2,x3,x4,x5,x6,x7⟩:=HQ3.out.up hbx;simp only [Nat.zero_add] at x1 x2 x3 x4 x5 x6 x7;replace p0:=bc hbx p0;replace p1:=bc hbx p1;replace p2:=bc hbx p2;go_simp;with_reducible rfl);rotate_left;simp only [sc0,sc1]
          refine AQ [6,7] (by kernel_rfl) (fun i hi w4 hS => ?_)
          rcases List.mem_cons.1 hi with rfl | hi
          · refine CV (f:=106) (args:=#[(pg (Cj ps l k) (rc l k).page.toNat).val A3 c3,(rc l k).val]) rfl rfl Tryz.func106 (by kernel_rfl) rfl rfl (by rfl) (by simp only [List.map_toArray,List.map_cons,List.map_nil];rfl) ((hcall w4 hS.1.2).mono ?_)
            rintro e w6 ⟨u,rfl,ho,hb⟩
            refine ⟨_,rfl,⟨⟨bj hS.1.1 hb,bj hS.1.2 hb⟩,fun _ => ⟨u,rfl,ho.lower hS.1.2.size⟩,fun h => ?_⟩,?_⟩
            · exact (AA h (by kernel_rfl)).elim
            simp only [sc0,sc1]
            refine AQ [7] (by kernel_rfl) (fun i hi w5 hS => ?_)
            obtain rfl:=List.mem_singleton.1 hi
            refine Bw (w1:=?_) (.pointer (some ⟨w5.heap.size,0,none⟩)) rfl rfl (by rfl) ?_ ?_
            rotate_left
            · go_simp
              with_reducible rfl
            refine ⟨⟨⟨Ah hS.1.1 _,Ah hS.1.2 _⟩,fun h => ?_,fun _ => ⟨w5.heap.size,rfl,hS.1.2.size,AY.mk1 w5 zp _⟩⟩,?_⟩
            · obtain ⟨u1,hu1,ho1⟩:=hS.2.1 (by kernel_rfl)
              exact ⟨u1,hu1,ho1.below (Ah (Below.refl _ _) _)⟩
            simp only [sc0,sc1]
            refine BQ (i:=8) (by kernel_rfl) rfl (fun w7 hS => ?_)
            obtain ⟨⟨h1,h2⟩,h3,h4⟩:=hS
            obtain ⟨u1,hu1,hown⟩:=h3 (by kernel_rfl)
            obtain ⟨B,hB,hBle,hbox⟩:=h4 (by kernel_rfl)
            have hu1 : q.own u = q.own u1:=hu1
            obtain rfl : u = u1:=by simpa using hu1
            obtain rfl : B = w5.heap.size:=by
              have hB : Value.pointer (some ⟨w5.heap.size,0,none⟩) = .pointer (some ⟨B,0,none⟩):=hB
              injection hB with hB
              injection hB with hB
              injection hB with hB
              exact hB.symm
            have H2:=As (Cr h2 hBle q u)
            have H1:=As (Cr (g:=w5.heap.size) h1 (by have:=HW3.out.size;omega) q u)
            have HBX:=As (hbox.Cu q u)
            have HU:=As (Ho hown (Eu hown hbox) q u)
            have HUN:=As (Eu hown hbox)
            have b0:=hbox.c0
            have b1:=hbox.c1
            have b2:=hbox.c2
            have d0:=hbox.frz 0
            have d1:=hbox.frz 1
            have d2:=hbox.frz 2
            obtain ⟨A8,c8,rfl, -, -⟩:=hown.reads
            refine Bh (w1:=?_) rfl (by rfl) ?_ ?_
            rotate_left
            · go_simp
              with_reducible rfl
            refine BB (by kernel_rfl) ?_
            clear hu1 hB h1 h2 h3 h4 hown hbox b0 b1 b2 d0 d1 d2 p0 p1 p2 hcall ho
            obtain ⟨W8,hW8⟩ : ∃ W8,Cu w7 w5.heap.size q (.slice A8 q.vals.length c8) = W8:=⟨_,rfl⟩
            rw [hW8] at H1 H2 HBX HU
            have e8:=hW8
            unfold Cu at e8
            rw [e8]
            clear e8 hW8
            have b0:=HBX.out.c0
            have b1:=HBX.out.c1
            have b2:=HBX.out.c2
            have d0:=HBX.out.frz 0
            obtain ⟨-, -,x2, -, -, -, -, -⟩:=HQ3.out.up H2.out
            simp only [Nat.zero_add] at x2
            have HS8:=As (And.intro hBle (And.intro hz2 hs3))
            have hne : wr.heap.size ≠ w5.heap.size:=by omega
            have hne2 : w5.heap.size ≠ wr.heap.size:=by omega
            have hne3 : g ≠ w5.heap.size:=by omega
            have HLB:=As hBle
            have HLN:=As hpn
            go_wp2_with (with_reducible refine QG (.store 81 (.tmp 47) (.tmp 46)) rfl ?_;go_loud (refine L9 (ok:=fun _ => True) (w0:=w) (N:=w3.heap.size) (q:=⟨(k : Int) + 1,q.owner,q.vals⟩) (rc l k).page.toNat (Lp HGk.out) rfl rfl (.tmp 47) (.tmp 46) rfl rfl rfl (HU.out.far HUN.out _ _) HW3.out.size (Kd.Ep HO3.out (H2.out.setCell (p:=⟨w5.heap.size,0,none⟩) HLB.out _)) HLN.out (H1.out.setCell (p:=⟨w5.heap.size,0,none⟩) (by have:=HW3.out.size;have:=HLB.out;simp only;omega) _) ?_);intro w9 hO9 hB9 hg9;have HO9:=As (Kd.Dh (ok':=fun _ => True) hO9 (fun _ _ => trivial));have HB9:=As hB9;clear hO9 hB9 hg9)
            go_roundw
            case rel => exact ⟨k + 1,by omega,by go_num,⟨by rw [Cj,E9,if_pos ⟨HC.out,by have:=e1.out;push_cast;omega⟩,doR,HQ.out];exact HO9.out⟩,HB9⟩
            case measure => simp [intOf];omega
          · obtain rfl:=List.mem_singleton.1 hi
            refine Bw (w1:=?_) (.pointer (some ⟨w4.heap.size,0,none⟩)) rfl rfl (by rfl) ?_ ?_
            rotate_left
            · go_simp
              with_reducible rfl
            refine ⟨⟨⟨Ah hS.1.1 _,Ah hS.1.2 _⟩,fun h => ?_,fun _ => ⟨w4.heap.size,rfl,hS.1.2.size,AY.mk1 w4 zp _⟩⟩,?_⟩
            · exact (AA h (by kernel_rfl)).elim
            simp only [sc0,sc1]
            refine AQ [6] (by kernel_rfl) (fun i hi w5 hS => ?_)
            obtain rfl:=List.mem_singleton.1 hi
            refine CV (f:=106) (args:=#[(pg (Cj ps l k) (rc l k).page.toNat).val A3 c3,(rc l k).val]) rfl rfl Tryz.func106 (by kernel_rfl) rfl rfl (by rfl) (by simp only [List.map_toArray,List.map_cons,List.map_nil];rfl) ((hcall w5 hS.1.2).mono ?_)
            rintro e w6 ⟨u,rfl,ho,hb⟩
            refine ⟨_,rfl,⟨⟨bj hS.1.1 hb,bj hS.1.2 hb⟩,fun _ => ⟨u,rfl,ho.lower hS.1.2.size⟩,fun h => ?_⟩,?_⟩
            · obtain ⟨B,hB,hBle,hbox⟩:=hS.2.2 (by kernel_rfl)
              exact ⟨B,hB,hBle,hbox.up hb⟩
            simp only [sc0,sc1]
            refine BQ (i:=8) (by kernel_rfl) rfl (fun w7 hS => ?_)
            obtain ⟨⟨h1,h2⟩,h3,h4⟩:=hS
            obtain ⟨u1,hu1,hown⟩:=h3 (by kernel_rfl)
            obtain ⟨B,hB,hBle,hbox⟩:=h4 (by kernel_rfl)
            have hu1 : q.own u = q.own u1:=hu1
            obtain rfl : u = u1:=by simpa using hu1
            obtain rfl : B = w4.heap.size:=by
              have hB : Value.pointer (some ⟨w4.heap.size,0,none⟩) = .pointer (some ⟨B,0,none⟩):=hB
              injection hB with hB
              injection hB with hB
              injection hB with hB
              exact hB.symm
            have H2:=As (Cr h2 hBle q u)
            have H1:=As (Cr (g:=w4.heap.size) h1 (by have:=HW3.out.size;omega) q u)
            have HBX:=As (hbox.Cu q u)
            have HU:=As (Ho hown (Eu hown hbox) q u)
            have HUN:=As (Eu hown hbox)
            have b0:=hbox.c0
            have b1:=hbox.c1
            have b2:=hbox.c2
            have d0:=hbox.frz 0
            have d1:=hbox.frz 1
            have d2:=hbox.frz 2
            obtain ⟨A8,c8,rfl, -, -⟩:=hown.reads
            refine Bh (w1:=?_) rfl (by rfl) ?_ ?_
            rotate_left
            · go_simp
              with_reducible rfl
            refine BB (by kernel_rfl) ?_
            clear hu1 hB h1 h2 h3 h4 hown hbox b0 b1 b2 d0 d1 d2 p0 p1 p2 hcall ho
            obtain ⟨W8,hW8⟩ : ∃ W8,Cu w7 w4.heap.size q (.slice A8 q.vals.length c8) = W8:=⟨_,rfl⟩
            rw [hW8] at H1 H2 HBX HU
            have e8:=hW8
            unfold Cu at e8
            rw [e8]
            clear e8 hW8
            have b0:=HBX.out.c0
            have b1:=HBX.out.c1
            have b2:=HBX.out.c2
            have d0:=HBX.out.frz 0
            obtain ⟨-, -,x2, -, -, -, -, -⟩:=HQ3.out.up H2.out
            simp only [Nat.zero_add] at x2
            have HS8:=As (And.intro hBle (And.intro hz2 hs3))
            have hne : wr.heap.size ≠ w4.heap.size:=by omega
            have hne2 : w4.heap.size ≠ wr.heap.size:=by omega
            have hne3 : g ≠ w4.heap.size:=by omega
            have HLB:=As hBle
            have HLN:=As hpn
            go_wp2_with (with_reducible refine QG (.store 81 (.tmp 47) (.tmp 46)) rfl ?_;go_loud (refine L9 (ok:=fun _ => True) (w0:=w) (N:=w3.heap.size) (q:=⟨(k : Int) + 1,q.owner,q.vals⟩) (rc l k).page.toNat (Lp HGk.out) rfl rfl (.tmp 47) (.tmp 46) rfl rfl rfl (HU.out.far HUN.out _ _) HW3.out.size (Kd.Ep HO3.out (H2.out.setCell (p:=⟨w4.heap.size,0,none⟩) HLB.out _)) HLN.out (H1.out.setCell (p:=⟨w4.heap.size,0,none⟩) (by have:=HW3.out.size;have:=HLB.out;simp only;omega) _) ?_);intro w9 hO9 hB9 hg9;have HO9:=As (Kd.Dh (ok':=fun _ => True) hO9 (fun _ _ => trivial));have HB9:=As hB9;clear hO9 hB9 hg9)
            go_roundw
            case rel => exact ⟨k + 1,by omega,by go_num,⟨by rw [Cj,E9,if_pos ⟨HC.out,by have:=e1.out;push_cast;omega⟩,doR,HQ.out];exact HO9.out⟩,HB9⟩
            case measure => simp [intOf];omega
        · go_wp2_with (first | (with_reducible refine Ct (rc l k) ?_;intro w2 hb2 hz2 hq2;have HW2:=As (bj HW.out hb2);have HO2:=As (Kd.Bu HO.out hb2);have HQ2:=As hq2;obtain ⟨x0,x1,x2,x3,x4,x5,x6,x7⟩:=hq2;simp only [Nat.zero_add] at x1 x2 x3 x4 x5 x6 x7;clear hb2) | (go_at_call 105;refine (F3 HC.out _).mono ?_;rintro e w3 ⟨rfl,hb3⟩;have hs3:=hb3.size;have HW3:=As (bj HW2.out hb3);have HO3:=As (Kd.Bu HO2.out hb3);have HQ3:=As (HQ2.out.up hb3);obtain ⟨-, -,y2, -, -, -, -, -⟩:=HQ2.out.up hb3;simp only [Nat.zero_add] at y2;obtain ⟨A3,c3,p0,p1,p2,pC, -⟩:=DC HO3.out (rc l k).page.toNat hpn;have HPC:=As pC;clear hb3 pC))
          go_roundw
          case rel => exact ⟨k + 1,by omega,by go_num,⟨by rw [Cj,E9,if_neg (by have:=e1.out;simp;intro _;omega)];exact HO3.out⟩,HW3⟩
          case measure => simp [intOf];omega
    · have hke : k = l.length:=by omega
      have HE:=As hke
      clear hke
      go_wp2_with (go_at_call 75;refine (TF HGk.out.1 rfl (Below.refl _ _) (Kd.QX HO.out).2.2).mono ?_;rintro e w2 ⟨rfl,hb2⟩;have HW2:=As (bj HW.out hb2);have HO2:=As (Kd.Bu HO.out hb2);clear hb2)
      go_ret2
      exact ⟨.slice (some ⟨g,0,none⟩) 5 cap,by rw [HE.out];rfl,by rw [← HE.out];exact HO2.out,HW2.out⟩
set_option maxRecDepth 100000 in
theorem Vm {α : Type} (d : Kd α) (hsz : d.sz = 3) {o : Oper} {a : Act} {w0 W : World} {g n cap : Nat} {xs : List α} {x' z : α} {q : Page} {v : Value} {ok okp : Nat → Prop} (i : Nat) (s x : Operand) (ho : o.op = .store 81 s x)
    (haddr : a.eval s = .pointer (some ⟨g,i * 3,none⟩)) (hx : a.eval x = q.own v) (hv1 : ∃ A c,v = .slice A q.vals.length c) (HO : d.R 81 W w0.heap.size ok (.slice (some ⟨g,0,none⟩) n cap) xs) (hi : i < n) (HB : Below w0.heap.size w0 W)
    (hM : d.M W w0.heap.size okp x' [.int .i64 q.lsn, .int .i64 q.owner,v]) (hokp : ∀ k,okp k → ok k ∧ k ≠ g) :
    ∃ w1,(execOp a.eval o).run Tryz.prog W = .ok .skip w1 ∧ d.R 81 w1 w0.heap.size ok (.slice (some ⟨g,0,none⟩) n cap) (xs.set i x') ∧ Below w0.heap.size w0 w1 ∧ W.grownBy w1 (some g):=by
  obtain ⟨c,hl,hM0,hc,hf⟩:=Kd.NU HO z (i : Int) (by omega) (by omega)
  obtain ⟨A1,c1,rfl⟩:=hv1
  have hl3 : c.length = 3:=hl.trans hsz
  obtain ⟨hrow,hg⟩:=Kd.Vb (okp:=okp) HO (i : Int) (by omega) (by omega) (seg := [.int .i64 q.lsn, .int .i64 q.owner, .slice A1 q.vals.length c1]) (j:=0) (x':=x') hl hc (by rw [hsz];exact Nat.le_refl 3) (by
    rw [List.take_zero,List.nil_append,List.drop_of_length_le (by simp [hl3]),List.append_nil]
    exact hM) hokp
  rw [hsz] at hrow hg
  have hbg : w0.heap.size ≤ g:=Kd.RY HO g (by simp [Value.ownBlock])
  have hB : Below w0.heap.size w0 (W.setCells g ((i : Int).toNat * 3 + 0) [.int .i64 q.lsn, .int .i64 q.owner, .slice A1 q.vals.length c1]):=HB.trans ⟨hg.os,hg.tape,hg.output,hg.size,fun k hk => by
    rcases Nat.lt_or_ge k W.heap.size with hlt | hge
    · exact hg.block k hlt (fun he => by injection he with he;omega)
    · exact Gg _ _ k (by omega)⟩
  refine ⟨_,?_,hrow,hB,hg⟩
  obtain ⟨_,inner,hown,hr⟩:=HO
  have hnx : n = xs.length:=by
    rcases hown.2 with ⟨hv,h0⟩ | ⟨g',cap',cur,hv,_⟩
    · cases hv
    · injection hv
  have hrun : (Instr.storeAt 81 (.pointer (some ⟨g,i * 3 + 0,none⟩)) (q.own (.slice A1 q.vals.length c1))).run Tryz.prog W = .ok () (W.setCells g (i * 3 + 0) [.int .i64 q.lsn, .int .i64 q.owner, .slice A1 q.vals.length c1]):=by
    rcases hown.2 with ⟨hv,_⟩ | ⟨g',cap',cur,hv,hb,hh,hnc,hcm,hcs,_⟩
    · cases hv
    injection hv with ha _ hc
    injection ha with ha
    injection ha with hg'
    subst hg';subst hc
    refine K9 _ _ _ hh rfl (by kernel_rfl) ?_ (by simp [Value.oneCell'])
    have h3 : cur.size = cap * 3:=by rw [← hsz];exact hcs
    simp
    omega
  unfold execOp
  simp only [ho,haddr,hx,Sem.run_bind,Sem.run_pure]
  rw [Nat.add_zero] at hrun
  rw [hrun]
  rfl
theorem Es {ops : Array Oper} {Q : Exit → Act → World → Prop} {K : Act → World → Prop} {i0 : Nat} {o : Oper} {a : Act} {w0 W : World} {g n cap N : Nat} {ps : List Page} {q : Page} {v : Value} {ok : Nat → Prop} (i : Nat) (hn : ps.length = n) (s x : Operand) (hi0 : ops.toList[i0]? = some o) (hw : Region.wanted o (yielded ops a.tmps) = true) (ho : o.op = .store 81 s x)
    (haddr : a.eval s = .pointer (some ⟨g,i * 3,none⟩)) (hx : a.eval x = q.own v) (hp : AR W N v q.vals) (hN0 : w0.heap.size ≤ N) (HO : CB W w0.heap.size (fun k => ok k ∧ k < N) (.slice (some ⟨g,0,none⟩) n cap) ps) (hi : i < n) (HB : Below w0.heap.size w0 W)
    (h : ∀ w1,CB w1 w0.heap.size (fun k => ok k ∨ some k = v.ownBlock) (.slice (some ⟨g,0,none⟩) n cap) (ps.set i q) → Below w0.heap.size w0 w1 → W.grownBy w1 (some g) → K (a.put o.dst undef) w1) : wpOp Tryz.prog ops Q i0 K a W:=by
  subst hn
  have hgN:=KZ HO g rfl
  obtain ⟨f,hf,hR⟩:=Kd.V5 HO i (fun k => some k = v.ownBlock) (fun k hk h2 => by have:=Cc hp k hk.symm;omega)
  have hR2:=Kd.Ej (ok':=fun k => ok k ∨ some k = v.ownBlock) hR (fun k hk => .inl hk.1)
  have hl0 : ps.zipIdx.length = ps.length:=List.length_zipIdx
  obtain ⟨A1,c1,hv,_,_⟩:=AR.reads hp
  obtain ⟨w1,hr,h1,h2,h3⟩:=Vm (Kd.tag f Dw) rfl (z:=(z0,0)) (x':=(q,i)) (okp:=fun k => some k = v.ownBlock) i s x ho haddr hx ⟨A1,c1,hv⟩ hR2 hi HB (Ir W _ _ q (Kd.Ez (DY hp hN0) (fun k hk => ⟨hk.symm,hf k hk.symm⟩))) (fun k hk => ⟨.inr hk,fun e => by have:=Cc hp k hk.symm;omega⟩)
  exact Bh hi0 hw hr (h w1 ⟨f,by rw [Sj];exact h1⟩ h2 h3)
set_option maxRecDepth 100000 in
set_option maxHeartbeats 4000000 in
theorem O8 {w0 w : World} {A B : Option Addr} {c d : Nat} {ps : List Page} {l : List Rec} (hg : geo ps) (hok : ∀ k,k < l.length → CU (rc l k) = true) (hl : l.length ≤ 150) (hb : Below w0.heap.size w0 w) (hr : Kd.C Dw w0 A ps.length ps) (hr2 : Kd.C C8 w0 B l.length l) : Calls Tryz.prog 94 #[.slice A ps.length c, .slice B l.length d] w (NT w (Cj ps l l.length)):=by
  have HR:=As (BM hr hb)
  have HR2:=As (BM hr2 hb)
  have HG:=As hg
  have HK:=As hok
  clear hr hr2 hb hok hg
  go_enter Tryz.func94,Tryz.ntmps94
  go_wp2_with (go_at_call 100;refine (Dg (Fv HG.out) (by have:=HG.out.1;omega) (Below.refl _ _) HR.out).mono ?_;rintro e w1 ⟨v,rfl,hO,hb1⟩;obtain ⟨g,cap,rfl,hgb,hgl⟩:=Cq hO (by have:=HG.out.1;omega);have HO:=As hO;have HB:=As hb1;have HGB:=As (And.intro hgb hgl);clear hO hb1 hgb hgl)
  have h5:=HG.out.1
  rw [h5] at HO ⊢
  clear h5
  go_loopw [6] (fun i wr => ∃ k : Nat,k ≤ l.length ∧ i = .int .i64 (k : Int) ∧ Ac (EA wr w.heap.size (.slice (some ⟨g,0,none⟩) 5 cap) (Cj ps l k)) ∧ Ac (Below w.heap.size w wr)) (fun i _ => (l.length - intOf i).toNat)
  case atStart => exact ⟨0,Nat.zero_le _,rfl,HO,HB⟩
  case round =>
    obtain ⟨k,hk,rfl,HO,HW⟩:=hrel
    have HGk:=As (JF HG.out HK.out k hk)
    by_cases hlt : k < l.length
    · obtain ⟨ad,rfl,QR⟩:=Cb (BM HR2.out HW.out) k hlt
      obtain ⟨z0,z1,z2,z3,z4,z5,z6,z7⟩:=QR
      cases hc : Cx (rc l k).kind
      · have HC:=As hc
        clear hc
        go_wp2_with (first | (with_reducible refine Ct (rc l k) ?_;intro w3 hb2 hz2 hq2;have HW3:=As (bj HW.out hb2);have HO3:=As (Kd.Bu HO.out hb2);have HQ3:=As hq2;obtain ⟨x0,x1,x2,x3,x4,x5,x6,x7⟩:=hq2;simp only [Nat.zero_add] at x1 x2 x3 x4 x5 x6 x7;clear hb2) | (go_at_call 159;refine (Fp HC.out _).mono ?_;rintro e w4 ⟨rfl,rfl⟩))
        go_roundw
        case rel => exact ⟨k + 1,by omega,by go_num,⟨by rw [Cj,E9,if_neg (by rw [HC.out];simp)];exact HO3.out⟩,HW3⟩
        case measure => simp [intOf];omega
      · have HC:=As hc
        have hP:=GY (HK.out k hlt) hc
        have hp0 : 0 ≤ (rc l k).page:=hP.1
        have hp5 : (rc l k).page < 5:=by omega
        have hpn : (rc l k).page.toNat < 5:=by omega
        have HP:=As hP
        clear hc hP
        rcases lts (pg (Cj ps l k) (rc l k).page.toNat).lsn (k + 1 : Int) with ⟨e1,b1,c1⟩ | ⟨e1,b1,c1⟩
        · go_wp2_with (first | (with_reducible refine Ct (rc l k) ?_;intro w3 hb2 hz2 hq2;have HW3:=As (bj HW.out hb2);have HO3:=As (Kd.Bu HO.out hb2);have HQ3:=As hq2;obtain ⟨x0,x1,x2,x3,x4,x5,x6,x7⟩:=hq2;simp only [Nat.zero_add] at x1 x2 x3 x4 x5 x6 x7;obtain ⟨A3,c3,p0,p1,p2,pC, -⟩:=DC HO3.out (rc l k).page.toNat hpn;have HPC:=As pC;clear pC;clear hb2) | (go_at_call 159;refine (Fp HC.out _).mono ?_;rintro e w4 ⟨rfl,rfl⟩))
          obtain ⟨q,hq⟩ : ∃ q,doR (pg (Cj ps l k) (rc l k).page.toNat) (rc l k) ((k : Int) + 1) = q:=⟨_,rfl⟩
          have HQ:=As hq
          have hg3:=G7 HGk.out hpn
          have HG3:=As hg3
          have hcall : ∀ wx,Below w3.heap.size w3 wx → Calls Tryz.prog 160 #[(pg (Cj ps l k) (rc l k).page.toNat).val A3 c3,(rc l k).val, .int .i64 ((k : Int) + 1)] wx (Og wx q):=fun wx hb => HQ.out ▸ NF (rc l k) ((k : Int) + 1) (by rw [HG3.out];decide) (by rw [HG3.out];have:=HP.out;omega) hb HPC.out
          have hwr : IntKind.i64.wrap ((k : Int) + 1) = (k : Int) + 1:=by simp (disch:=omega) only [IntWalk.i64_in]
          clear hq hg3
          refine AX (fun lx a wx => (Below w.heap.size w wx ∧ Below w3.heap.size w3 wx) ∧ Sl 11 45 (fun v wx => ∃ u,v = q.own u ∧ AR wx w3.heap.size u q.vals) lx a wx) 13 rfl (by kernel_rfl) (⟨⟨Aj HW3.out,Aj (Below.refl _ _)⟩,AZ⟩) (fun HT => ?_)
          refine Ae (i:=0) (v:=?_) HT rfl (by kernel_rfl) rfl (kA Aa (Ab rfl rfl)) (by rfl) (fun _ _ _ h => h) (fun lx ax wx hS => ?_) ?_;rotate_left;(obtain ⟨⟨-,hbx⟩, -⟩:=hS;obtain ⟨x0,x1,x2,x3,x4,x5,x6,x7⟩:=HQ3.out.up hbx;simp only [Nat.zero_add] at x1 x2 x3 x4 x5 x6 x7;replace p0:=bc hbx p0;replace p1:=bc hbx p1;replace p2:=bc hbx p2;go_simp;with_reducible rfl);rotate_left;simp only [sc0,sc1]
          refine Ae (i:=1) (v:=?_) HT rfl (by kernel_rfl) rfl (kA Aa (Ab rfl rfl)) (by rfl) (fun _ _ _ h => h) (fun lx ax wx hS => ?_) ?_;rotate_left;(obtain ⟨⟨-,hbx⟩, -⟩:=hS;obtain ⟨x0,x1,x2,x3,x4,x5,x6,x7⟩:=HQ3.out.up hbx;simp only [Nat.zero_add] at x1 x2 x3 x4 x5 x6 x7;replace p0:=bc hbx p0;replace p1:=bc hbx p1;replace p2:=bc hbx p2;go_simp;with_reducible rfl);rotate_left;simp only [sc0,sc1]
          refine Ae (i:=2) (v:=?_) HT rfl (by kernel_rfl) rfl (kA Aa (Ab rfl rfl)) (by rfl) (fun _ _ _ h => h) (fun lx ax wx hS => ?_) ?_;rotate_left;(obtain ⟨⟨-,hbx⟩, -⟩:=hS;obtain ⟨x0,x1,x2,x3,x4,x5,x6,x7⟩:=HQ3.out.up hbx;simp only [Nat.zero_add] at x1 x2 x3 x4 x5 x6 x7;replace p0:=bc hbx p0;replace p1:=bc hbx p1;replace p2:=bc hbx p2;go_simp;with_reducible rfl);rotate_left;simp only [sc0,sc1]
          refine Ae (i:=3) (v:=?_) HT rfl (by kernel_rfl) rfl (kA Aa (Ab rfl rfl)) (by rfl) (fun _ _ _ h => h) (fun lx ax wx hS => ?_) ?_;rotate_left;(obtain ⟨⟨-,hbx⟩, -⟩:=hS;obtain ⟨x0,x1,x2,x3,x4,x5,x6,x7⟩:=HQ3.out.up hbx;simp only [Nat.zero_add] at x1 x2 x3 x4 x5 x6 x7;replace p0:=bc hbx p0;replace p1:=bc hbx p1;replace p2:=bc hbx p2;go_simp;with_reducible rfl);rotate_left;simp only [sc0,sc1]
          refine Ae (i:=4) (v:=?_) HT rfl (by kernel_rfl) rfl (kA Aa (Ab rfl rfl)) (by rfl) (fun _ _ _ h => h) (fun lx ax wx hS => ?_) ?_;rotate_left;(obtain ⟨⟨-,hbx⟩, -⟩:=hS;obtain ⟨x0,x1,x2,x3,x4,x5,x6,x7⟩:=HQ3.out.up hbx;simp only [Nat.zero_add] at x1 x2 x3 x4 x5 x6 x7;replace p0:=bc hbx p0;replace p1:=bc hbx p1;replace p2:=bc hbx p2;go_simp;with_reducible rfl);rotate_left;simp only [sc0,sc1]
          refine Ae (i:=5) (v:=?_) HT rfl (by kernel_rfl) rfl (kA Aa (Ab rfl rfl)) (by rfl) (fun _ _ _ h => h) (fun lx ax wx hS => ?_) ?_;rotate_left;(obtain ⟨⟨-,hbx⟩, -⟩:=hS;obtain ⟨x0,x1,x2,x3,x4,x5,x6,x7⟩:=HQ3.out.up hbx;simp only [Nat.zero_add] at x1 x2 x3 x4 x5 x6 x7;replace p0:=bc hbx p0;replace p1:=bc hbx p1;replace p2:=bc hbx p2;go_simp;with_reducible rfl);rotate_left;simp only [sc0,sc1]
          refine Ae (i:=6) (v:=?_) HT rfl (by kernel_rfl) rfl (kA Aa (Ab rfl rfl)) (by rfl) (fun _ _ _ h => h) (fun lx ax wx hS => ?_) ?_;rotate_left;(obtain ⟨⟨-,hbx⟩, -⟩:=hS;obtain ⟨x0,x1,x2,x3,x4,x5,x6,x7⟩:=HQ3.out.up hbx;simp only [Nat.zero_add] at x1 x2 x3 x4 x5 x6 x7;replace p0:=bc hbx p0;replace p1:=bc hbx p1;replace p2:=bc hbx p2;go_simp;with_reducible rfl);rotate_left;simp only [sc0,sc1]
          refine Ae (i:=7) (v:=?_) HT rfl (by kernel_rfl) rfl (kA Aa (Ab rfl rfl)) (by rfl) (fun _ _ _ h => h) (fun lx ax wx hS => ?_) ?_;rotate_left;(obtain ⟨⟨-,hbx⟩, -⟩:=hS;obtain ⟨x0,x1,x2,x3,x4,x5,x6,x7⟩:=HQ3.out.up hbx;simp only [Nat.zero_add] at x1 x2 x3 x4 x5 x6 x7;replace p0:=bc hbx p0;replace p1:=bc hbx p1;replace p2:=bc hbx p2;go_simp;with_reducible rfl);rotate_left;simp only [sc0,sc1]
          refine Ae (i:=8) (v:=?_) HT rfl (by kernel_rfl) rfl (kA Aa (Ab rfl rfl)) (by rfl) (fun _ _ _ h => h) (fun lx ax wx hS => ?_) ?_;rotate_left;(obtain ⟨⟨-,hbx⟩, -⟩:=hS;obtain ⟨x0,x1,x2,x3,x4,x5,x6,x7⟩:=HQ3.out.up hbx;simp only [Nat.zero_add] at x1 x2 x3 x4 x5 x6 x7;replace p0:=bc hbx p0;replace p1:=bc hbx p1;replace p2:=bc hbx p2;go_simp;with_reducible rfl);rotate_left;simp only [sc0,sc1]
          refine Ae (i:=9) (v:=?_) HT rfl (by kernel_rfl) rfl (kA Aa (Ab rfl rfl)) (by rfl) (fun _ _ _ h => h) (fun lx ax wx hS => ?_) ?_;rotate_left;(obtain ⟨⟨-,hbx⟩, -⟩:=hS;obtain ⟨x0,x1,x2,x3,x4,x5,x6,x7⟩:=HQ3.out.up hbx;simp only [Nat.zero_add] at x1 x2 x3 x4 x5 x6 x7;replace p0:=bc hbx p0;replace p1:=bc hbx p1;replace p2:=bc hbx p2;go_simp;with_reducible rfl);rotate_left;simp only [sc0,sc1]
          refine Ae (i:=10) (v:=?_) HT rfl (by kernel_rfl) rfl (kA Aa (Ab rfl rfl)) (by rfl) (fun _ _ _ h => h) (fun lx ax wx hS => ?_) ?_;rotate_left;(obtain ⟨⟨-,hbx⟩, -⟩:=hS;obtain ⟨x0,x1,x2,x3,x4,x5,x6,x7⟩:=HQ3.out.up hbx;simp only [Nat.zero_add] at x1 x2 x3 x4 x5 x6 x7;replace p0:=bc hbx p0;replace p1:=bc hbx p1;replace p2:=bc hbx p2;go_simp;with_reducible rfl);rotate_left;simp only [sc0,sc1]
          refine BR (i:=11) (f:=160) (args:=#[(pg (Cj ps l k) (rc l k).page.toNat).val A3 c3,(rc l k).val, .int .i64 ((k : Int) + 1)]) (fun v => ∃ u,v = q.own u) rfl (by kernel_rfl) rfl Tryz.func160 (by kernel_rfl) rfl rfl (by rfl) (by simp only [List.map_toArray,List.map_cons,List.map_nil];rfl) (fun wx hS => (hcall wx hS.1.2).mono (by rintro e w6 ⟨u,rfl,ho,hb⟩;exact ⟨_,rfl,⟨u,rfl⟩,⟨bj hS.1.1 hb,bj hS.1.2 hb⟩,fun _ => ⟨u,rfl,ho.lower hS.1.2.size⟩⟩)) (fun vx hg => ?_);simp only [sc0,sc1]
          obtain ⟨u,rfl⟩:=hg
          refine Ae (i:=12) (v:=?_) HT rfl (by kernel_rfl) rfl (kA Aa (Ab rfl rfl)) (by rfl) (fun _ _ _ h => h) (fun lx ax wx hS => ?_) ?_;rotate_left;(go_simp;with_reducible rfl);rotate_left;simp only [sc0,sc1]
          refine BQ (i:=13) (by kernel_rfl) rfl (fun wx hS => ?_)
          obtain ⟨⟨h1,h2⟩,h3⟩:=hS
          obtain ⟨u1,hu1,hown⟩:=h3 (by kernel_rfl)
          have hu1 : q.own u = q.own u1:=hu1
          obtain rfl : u = u1:=by simpa using hu1
          refine Es (ok:=fun _ => True) (w0:=w) (N:=w3.heap.size) (q:=q) (rc l k).page.toNat (Lp HGk.out) (.tmp 46) (.tmp 45) rfl (by rfl) rfl rfl rfl hown HW3.out.size (Kd.Ep HO3.out h2) hpn h1 (fun w8 hO8 hB8 _ => ?_)
          have HO8:=As (Kd.Dh (ok':=fun _ => True) hO8 (fun _ _ => trivial))
          have HB8:=As hB8
          clear hO8 hB8 hown h1 h2 h3 hu1 hcall
          refine BB (by kernel_rfl) ?_
          go_wp2
          go_roundw
          case rel => exact ⟨k + 1,by omega,by go_num,⟨by rw [Cj,E9,if_pos ⟨HC.out,by have:=e1.out;push_cast;omega⟩];push_cast;rw [HQ.out];exact HO8.out⟩,HB8⟩
          case measure => simp [intOf];omega
        · go_wp2_with (first | (with_reducible refine Ct (rc l k) ?_;intro w3 hb2 hz2 hq2;have HW3:=As (bj HW.out hb2);have HO3:=As (Kd.Bu HO.out hb2);have HQ3:=As hq2;obtain ⟨x0,x1,x2,x3,x4,x5,x6,x7⟩:=hq2;simp only [Nat.zero_add] at x1 x2 x3 x4 x5 x6 x7;obtain ⟨A3,c3,p0,p1,p2,pC, -⟩:=DC HO3.out (rc l k).page.toNat hpn;have HPC:=As pC;clear pC;clear hb2) | (go_at_call 159;refine (Fp HC.out _).mono ?_;rintro e w4 ⟨rfl,rfl⟩))
          go_roundw
          case rel => exact ⟨k + 1,by omega,by go_num,⟨by rw [Cj,E9,if_neg (by have:=e1.out;simp;intro _;omega)];exact HO3.out⟩,HW3⟩
          case measure => simp [intOf];omega
    · have hke : k = l.length:=by omega
      have HE:=As hke
      clear hke
      go_wp2
      go_ret
      exact ⟨_,rfl,by rw [← HE.out];exact HO.out,HW.out⟩
def Gr (l : List Rec) (n : Nat) (page : Int) : Bool:=(BD l n).any fun m => (rc l (m - 1)).page == page
theorem Iu (l : List Rec) (p : Int) : Gr l 0 p = false:=by simp [Gr,Ck]
theorem OE {l : List Rec} {n : Nat} {p : Int} (h : BK l (n + 1) ≤ n) : Gr l (n + 1) p = ((rc l n).page == p || Gr l (BK l (n + 1)) p):=by
  simp [Gr,DV h]
set_option maxHeartbeats 1000000 in
theorem QB {w0 w : World} {A : Option Addr} {c : Nat} {l : List Rec} {tx page : Int} {b : Bool} (hv : Gr l (Ao l tx l.length) page = b) (hb : Below w0.heap.size w0 w) (hr : Kd.C C8 w0 A l.length l) (hl : AP l = true) : Calls Tryz.prog 56 #[.slice A l.length c, .int .i64 tx, .int .i64 page] w fun e w' => e = .returned (.bool b) ∧ w = w':=by
  have HR:=As hr
  have HB:=As hb
  have HL:=As hl
  have HV:=As hv
  have hm:=(D5 hr).2
  clear hr hb hl hv
  go_enter Tryz.func56,Tryz.ntmps56
  go_wp2_with (go_at_call 115;refine (IX tx HB.out HR.out).mono ?_;rintro e w' ⟨rfl,rfl⟩)
  go_loop [7] (fun i => ∃ k : Nat,k ≤ l.length ∧ i = .int .i64 (k : Int) ∧ Ac (Gr l k page = b)) (fun i => (intOf i).toNat)
  case atStart => exact ⟨Ao l tx l.length,Bb _ _ _,rfl,HV⟩
  case round =>
    obtain ⟨k,hk,rfl,HK⟩:=hrel
    rcases k with _ | k
    · go_wp2
      go_ret
      exact ⟨AJ (by rw [← HK.out,Iu]),rfl⟩
    · have F:=AB HL.out (k:=k) (by omega)
      obtain ⟨ad,rfl,QR⟩:=Cb HR.out k (by omega)
      have QW:=QR.up HB.out
      obtain ⟨g0,g1,g2,g3,g4,g5,g6,g7⟩:=QW
      have hp:=OE (p:=page) F.prev_le
      have HP:=As hp
      have hle:=F.prev_le
      rw [F.prev] at g6
      clear hp F QR
      rcases BS (rc l k).page page with ⟨e1,b1,c1⟩ | ⟨e1,b1,c1⟩
      · go_wp2
        go_ret
        exact ⟨AJ (by rw [← HK.out,HP.out,b1];rfl),rfl⟩
      · go_wp2
        go_round
        case rel => exact ⟨BK l (k + 1),by omega,rfl,⟨by rw [← HK.out,HP.out,b1,Bool.false_or]⟩⟩
        case measure => simp [intOf];omega
theorem Hf {l : List Rec} {n : Nat} (hk : (rc l n).kind = 1 ∨ (rc l n).kind = 2) (h : BK l (n + 1) ≤ n) : Bt l (n + 1) = n + 1:=by
  rw [Bt,KS hk h];rfl
theorem KT {l : List Rec} {n : Nat} (hk : (rc l n).kind = 6) (h : EG l (n + 1) ≤ n) : Bt l (n + 1) = Bt l (EG l (n + 1)):=by
  rw [Bt,LQ hk h];rfl
theorem KU {l : List Rec} {n : Nat} (h1 : (rc l n).kind ≠ 1) (h2 : (rc l n).kind ≠ 2) (h6 : (rc l n).kind ≠ 6) (h : BK l (n + 1) ≤ n) : Bt l (n + 1) = Bt l (BK l (n + 1)):=by
  rw [Bt,LV h1 h2 h6 h];rfl
theorem Ov (l : List Rec) : Bt l 0 = 0:=by rw [Bt,D6];rfl
set_option maxHeartbeats 2000000 in
theorem FV {w0 w : World} {A : Option Addr} {c n : Nat} {l : List Rec} (hn : n ≤ l.length) (hb : Below w0.heap.size w0 w) (hr : Kd.C C8 w0 A l.length l) (hl : AP l = true) : Calls Tryz.prog 161 #[.slice A l.length c, .int .i64 n] w fun e w' => e = .returned (.int .i64 (Bt l n)) ∧ Below w0.heap.size w0 w':=by
  have HR:=As hr
  have HB:=As hb
  have HL:=As hl
  have hm:=(D5 hr).2
  clear hr hb hl
  go_enter Tryz.func161,Tryz.ntmps161
  go_wp2
  go_loopw [1] (fun i wr => ∃ k : Nat,k ≤ l.length ∧ i = .int .i64 (k : Int) ∧ Ac (Bt l n = Bt l k) ∧ Ac (Below w0.heap.size w0 wr)) (fun i _ => (intOf i).toNat)
  case atStart => exact ⟨n,hn,rfl,⟨rfl⟩,HB⟩
  case round =>
    obtain ⟨k,hk,rfl,HK,HW⟩:=hrel
    rcases k with _ | k
    · go_wp2
      go_ret
      exact ⟨En (by rw [HK.out,Ov];rfl),HW.out⟩
    · have F:=AB HL.out (k:=k) (by omega)
      obtain ⟨ad,rfl,QR⟩:=Cb HR.out k (by omega)
      have QW:=QR.up HW.out
      obtain ⟨g0,g1,g2,g3,g4,g5,g6,g7⟩:=QW
      have hle:=F.prev_le
      have hle2:=F.next_le
      rw [F.prev] at g6
      rw [F.next] at g7
      clear F QR
      rcases BS (rc l k).kind 1 with ⟨e1,b1,c1⟩ | ⟨e1,b1,c1⟩
      · go_wp2
        go_ret
        exact ⟨En (by rw [HK.out,Hf (.inl e1.out) hle]),Dx HW.out _⟩
      · rcases BS (rc l k).kind 2 with ⟨e2,b2,c2⟩ | ⟨e2,b2,c2⟩
        · go_wp2
          go_ret
          exact ⟨En (by rw [HK.out,Hf (.inr e2.out) hle]),Dx HW.out _⟩
        · rcases BS (rc l k).kind 6 with ⟨e3,b3,c3⟩ | ⟨e3,b3,c3⟩
          · go_wp2
            go_roundw
            case rel => exact ⟨EG l (k + 1),by omega,rfl,⟨by rw [HK.out,KT e3.out hle2]⟩,⟨Dx HW.out _⟩⟩
            case measure => simp [intOf];omega
          · go_wp2
            go_roundw
            case rel => exact ⟨BK l (k + 1),by omega,rfl,⟨by rw [HK.out,KU e1.out e2.out e3.out hle]⟩,⟨Dx HW.out _⟩⟩
            case measure => simp [intOf];omega
def BF (l : List Rec) (page : Int) : Nat → Nat
  | 0 => 0
  | n + 1 => if (rc l n).page = page ∧ (Cx (rc l n).kind = true ∨ (rc l n).kind = 3) then n + 1 else BF l page n
open Go.RowKit Go.Shelf Go.Proofs.YtpjmlpmhgfghbaaGreatW.PrintWords Go.Proofs.YtpjmlpmhgfghbaaGreatW.PrintLast Go.Proofs.YtpjmlpmhgfghbaaGreatW.PrintMore
attribute [local go_sem] Oper.semAt_some
def Jh (n k : Nat) : List Nat:=(List.range k).map fun j => n - 1 - j
theorem FT (n k : Nat) : Jh n (k + 1) = Jh n k ++ [n - 1 - k]:=by simp [Jh,List.range_succ]
theorem Fx (n k : Nat) : (Jh n k).length = k:=by simp [Jh]
abbrev Ja (n : Nat) : Type:={ k : Nat // k < n }
set_option maxRecDepth 100000 in
set_option maxHeartbeats 4000000 in
theorem V3 (F : Fence) (n : Nat) (h7 : F.fn 181) (hro : F.round = none) (hn : 1 ≤ n) (l Bs n₀ cap : Nat) (A : Option Addr) (rs : List Rec) (w0 : World) (hC : Kd.C C8 w0 A rs.length rs) (J Jx : List (Ja rs.length) → World → Prop) (hw0 : w0.heap.size ≤ n₀) (hBn : Bs < n₀)
    (hY : ∀ pre x W,J pre W → pre.length < rs.length → YieldAt F (n - 1) Tryz.prog l #[.int .i64 (x.1 : Nat),(rc rs x.1).val] W fun e W' =>
      (e = .returned (.bool true) ∧ J (pre ++ [x]) W' ∧ Below n₀ W W') ∨ (e = .returned (.bool false) ∧ Jx (pre ++ [x]) W'))
    (W : World) (hBs : W.cell? ⟨Bs,0,none⟩ = some (.slice A rs.length cap)) (hW : Below w0.heap.size w0 W) (h0 : J [] W) :
    CallsIn F n Tryz.prog 181 #[.func (.yield l) #[] #[], .pointer (some ⟨Bs,0,none⟩)] W fun e W' => (∃ v,e = .returned v) ∧
      ((∃ ys : List (Ja rs.length),ys.map (·.1) = Jh rs.length rs.length ∧ J ys W') ∨ (∃ pre : List (Ja rs.length),(∃ k,k ≤ rs.length ∧ pre.map (·.1) = Jh rs.length k) ∧ Jx pre W')):=by
  have HC:=As hC
  have HW:=As hW
  have hm:=(D5 hC).2
  clear hC hW
  refine callsIn_of_wp Tryz.func181 rfl h7 ?_ hro
  simp only [Tryz.ntmps181,List.size_toArray,List.length_cons,List.length_nil,Nat.reduceAdd,Nat.reduceSub,Array.replicate_succ,Array.replicate_zero,List.push_toArray,List.append_toArray,List.nil_append,List.cons_append]
  gi_wp2
  gi_loopw [3] (fun i wr => ∃ (k : Nat) (pre : List (Ja rs.length)),k ≤ rs.length ∧ i = .int .i64 (((rs.length - k : Nat) : Int) - 1) ∧ Ac (pre.map (·.1) = Jh rs.length k) ∧ Ac (J pre wr) ∧ Ac (Below n₀ W wr))
    (fun i _ => (intOf i + 1).toNat)
  case atStart => exact ⟨0, [],Nat.zero_le _,by simp,⟨rfl⟩,⟨h0⟩,⟨Below.refl _ _⟩⟩
  case round =>
    obtain ⟨k,pre,hk,rfl,HP,HJ,HX⟩:=hrel
    have hbx : wr.cell? ⟨Bs,0,none⟩ = some (.slice A rs.length cap):=(HX.out.cell (p:=⟨Bs,0,none⟩) hBn).trans hBs
    obtain ⟨m,hm2⟩ : ∃ m,rs.length - k = m:=⟨_,rfl⟩
    rw [hm2]
    rcases m with _ | m
    · have hkk : k = rs.length:=by omega
      gi_wp2
      go_end0
      exact ⟨⟨_,rfl⟩, .inl ⟨pre,by rw [HP.out,hkk],HJ.out⟩⟩
    · obtain ⟨ad,rfl,QR⟩:=Cb HC.out m (by omega)
      have hWr : Below w0.heap.size w0 wr:=HW.out.trans (HX.out.mono hw0)
      obtain ⟨g0,g1,g2,g3,g4,g5,g6,g7⟩:=QR.up hWr
      have hpl : pre.length < rs.length:=by
        have:=congrArg List.length HP.out
        rw [List.length_map,Fx] at this
        omega
      have HM:=As hm2
      have hml : m < rs.length:=by omega
      clear hm2
      obtain ⟨fn,tmps,assign,body,hy,hR⟩:=hY pre ⟨m,hml⟩ wr HJ.out hpl
      have HR:=As hR
      clear hWr hR
      gi_wp2
      refine HR.out.mono ?_
      rintro e W3 (⟨rfl,hJ3,hk3⟩ | ⟨rfl,hJx3⟩)
      · have HJ3:=As hJ3
        have HK3:=As hk3
        clear hJ3 hk3
        gi_wp2
        go_roundw
        case rel => exact ⟨k + 1,pre ++ [⟨m,hml⟩],by have:=HM.out;omega,by have:=HM.out;rw [show rs.length - (k + 1) = m by omega],⟨by rw [List.map_append,HP.out,FT];have:=HM.out;simp;omega⟩,HJ3,⟨HX.out.trans HK3.out⟩⟩
        case measure => simp [intOf]
      · have HJ3:=As hJx3
        clear hJx3
        gi_wp2
        refine bodyPost_ret (results_none rfl _ _ _) rfl ?_
        exact ⟨⟨_,rfl⟩, .inr ⟨pre ++ [⟨m,hml⟩],⟨k + 1,by have:=HM.out;omega,by rw [List.map_append,HP.out,FT];have:=HM.out;simp;omega⟩,HJ3.out⟩⟩
set_option maxHeartbeats 1000000 in
theorem SY (F : Fence) (n : Nat) (h5 : F.fn 165) (hro : F.round = none) (a : Option Addr) (len cap : Nat) (w : World) :
    CallsIn F n Tryz.prog 165 #[.slice a len cap] w fun e w' => e = .returned (.func (.func 181) #[] #[.pointer (some ⟨w.heap.size,0,none⟩)]) ∧ w' = w.alloc (.cells #[.slice a len cap] 26):=by
  refine callsIn_of_wp Tryz.func165 rfl h5 ?_ hro
  simp only [Tryz.ntmps165,List.size_toArray,List.length_cons,List.length_nil,Nat.reduceAdd,Nat.reduceSub,Array.replicate_succ,Array.replicate_zero,List.push_toArray,List.append_toArray,List.nil_append,List.cons_append]
  gi_wp2
  go_ret
  exact ⟨rfl,rfl⟩
theorem NN (F : Fence) (n : Nat) (h7 : F.fn 181) (hro : F.round = none) (hn : 1 ≤ n) (Bs n₀ cap : Nat) (A : Option Addr) (rs : List Rec) (w0 w : World) (hC : Kd.C C8 w0 A rs.length rs) (hw0 : w0.heap.size ≤ n₀) (hBn : Bs < n₀) (hn₀ : n₀ ≤ w.heap.size)
    (hb : Below w0.heap.size w0 w) (hc : w.cell? ⟨Bs,0,none⟩ = some (.slice A rs.length cap)) :
    SeqStopsK F n Tryz.prog 181 #[.pointer (some ⟨Bs,0,none⟩)] (fun x : Ja rs.length => #[Value.int .i64 (x.1 : Nat),(rc rs x.1).val]) (Below n₀) (fun ys => ys.map (·.1) = Jh rs.length rs.length) (fun pre => ∃ k,k ≤ rs.length ∧ pre.map (·.1) = Jh rs.length k) rs.length w:=fun l J Jx W hW _ _ hY h0 => by
  have hc':=(hW.cell (p:=⟨Bs,0,none⟩) (by show Bs < _;omega)).trans hc
  have hW' : Below w0.heap.size w0 W:=hb.trans (hW.mono hb.size)
  refine (V3 F n h7 hro hn l Bs n₀ cap A rs w0 hC J Jx hw0 hBn hY W hc' hW' h0).mono ?_
  rintro e W' ⟨he,⟨ys,h1,h2⟩ | ⟨pre,h1,h2⟩⟩
  · exact ⟨he, .inl ⟨ys,h1,h2⟩⟩
  · exact ⟨he, .inr ⟨pre,h1,h2⟩⟩
theorem KF {l : List Rec} {tx : Int} {n : Nat} : ∀ {k : Nat},k ≤ n → (∀ x ∈ Jh n k,(rc l x).tx ≠ tx) → Ao l tx n = Ao l tx (n - k)
  | 0,_,_ => rfl
  | k + 1,hk,h => by
    rw [FT] at h
    rw [KF (k:=k) (by omega) (fun x hx => h x (List.mem_append_left _ hx))]
    have h1:=h (n - 1 - k) (by simp)
    rw [show n - k = (n - (k + 1)) + 1 by omega]
    rw [Ao,show n - (k + 1) = n - 1 - k by omega,if_neg h1]
end Go.Proofs.YtpjmlpmhgfghbaaGreat
