/- A part of the proof: what the last text of the claim says leans on this one. -/
import Derived.Test.YtklmhkglcfjclaaGreatRows
import Derived.WalkKit
import Derived.ProofKit
import Derived.JoinedOf
import Derived.Test.YtklmhkglcfjclaaGreatProg
import Derived.Below
import Derived.Deep.Draws
import Derived.Deep.AppendLies
import Derived.Maps.AppendAt
import Derived.OwnWalk
import Derived.Laws.BytesArg
import Derived.Laws.MakeOwn
import Derived.Laws.OwnMore
import Derived.Deep.OwnRows
import Derived.Tactics
import Derived.Lib.ConvBytes
import Derived.Lib.Hide
import Derived.Laws.Slices
import Derived.KernelRfl
import Derived.RowKit3
import Derived.Deep.LoopGhost
import Derived.Deep.QuietTactic
import Derived.BigQuiet
import Derived.WideLaws
import Derived.Deep.DeepCutAuto
import Derived.Deep.CutBlock
import Derived.Deep.RegionHeld3
import Derived.Deep.RegionWith
import Derived.Laws.Rows
import Derived.Lib.AppendStr
import Derived.ArgAppend
import Derived.Laws.IdiomCopy
import Derived.OrdersHeld
import Derived.Laws.BitsLemmas
import Derived.RowKit
import Derived.Outline
import Derived.Test.YtklmhkglcfjclaaGreatXWWords
import Derived.Test.YtklmhkglcfjclaaGreatXWLast
import Derived.Test.YtklmhkglcfjclaaGreatXWApart
import Derived.Test.YtklmhkglcfjclaaGreatXWMore
import Derived.IntWalk
import Derived.Test.YtklmhkglcfjclaaGreatXShelf
import Derived.Lib.Bytes
import Derived.Handy
import Derived.RangeFuncNested
import Derived.RangeFuncBound
import Derived.RangeFuncCalls
import Derived.RangeFuncLeaves
import Derived.RangeFuncBox
import Derived.Shelf.Abstract
import Derived.Shelf.RegionOpen
import Derived.OwnWalkIn
import Derived.TacticsInMore
import Derived.LoopNIn
import Derived.LoopIn
set_option linter.unusedVariables false
set_option linter.unusedSimpArgs false
namespace Go.Proofs.YtklmhkglcfjclaaGreat
def Kv : List Char:=([104,97,114,110,101,115,115] : List Nat).map Char.ofNat
def Ku : List Char:=([57,97,55,48,56,101,102,98,102,53,99,48,100,48,56,52,54,55,53,51,55,48,51,57,53,55,50,101,99,53,55,49,99,57,97,54,99,49,100,49,56,99,55,101,101,55,50,49,56,50,102,102,57,51,101,57,57,53,99,52,57,55,56,97] : List Nat).map Char.ofNat
def Ew : List Char:=([99,117,116] : List Nat).map Char.ofNat
def FT : List Char:=([97,116] : List Nat).map Char.ofNat
def Rv : List Char:=([108,111,111,112,46,101,120,97,109,112,108,101,47,116,97,98,117,108,97,114,105,117,109,47,108,97,119,115,46,70,110,69,120,97,99,116,82,105,115,101,85,112,32,108,111,111,112,46,101,120,97,109,112,108,101,47,116,97,98,117,108,97,114,105,117,109,47,108,97,119,115,46,70,110,80,108,97,121,68,111,119,110,32,108,111,111,112,46,101,120,97,109,112,108,101,47,116,97,98,117,108,97,114,105,117,109,47,108,97,119,115,46,70,110,80,108,97,121,79,119,110,32,108,111,111,112,46,101,120,97,109,112,108,101,47,116,97,98,117,108,97,114,105,117,109,47,108,97,119,115,46,70,110,80,108,97,121,81,117,105,101,116,32,108,111,111,112,46,101,120,97,109,112,108,101,47,116,97,98,117,108,97,114,105,117,109,47,108,97,119,115,46,70,110,80,108,97,121,83,97,102,101,32,108,111,111,112,46,101,120,97,109,112,108,101,47,116,97,98,117,108,97,114,105,117,109,47,108,97,119,115,46,70,110,80,108,97,121,76,111,103,32,108,111,111,112,46,101,120,97,109,112,108,101,47,116,97,98,117,108,97,114,105,117,109,47,108,97,119,115,46,70,110,80,108,97,121,76,111,99,107,32,108,111,111,112,46,101,120,97,109,112,108,101,47,116,97,98,117,108,97,114,105,117,109,47,108,97,119,115,46,70,110,80,108,97,121,82,105,115,101,32,108,111,111,112,46,101,120,97,109,112,108,101,47,116,97,98,117,108,97,114,105,117,109,47,108,97,119,115,46,70,110,80,108,97,121,87,114,105,116,101] : List Nat).map Char.ofNat
def gap : Char:=Char.ofNat 32
def MQ : List Char:=Kv ++ gap :: (Ku ++ gap :: (Ew ++ gap :: (FT ++ gap :: Rv)))
theorem Wv : Tryz.prog.initOrder = String.ofList MQ:=by kernel_rfl
theorem V7 : Tryz.prog.initOrder.toList = MQ:=by rw [Wv,String.toList_ofList]
theorem GY : ∀ (w r : List Char),(w.all fun c => c != gap) = true → wordsSigns (w ++ gap :: r) = w :: wordsSigns r
 | [],r,_ => rfl
 | c :: w,r,h => by
  simp only [List.all_cons,Bool.and_eq_true,bne_iff_ne,ne_eq] at h
  have hne : c ≠ gap:=h.1
  have ih:=GY w r (by simpa using h.2)
  show wordsSigns (c :: (w ++ gap :: r)) = _
  rw [wordsSigns.eq_3 _ _ (by intro e;exact hne e),ih]
theorem O1 : wordsSigns Tryz.prog.initOrder.toList = Kv :: Ku :: Ew :: FT :: wordsSigns Rv:=by
 rw [V7,MQ,GY _ _ (by kernel_rfl),GY _ _ (by kernel_rfl),GY _ _ (by kernel_rfl),GY _ _ (by kernel_rfl)]
theorem J4 (ws : List (List Char)) : behindMainWord (Kv :: Ku :: Ew :: FT :: ws) = Ew :: FT :: ws:=by kernel_rfl
theorem O0 (ws : List (List Char)) : stripLifts liftWords (Ew :: FT :: ws) = ([],Ew :: FT :: ws):=by kernel_rfl
theorem O5 : Ew = "cut".toList:=by kernel_rfl
theorem Q7 {P : Program} {r : List (List Char)} (h : wordsSigns P.initOrder.toList = Kv :: Ku :: Ew :: FT :: r) (h1 : P.laysLater = false) (h2 : P.bearsReflect = false) (h3 : P.doorFits [] = true) : P.mayEnter = true:=by
 unfold Program.mayEnter
 rw [h,J4]
 simp only [O0,h1,h2,h3]
 simp [O5]
theorem Vn {P : Program} {r : List (List Char)} (h : wordsSigns P.initOrder.toList = Kv :: Ku :: Ew :: FT :: r) : P.liftsFinal = false:=by
 unfold Program.liftsFinal Program.headLifts
 rw [h,J4]
 simp only [O0]
 simp [O5]
theorem Wq {P : Program} {r : List (List Char)} (h : wordsSigns P.initOrder.toList = Kv :: Ku :: Ew :: FT :: r) : P.make = some Make.cut:=by
 unfold Program.make
 rw [h,J4]
 simp [O5]
theorem SE : Tryz.prog.laysLater = false:=by kernel_rfl
theorem P8 : Tryz.prog.bearsReflect = false:=by kernel_rfl
theorem UI : Tryz.prog.doorFits [] = true:=by kernel_rfl
theorem FD : Tryz.prog.mayEnter = true:=Q7 O1 SE P8 UI
theorem Ea : Tryz.prog.liftsFinal = false:=Vn O1
theorem Gs : Tryz.prog.make = some Make.cut:=Wq O1
open Go.RowKit Go.Proofs.YtklmhkglcfjclaaGreatW.PrintWords Go.Proofs.YtklmhkglcfjclaaGreatW.PrintLast Go.Proofs.YtklmhkglcfjclaaGreatW.PrintMore
theorem sc0 {α : Type _} {a b : α} {l : List α} : (a :: l).set 0 b = b :: l:=rfl
theorem sc1 {α : Type _} {a b : α} {l : List α} {n : Nat} : (a :: l).set (n + 1) b = a :: l.set n b:=rfl
theorem As {p : Prop} (h : p) : Ac p:=⟨h⟩
structure Page where
 lsn : Int
 owner : Int
 vals : List Int
structure Rec where
 kind : Int
 tx : Int
 page : Int
 slot : Int
 old : Int
 new : Int
 prev : Int
 next : Int
structure Eng where
 disk : List Page
 mem : List Page
 log : List Rec
 safe : Int
 down : Bool
structure Evt where
 kind : Int
 tx : Int
 page : Int
 slot : Int
 n : Int
 vals : List Int
def z0 : Page:=⟨0,0, []⟩
def r0 : Rec:=⟨0,0,0,0,0,0,0,0⟩
def v0 : Evt:=⟨0,0,0,0,0, []⟩
def Dc : Kd Page:=Kd.iso (Kd.pair (Kd.int .i64) (Kd.pair (Kd.int .i64) (Kd.slice 3 (Kd.int .i64)))) (fun x => (x.lsn,x.owner,x.vals))
def Ca : Kd Rec:=Kd.iso (Kd.pair (Kd.int .i64) (Kd.pair (Kd.int .i64) (Kd.pair (Kd.int .i64) (Kd.pair (Kd.int .i64) (Kd.pair (Kd.int .i64) (Kd.pair (Kd.int .i64) (Kd.pair (Kd.int .i64) (Kd.int .i64)))))))) (fun x => (x.kind,x.tx,x.page,x.slot,x.old,x.new,x.prev,x.next))
def kEvt : Kd Evt:=Kd.iso (Kd.pair (Kd.int .i64) (Kd.pair (Kd.int .i64) (Kd.pair (Kd.int .i64) (Kd.pair (Kd.int .i64) (Kd.pair (Kd.int .i64) (Kd.slice 3 (Kd.int .i64))))))) (fun x => (x.kind,x.tx,x.page,x.slot,x.n,x.vals))
abbrev Rec.cells (r : Rec) : List Value := [.int .i64 r.kind, .int .i64 r.tx, .int .i64 r.page, .int .i64 r.slot, .int .i64 r.old, .int .i64 r.new, .int .i64 r.prev, .int .i64 r.next]
theorem PD {w : World} {x : Rec} {cs : List Value} (h : Ca.K w x cs) : cs = x.cells:=by
 obtain ⟨_,_,rfl,rfl,⟨_,_,rfl,rfl,⟨_,_,rfl,rfl,⟨_,_,rfl,rfl,⟨_,_,rfl,rfl,⟨_,_,rfl,rfl,⟨_,_,rfl,rfl,rfl⟩⟩⟩⟩⟩⟩⟩:=h
 exact rfl
theorem SH {w : World} {x : Page} {cs : List Value} (h : Dc.K w x cs) : ∃ A c,cs = [.int .i64 x.lsn, .int .i64 x.owner, .slice A x.vals.length c] ∧ x.vals.length ≤ c ∧ (Kd.int .i64).C w A x.vals.length x.vals:=by
 obtain ⟨_,_,rfl,rfl,⟨_,_,rfl,rfl,⟨A2,c2,rfl,l2,g2⟩⟩⟩:=h
 exact ⟨A2,c2,rfl,l2,g2⟩
theorem Ns {w : World} {base : Nat} {ok : Nat → Prop} {x : Page} {cs : List Value} (h : Dc.M w base ok x cs) : ∃ v,cs = [.int .i64 x.lsn, .int .i64 x.owner,v] ∧ (Kd.int .i64).R 3 w base ok v x.vals:=by
 obtain ⟨_,_,rfl,rfl,⟨_,_,rfl,rfl,⟨v2,rfl,g2⟩⟩⟩:=h
 exact ⟨v2,rfl,g2⟩
theorem IW (w : World) (base : Nat) (ok : Nat → Prop) (x : Page) {v : Value} (g2 : (Kd.int .i64).R 3 w base ok v x.vals) : Dc.M w base ok x [.int .i64 x.lsn, .int .i64 x.owner,v]:=⟨[.int .i64 x.lsn], [.int .i64 x.owner,v],rfl,rfl,⟨[.int .i64 x.owner], [v],rfl,rfl,⟨v,rfl,g2⟩⟩⟩
theorem UF {w : World} {x : Evt} {cs : List Value} (h : kEvt.K w x cs) : ∃ A c,cs = [.int .i64 x.kind, .int .i64 x.tx, .int .i64 x.page, .int .i64 x.slot, .int .i64 x.n, .slice A x.vals.length c] ∧ x.vals.length ≤ c ∧ (Kd.int .i64).C w A x.vals.length x.vals:=by
 obtain ⟨_,_,rfl,rfl,⟨_,_,rfl,rfl,⟨_,_,rfl,rfl,⟨_,_,rfl,rfl,⟨_,_,rfl,rfl,⟨A2,c2,rfl,l2,g2⟩⟩⟩⟩⟩⟩:=h
 exact ⟨A2,c2,rfl,l2,g2⟩
def rc (l : List Rec) (k : Nat) : Rec:=l.getD k r0
def pg (l : List Page) (k : Nat) : Page:=l.getD k z0
def iv (l : List Int) (k : Nat) : Int:=l.getD k 0
def ev (l : List Evt) (k : Nat) : Evt:=l.getD k v0
structure Gu (w : World) (a : Addr) (r : Rec) : Prop where
 c0 : w.cell? a = some (.int .i64 r.kind)
 c1 : w.cell? ⟨a.block,a.off + 1,none⟩ = some (.int .i64 r.tx)
 c2 : w.cell? ⟨a.block,a.off + 2,none⟩ = some (.int .i64 r.page)
 c3 : w.cell? ⟨a.block,a.off + 3,none⟩ = some (.int .i64 r.slot)
 c4 : w.cell? ⟨a.block,a.off + 4,none⟩ = some (.int .i64 r.old)
 c5 : w.cell? ⟨a.block,a.off + 5,none⟩ = some (.int .i64 r.new)
 c6 : w.cell? ⟨a.block,a.off + 6,none⟩ = some (.int .i64 r.prev)
 c7 : w.cell? ⟨a.block,a.off + 7,none⟩ = some (.int .i64 r.next)
structure Lu (w : World) (a : Addr) (p : Page) (A : Option Addr) (c : Nat) : Prop where
 c0 : w.cell? a = some (.int .i64 p.lsn)
 c1 : w.cell? ⟨a.block,a.off + 1,none⟩ = some (.int .i64 p.owner)
 c2 : w.cell? ⟨a.block,a.off + 2,none⟩ = some (.slice A p.vals.length c)
theorem bc {w0 w : World} (h : Below w0.heap.size w0 w) {a : Addr} {v : Value} (hc : w0.cell? a = some v) : w.cell? a = some v:=CU h hc
theorem Gu.up {w0 w : World} {a : Addr} {r : Rec} (h : Gu w0 a r) (hb : Below w0.heap.size w0 w) : Gu w a r:=
 ⟨bc hb h.c0,bc hb h.c1,bc hb h.c2,bc hb h.c3,bc hb h.c4,bc hb h.c5,bc hb h.c6,bc hb h.c7⟩
theorem Lu.up {w0 w : World} {a : Addr} {p : Page} {A : Option Addr} {c : Nat} (h : Lu w0 a p A c) (hb : Below w0.heap.size w0 w) : Lu w a p A c:=
 ⟨bc hb h.c0,bc hb h.c1,bc hb h.c2⟩
theorem Ci {w : World} {A : Option Addr} {n : Nat} {xs : List Rec} (h : Kd.C Ca w A n xs) (i : Nat) (h1 : i < n) : ∃ ad,A = some ad ∧ Gu w (ad.add (i * 8)) (rc xs i):=by
 obtain ⟨ad,c,e,_,hK,hc0⟩:=Kd.RU h r0 (i : Int) (by omega) (by omega)
 have hc : ∀ j u,c[j]? = some u → w.cell? (ad.add (i * 8 + j)) = some u:=hc0
 obtain rfl:=PD hK
 exact ⟨ad,e,hc 0 _ rfl,by rw [← Di _ _ 1 (by omega)];exact hc 1 _ rfl,by rw [← Di _ _ 2 (by omega)];exact hc 2 _ rfl,by rw [← Di _ _ 3 (by omega)];exact hc 3 _ rfl,by rw [← Di _ _ 4 (by omega)];exact hc 4 _ rfl,by rw [← Di _ _ 5 (by omega)];exact hc 5 _ rfl,by rw [← Di _ _ 6 (by omega)];exact hc 6 _ rfl,by rw [← Di _ _ 7 (by omega)];exact hc 7 _ rfl⟩
theorem Ei {w : World} {A : Option Addr} {n : Nat} {xs : List Page} (h : Kd.C Dc w A n xs) (i : Nat) (h1 : i < n) : ∃ ad A2 c2,A = some ad ∧ Lu w (ad.add (i * 3)) (pg xs i) A2 c2 ∧ (pg xs i).vals.length ≤ c2 ∧ (Kd.int .i64).C w A2 (pg xs i).vals.length (pg xs i).vals:=by
 obtain ⟨ad,c,e,_,hK,hc0⟩:=Kd.RU h z0 (i : Int) (by omega) (by omega)
 have hc : ∀ j u,c[j]? = some u → w.cell? (ad.add (i * 3 + j)) = some u:=hc0
 obtain ⟨A2,c2,rfl,l2,g2⟩:=SH hK
 exact ⟨ad,A2,c2,e,⟨hc 0 _ rfl,by rw [← Di _ _ 1 (by omega)];exact hc 1 _ rfl,by rw [← Di _ _ 2 (by omega)];exact hc 2 _ rfl⟩,l2,g2⟩
theorem DC {w : World} {A : Option Addr} {n : Nat} {xs : List Int} (h : Kd.C (Kd.int .i64) w A n xs) (i : Nat) (h1 : i < n) : ∃ ad,A = some ad ∧ w.cell? (ad.add i) = some (.int .i64 (iv xs i)):=by
 obtain ⟨ad,c,e,_,hK,hc0⟩:=Kd.RU h 0 (i : Int) (by omega) (by omega)
 have hc : ∀ j u,c[j]? = some u → w.cell? (ad.add (i * 1 + j)) = some u:=hc0
 obtain rfl : c = [.int .i64 (iv xs i)]:=hK
 have:=hc 0 _ rfl
 rw [Nat.mul_one,Nat.add_zero] at this
 exact ⟨ad,e,this⟩
abbrev Rec.val (r : Rec) : Value:=.agg #[.int .i64 r.kind, .int .i64 r.tx, .int .i64 r.page, .int .i64 r.slot, .int .i64 r.old, .int .i64 r.new, .int .i64 r.prev, .int .i64 r.next]
theorem Co {α : Type} {d : Kd α} {w : World} {A : Option Addr} {n : Nat} {xs : List α} (h : Kd.C d w A n xs) : xs.length = n ∧ n ≤ 9223372036854775807:=⟨h.1,h.2.1⟩
theorem AL {a b : Bool} (h : a = b) : Ending.returned (.bool a) = .returned (.bool b):=by rw [h]
theorem EC {k : IntKind} {a b : Int} (h : a = b) : Ending.returned (.int k a) = .returned (.int k b):=by rw [h]
theorem bj {w0 w w' : World} (h : Below w0.heap.size w0 w) (k : Below w.heap.size w w') : Below w0.heap.size w0 w':=SV h h.size k
theorem BF {α : Type} {d : Kd α} {w0 w : World} {A : Option Addr} {n : Nat} {xs : List α} (h : Kd.C d w0 A n xs) (hb : Below w0.heap.size w0 w) : Kd.C d w A n xs:=Kd.Ub h hb
theorem BV (a b : Int) : (Ac (a = b) ∧ (a == b) = true ∧ (a != b) = false) ∨ (Ac (a ≠ b) ∧ (a == b) = false ∧ (a != b) = true):=by
 by_cases h : a = b
 ·exact .inl ⟨⟨h⟩,by simp [h],by simp [h]⟩
 ·exact .inr ⟨⟨h⟩,by simp [h],by simp [h]⟩
theorem lts (a b : Int) : (Ac (a < b) ∧ decide (a < b) = true ∧ decide (b ≤ a) = false) ∨ (Ac (b ≤ a) ∧ decide (a < b) = false ∧ decide (b ≤ a) = true):=by
 by_cases h : a < b
 ·exact .inl ⟨⟨h⟩,by simp [h],by simp;omega⟩
 ·exact .inr ⟨⟨by omega⟩,by simp;omega,by simp;omega⟩
def inB (a b c : Int) : Bool:=decide (b ≤ a) && decide (a ≤ c)
theorem Dh {a b c : Int} : inB a b c = true ↔ b ≤ a ∧ a ≤ c:=by simp [inB]
theorem Cn (a b c : Int) (w : World) : Calls Tryz.prog 62 #[.int .i64 a, .int .i64 b, .int .i64 c] w fun e w' => e = .returned (.bool (inB a b c)) ∧ w = w':=by
 go_enter Tryz.func62,Tryz.ntmps62
 go_wp2 <;> (go_ret;exact ⟨by simp [inB];try omega,rfl⟩)
theorem EF (a b c : Int) (w : World) : Calls Tryz.prog 62 #[.int .i64 a, .int .i64 b, .int .i64 c] w fun e w' => e = .returned (.bool (inB a b c)) ∧ w' = w:=(Cn a b c w).mono fun _ _ h => ⟨h.1,h.2.symm⟩
theorem Cc (a b c : Int) (w : World) : Calls Tryz.prog 80 #[.int .i64 a, .int .i64 b, .int .i64 c] w fun e w' => e = .returned (.bool (inB a b c)) ∧ w = w':=by
 go_enter Tryz.func80,Tryz.ntmps80
 go_wp2 <;> (go_ret;exact ⟨by simp [inB];try omega,rfl⟩)
theorem BB (a : Int) (w : World) : Calls Tryz.prog 75 #[.int .i64 a] w fun e w' => e = .returned (.bool (inB a 0 4)) ∧ w = w':=by
 go_enter Tryz.func75,Tryz.ntmps75
 go_wp2_with (go_at_call 62;refine (Cn _ _ _ _).mono ?_;rintro e w' ⟨rfl,rfl⟩)
 go_ret
 exact ⟨rfl,rfl⟩
theorem Ck (a : Int) (w : World) : Calls Tryz.prog 137 #[.int .i64 a] w fun e w' => e = .returned (.bool (inB a 1 3)) ∧ w = w':=by
 go_enter Tryz.func137,Tryz.ntmps137
 go_wp2_with (go_at_call 62;refine (Cn _ _ _ _).mono ?_;rintro e w' ⟨rfl,rfl⟩)
 go_ret
 exact ⟨rfl,rfl⟩
def CP (k : Int) : Bool:=k == 1 || k == 2 || k == 6
def EY (k : Int) : Bool:=k == 4 || k == 5
theorem P7 (r : Rec) (w : World) : Calls Tryz.prog 94 #[r.val] w fun e w' => e = .returned (.bool (CP r.kind)) ∧ Below w.heap.size w w':=by
 go_enter Tryz.func94,Tryz.ntmps94
 go_wp2 <;> (go_ret;exact ⟨by simp [CP, *],(Below.refl _ _).alloc (Nat.le_refl _) _⟩)
theorem SS (r : Rec) (w : World) : Calls Tryz.prog 72 #[r.val] w fun e w' => e = .returned (.bool (EY r.kind)) ∧ Below w.heap.size w w':=by
 go_enter Tryz.func72,Tryz.ntmps72
 go_wp2 <;> (go_ret;exact ⟨by simp [EY, *],(Below.refl _ _).alloc (Nat.le_refl _) _⟩)
theorem NG (k : Int) (w : World) : Calls Tryz.prog 143 #[.int .i64 k] w fun e w' => e = .returned (.bool (CP k)) ∧ w = w':=by
 go_enter Tryz.func143,Tryz.ntmps143
 go_wp2 <;> (go_ret;exact ⟨by simp [CP, *],rfl⟩)
theorem FP {k : Int} {b : Bool} (h : CP k = b) (w : World) : Calls Tryz.prog 143 #[.int .i64 k] w fun e w' => e = .returned (.bool b) ∧ w = w':=(NG k w).mono fun _ _ x => ⟨h ▸ x.1,x.2⟩
theorem Fv {r : Rec} {b : Bool} (h : CP r.kind = b) (w : World) : Calls Tryz.prog 94 #[r.val] w fun e w' => e = .returned (.bool b) ∧ Below w.heap.size w w':=(P7 r w).mono fun _ _ x => ⟨h ▸ x.1,x.2⟩
theorem M9 {r : Rec} {b : Bool} (h : EY r.kind = b) (w : World) : Calls Tryz.prog 72 #[r.val] w fun e w' => e = .returned (.bool b) ∧ Below w.heap.size w w':=(SS r w).mono fun _ _ x => ⟨h ▸ x.1,x.2⟩
theorem TN {a b c : Int} {t : Bool} (h : inB a b c = t) (w : World) : Calls Tryz.prog 62 #[.int .i64 a, .int .i64 b, .int .i64 c] w fun e w' => e = .returned (.bool t) ∧ w' = w:=(Cn a b c w).mono fun _ _ x => ⟨h ▸ x.1,x.2.symm⟩
def D6 (r : Rec) : Bool:=
  (if r.kind = 1 then inB r.page 0 4 && inB r.slot 0 2 && inB r.old 0 (if r.slot = -1 then 3 else 9) && inB r.new 0 (if r.slot = -1 then 3 else 9) && r.next == 0
   else if r.kind = 2 then inB r.page 0 4 && r.slot == -1 && inB r.old 0 (if r.slot = -1 then 3 else 9) && inB r.new 0 (if r.slot = -1 then 3 else 9) && r.next == 0
   else if r.kind = 3 then inB r.page 0 4 && r.slot == 0 && r.old == 0 && r.new == 0 && r.next == 0
   else if r.kind = 4 then r.page == 0 && r.slot == 0 && r.old == 0 && r.new == 0 && r.next == 0
   else if r.kind = 5 then r.page == 0 && r.slot == 0 && r.old == 0 && r.new == 0 && r.next == 0
   else if r.kind = 6 then inB r.page 0 4 && inB r.slot (-1) 2 && r.old == 0 && inB r.new 0 (if r.slot = -1 then 3 else 9) && inB r.next 0 150
   else false) && inB r.tx 1 3 && inB r.prev 0 150
theorem Dg {r : Rec} : D6 r = true ↔ ((r.kind = 1 ∧ 0 ≤ r.page ∧ r.page ≤ 4 ∧ 0 ≤ r.slot ∧ r.slot ≤ 2 ∧ 0 ≤ r.old ∧ r.old ≤ 9 ∧ 0 ≤ r.new ∧ r.new ≤ 9 ∧ r.next = 0) ∨
  (r.kind = 2 ∧ 0 ≤ r.page ∧ r.page ≤ 4 ∧ r.slot = -1 ∧ 0 ≤ r.old ∧ r.old ≤ 3 ∧ 0 ≤ r.new ∧ r.new ≤ 3 ∧ r.next = 0) ∨
  (r.kind = 3 ∧ 0 ≤ r.page ∧ r.page ≤ 4 ∧ r.slot = 0 ∧ r.old = 0 ∧ r.new = 0 ∧ r.next = 0) ∨
  ((r.kind = 4 ∨ r.kind = 5) ∧ r.page = 0 ∧ r.slot = 0 ∧ r.old = 0 ∧ r.new = 0 ∧ r.next = 0) ∨
  (r.kind = 6 ∧ 0 ≤ r.page ∧ r.page ≤ 4 ∧ -1 ≤ r.slot ∧ r.slot ≤ 2 ∧ r.old = 0 ∧ 0 ≤ r.new ∧ (r.slot = -1 → r.new ≤ 3) ∧ r.new ≤ 9 ∧ 0 ≤ r.next ∧ r.next ≤ 150)) ∧ 1 ≤ r.tx ∧ r.tx ≤ 3 ∧ 0 ≤ r.prev ∧ r.prev ≤ 150:=by
 unfold D6
 by_cases hs : r.slot = -1
 ·rw [if_pos hs]
  by_cases k1 : r.kind = 1
  ·simp [inB,k1];omega
  by_cases k2 : r.kind = 2
  ·simp [inB,k2];omega
  by_cases k3 : r.kind = 3
  ·simp [inB,k3];omega
  by_cases k4 : r.kind = 4
  ·simp [inB,k4];omega
  by_cases k5 : r.kind = 5
  ·simp [inB,k5];omega
  by_cases k6 : r.kind = 6
  ·simp [inB,k6];omega
  simp [k1,k2,k3,k4,k5,k6]
 ·rw [if_neg hs]
  by_cases k1 : r.kind = 1
  ·simp [inB,k1];omega
  by_cases k2 : r.kind = 2
  ·simp [inB,k2];omega
  by_cases k3 : r.kind = 3
  ·simp [inB,k3];omega
  by_cases k4 : r.kind = 4
  ·simp [inB,k4];omega
  by_cases k5 : r.kind = 5
  ·simp [inB,k5];omega
  by_cases k6 : r.kind = 6
  ·simp [inB,k6];omega
  simp [k1,k2,k3,k4,k5,k6]
def BD (r : Rec) (prev : Int) : Rec:=⟨6,r.tx,r.page,r.slot,0,r.old,prev,r.prev⟩
theorem OA (r : Rec) (n : Int) (w : World) : Calls Tryz.prog 99 #[r.val, .int .i64 n] w fun e w' => e = .returned (BD r n).val ∧ Below w.heap.size w w':=by
 go_enter Tryz.func99,Tryz.ntmps99
 go_wp2
 exact bodyPost_ret (v:=(BD r n).val) (by simp [results,Tryz.results99,go_sem,BD]) rfl ⟨rfl,(((Below.refl _ _).alloc (Nat.le_refl _) _).alloc (by simp) _)⟩
open Go.RowKit Go.Proofs.YtklmhkglcfjclaaGreatW.PrintWords Go.Proofs.YtklmhkglcfjclaaGreatW.PrintLast
section
variable {P : Program} {ops : Array Oper} {Q : Exit → Act → World → Prop} {md : Region.Mode} {S : World → Prop}
theorem RX {c : Code} {a : Act} {w : World} {r : Rec} {T : TypeId} (h : ∀ w1,Below w.heap.size w w1 → Gu w1 ⟨w.heap.size,0,none⟩ r → c.wp P Q a w1) : c.wp P Q a (w.alloc (.cells #[.int .i64 r.kind, .int .i64 r.tx, .int .i64 r.page, .int .i64 r.slot, .int .i64 r.old, .int .i64 r.new, .int .i64 r.prev, .int .i64 r.next] T (0,0))):=
 h _ ((Below.refl _ _).alloc (Nat.le_refl _) _) ⟨by go_simp,by go_simp,by go_simp,by go_simp,by go_simp,by go_simp,by go_simp,by go_simp⟩
def Eff (P : Program) (S : World → Prop) (v : Value) : Result Next → Prop
 | .ok (.value u) w' => u = v ∧ S w'
 | .ok .skip w' => v = undef ∧ S w'
 | .ok (.enter f args) w' => Calls P f args w' fun e w'' => e = .returned v ∧ S w''
 | _ => False
def I7 (P : Program) (ops : Array Oper) (S : World → Prop) (o : Oper) (v : Value) (a : Act) : Prop:=
 (Region.wanted o (yielded ops a.tmps) = true ∧ ∀ w,S w → Eff P S v ((execOp a.eval o).run P w)) ∨
 (Region.wanted o (yielded ops a.tmps) = false ∧ v = undef)
theorem I7.wpOp {i : Nat} {o : Oper} {v : Value} {a : Act} (hi : ops[i]? = some o) (hy : I7 P ops S o v a)
  {K : Act → World → Prop} {w : World} (hS : S w) (h : ∀ w',S w' → K (a.put o.dst v) w') : wpOp P ops Q i K a w:=by
 unfold Go.wpOp
 simp only [hi]
 rcases hy with ⟨hw,hv⟩ | ⟨hw,rfl⟩
 ·simp only [hw,if_true]
  refine .inl ?_
  have h1:=hv w hS
  unfold Oper.wp
  generalize (execOp a.eval o).run P w = r at h1 ⊢
  cases r with
  | ok n w' =>
   cases n <;> simp only [Eff] at h1 <;> try exact h1.elim
   case value u => obtain ⟨rfl,h2⟩:=h1;exact h _ h2
   case skip => obtain ⟨rfl,h2⟩:=h1;exact h _ h2
   case enter f args => exact Calls.mono h1 fun e w'' he => by obtain ⟨rfl,h2⟩:=he;exact h _ h2
  | halt x w' => simp only [Eff] at h1
 ·simp only [hw,Bool.false_eq_true,if_false];exact h _ hS
theorem I7.of_same {o : Oper} {v : Value} {a a' : Act} (hy : I7 P ops S o v a) (he : execOp a'.eval o = execOp a.eval o)
  (hw : Region.wanted o (yielded ops a'.tmps) = Region.wanted o (yielded ops a.tmps)) : I7 P ops S o v a':=by
 unfold I7 at *
 rw [he,hw]
 exact hy
theorem Uc {j : Nat} {oi oj : Oper} {v : Value} (hj : ops[j]? = some oj) (hap : oi.apart ops oj = true)
  (hsi : ∀ cs b,oi.op ≠ .select cs b) (hsj : ∀ cs b,oj.op ≠ .select cs b)
  (hQ : ∀ c a w,Q (.panic c) (a.put oi.dst v) w → Q (.panic c) a w) {K : Act → World → Prop} {a : Act} {w : World}
  (hy : I7 P ops S oi v a) (h : wpOp P ops Q j K (a.put oi.dst v) w) :
  wpOp P ops Q j (fun a' w' => I7 P ops S oi v a' ∧ K (a'.put oi.dst v) w') a w:=by
 obtain ⟨h1,h2,h3⟩:=Oper.apart_spec hap
 have keep : ∀ (a : Act),I7 P ops S oi v a → ∀ u,I7 P ops S oi v (a.put oj.dst u):=fun a hy u =>
  hy.of_same (execOp_put oi hsi a oj.dst u h3) (wanted_put oi a oj.dst u h3)
 have keepD : ∀ d,I7 P ops S oi v { a with defers:=d :: a.defers }:=fun d => hy.of_same rfl rfl
 unfold wpOp at *
 simp only [hj] at *
 rw [wanted_put oj a oi.dst v h1] at h
 split
 ·rename_i hw
  simp only [hw,if_true] at h
  rcases h with h | ⟨hasks,hlets⟩
  case inr => exact .inr ⟨by unfold Oper.asks at *;rw [execOp_put oj hsj a oi.dst v h1] at hasks;exact hasks,hlets⟩
  refine .inl ?_
  unfold Oper.wp at *
  rw [execOp_put oj hsj a oi.dst v h1] at h
  generalize (execOp a.eval oj).run P w = r at *
  cases r with
  | ok n w' =>
   cases n <;> simp only [Oper.upon] at h ⊢
   case value u => exact ⟨keep a hy u,by rw [← Act.put_comm a v u h2];exact h⟩
   case skip => exact ⟨keep a hy _,by rw [← Act.put_comm a v undef h2];exact h⟩
   case defer d =>
    refine ⟨keep _ (keepD d) _,?_⟩
    rw [← Act.put_comm _ v undef h2, ← Act.put_defers]
    exact h
   case enter f args =>
    refine Calls.mono h fun e w'' he => ?_
    cases e with
    | returned u => exact ⟨keep a hy u,by rw [← Act.put_comm a v u h2];exact he⟩
    | panicked c => exact hQ _ _ _ he
    | outgrown => exact he
   case row row args => exact Rows.mono h fun u w'' he => ⟨keep a hy u,by rw [← Act.put_comm a v u h2];exact he⟩
  | halt x w' =>
   cases x <;> simp only [Oper.upon] at h ⊢
   case panic u => exact hQ _ _ _ h
 ·rename_i hw
  simp only [hw] at h
  exact ⟨keep a hy _,by rw [← Act.put_comm a v undef h2];exact h⟩
def wpAnyS (P : Program) (md : Region.Mode) (ops : Array Oper) (Q : Exit → Act → World → Prop) (S : World → Prop) : Nat → Array Bool → Act → Prop
 | 0,listed,a => Region.ready md ops listed = [] ∧ ∀ w,S w → Q .normal a w
 | fuel + 1,listed,a =>
  (Region.ready md ops listed = [] → ∀ w,S w → Q .normal a w) ∧
  ∀ i ∈ Region.ready md ops listed, ∀ w,S w → wpOp P ops Q i (fun a' w' => S w' ∧ wpAnyS P md ops Q S fuel (listed.setIfInBounds i true) a') a w
theorem NZ : ∀ (fuel : Nat) (listed : Array Bool) (a : Act) (w : World),S w → wpAnyS P md ops Q S fuel listed a → wpAny P md ops Q fuel listed a w
 | 0,_,_,w,hS,h => ⟨h.1,h.2 w hS⟩
 | fuel + 1,_,_,w,hS,h => ⟨fun hr => h.1 hr w hS,fun i hi => wpOp_mono (fun a' w' h' => NZ fuel _ a' w' h'.1 h'.2) (h.2 i hi w hS)⟩
theorem wpAnyS_first {i : Nat} {oi : Oper} {v : Value} (hi : ops[i]? = some oi) (hsel : ∀ (j : Nat) (o : Oper) cs b,ops[j]? = some o → o.op ≠ .select cs b)
  (hQ : ∀ c a w,Q (.panic c) (a.put oi.dst v) w → Q (.panic c) a w) :
  ∀ (fuel : Nat) (listed : Array Bool) (a : Act),
   (∀ j oj,ops[j]? = some oj → j ≠ i → listed.getD j true = false → (∀ e ∈ oj.after,Region.binds md e = true → e.on ≠ i) → oi.apart ops oj = true) →
   i ∈ Region.ready md ops listed → I7 P ops S oi v a →
   wpAnyS P md ops Q S fuel (listed.setIfInBounds i true) (a.put oi.dst v) → wpAnyS P md ops Q S (fuel + 1) listed a:=by
 intro fuel
 induction fuel with
 | zero =>
  intro listed a _ hr hy H
  refine ⟨fun h => (by rw [h] at hr;cases hr),fun j hj w hS => ?_⟩
  by_cases hji : j = i
  ·subst hji;exact hy.wpOp hi hS (fun w' h' => ⟨h',H⟩)
  ·have:=ready_mono hj hji
   rw [H.1] at this
   cases this
 | succ fuel ih =>
  intro listed a hfree hr hy H
  refine ⟨fun h => (by rw [h] at hr;cases hr),fun j hj w hS => ?_⟩
  by_cases hji : j = i
  ·subst hji;exact hy.wpOp hi hS (fun w' h' => ⟨h',H⟩)
  ·have h1:=H.2 j (ready_mono hj hji) w hS
   obtain ⟨hjun,oj,hoj,hall⟩:=mem_ready.1 hj
   have hnot : ∀ e ∈ oj.after,Region.binds md e = true → e.on ≠ i:=fun e he hb heq => by
    have h1:=hall e he hb
    have h0:=(mem_ready.1 hr).1
    rw [heq] at h1
    rcases Nat.lt_or_ge i listed.size with h' | h'
    ·simp [h'] at h0 h1;rw [h0] at h1;cases h1
    ·simp [Array.getElem?_eq_none h'] at h1
   have h2:=Uc hoj (hfree j oj hoj hji hjun hnot) (fun cs b => hsel i oi cs b hi) (fun cs b => hsel j oj cs b hoj) hQ hy h1
   have hfree' : ∀ k ok,ops[k]? = some ok → k ≠ i → (listed.setIfInBounds j true).getD k true = false →
     (∀ e ∈ ok.after,Region.binds md e = true → e.on ≠ i) → oi.apart ops ok = true:=fun k ok hk hki hun hno => by
    refine hfree k ok hk hki ?_ hno
    by_cases hjk : j = k
    ·subst hjk;exact hjun
    ·rw [getD_set_ne true hjk] at hun;exact hun
   refine wpOp_mono (fun a' w' h3 => ⟨h3.2.1,ih (listed.setIfInBounds j true) a' hfree' (ready_mono hr (Ne.symm hji)) h3.1 ?_⟩) h2
   rw [Array.setIfInBounds_comm _ _ hji]
   exact h3.2.2
def upTo (n k : Nat) : Array Bool:=((List.range n).map fun j => decide (j < k)).toArray
theorem Ug (n : Nat) : upTo n 0 = Array.replicate n false:=by
 apply Array.ext <;> simp [upTo]
theorem Uh (n k : Nat) : (upTo n k).setIfInBounds k true = upTo n (k + 1):=by
 apply Array.ext
 ·simp [upTo]
 ·intro i h1 h2
  simp [upTo] at h1
  by_cases e : k = i
  ·subst e;simp [upTo]
  ·simp [upTo,e];omega
def MC (ops : Array Oper) : Bool:=Region.noSelect ops && (List.range ops.size).all fun k => Region.free .any ops (upTo ops.size k) k && (Region.ready .any ops (upTo ops.size k)).contains k
structure Text (P : Program) (ops : Array Oper) (Q : Exit → Act → World → Prop) (S : World → Prop) (k : Nat) (rest : List Oper) (a : Act) : Prop where
 out : ops.toList.drop k = rest → wpAnyS P .any ops Q S (ops.size - k) (upTo ops.size k) a
variable {k d : Nat} {o : Oper} {rest : List Oper} {v : Value} {L : List Value} {D : List Deferred}
theorem MB {a : Act} (ht : Ac (MC ops = true))
  (hQ : ∀ c a w,Q (.panic c) (a.put o.dst v) w → Q (.panic c) a w) (he : I7 P ops S o v a) (h : Text P ops Q S (k + 1) rest (a.put o.dst v)) : Text P ops Q S k (o :: rest) a:=by
 refine ⟨fun hd => ?_⟩
 have hk : ops[k]? = some o:=by
  rw [← Array.getElem?_toList, ← List.head?_drop,hd,List.head?_cons]
 have hlt : k < ops.size:=(Array.getElem?_eq_some_iff.1 hk).1
 obtain ⟨hs,hall⟩:=Bool.and_eq_true_iff.1 ht.out
 have h1:=List.all_eq_true.1 hall k (by simpa using hlt)
 obtain ⟨hf,hr⟩:=Bool.and_eq_true_iff.1 h1
 rw [show ops.size - k = (ops.size - (k + 1)) + 1 by omega]
 refine wpAnyS_first hk (Region.noSelect_spec hs) hQ _ _ a (Region.free_spec hk hf) (by simpa using hr) he ?_
 rw [Uh]
 exact h.out (by rw [← List.drop_drop,hd,List.drop_one,List.tail_cons])
theorem Cx : (⟨L.toArray,D⟩ : Act).put (some d) v = ⟨(L.set d v).toArray,D⟩:=by
 simp [Act.put]
theorem Bw {f : FuncId} {xs : Array Operand} {ts : Array TypeId} {a : Act} (_hop : o.op = .call { callee:=.value (.func f),args:=xs,argTypes:=ts }) (h : Text P ops Q S k (o :: rest) a) : Text P ops Q S k (o :: rest) a:=h
theorem BJ (ht : Ac (MC ops = true)) (hd : o.dst = some d) (hw : Region.wanted o (yielded ops L.toArray) = false)
  (hQ : ∀ c a w,Q (.panic c) (a.put o.dst undef) w → Q (.panic c) a w) (h : Text P ops Q S (k + 1) rest ⟨(L.set d undef).toArray,D⟩) : Text P ops Q S k (o :: rest) ⟨L.toArray,D⟩:=
 MB ht hQ (.inr ⟨hw,rfl⟩) (by rw [hd,Cx];exact h)
theorem BX (ht : Ac (MC ops = true)) (hd : o.dst = some d) (hw : Region.wanted o (yielded ops L.toArray) = true)
  (hQ : ∀ c a w,Q (.panic c) (a.put o.dst v) w → Q (.panic c) a w) (hr : ∀ w,S w → (execOp (Act.eval ⟨L.toArray,D⟩) o).run P w = .ok (.value v) w) (h : Text P ops Q S (k + 1) rest ⟨(L.set d v).toArray,D⟩) : Text P ops Q S k (o :: rest) ⟨L.toArray,D⟩:=
 MB ht hQ (.inl ⟨hw,fun w hS => by rw [hr w hS];exact ⟨rfl,hS⟩⟩) (by rw [hd,Cx];exact h)
theorem Bz {f : FuncId} {fn : Func} {xs : Array Operand} {ts : Array TypeId} {args : Array Value} (ht : Ac (MC ops = true))
    (hop : o.op = .call { callee:=.value (.func f),args:=xs,argTypes:=ts }) (hf : P.funcs[f]? = some fn) (hname : (fn.name == "runtime.NumGoroutine") = false) (hb : fn.body.isSome = true) (hd : o.dst = some d) (hw : Region.wanted o (yielded ops L.toArray) = true)
    (hQ : ∀ c a w,Q (.panic c) (a.put o.dst v) w → Q (.panic c) a w) (hargs : xs.map (Act.eval ⟨L.toArray,D⟩) = args)
    (hc : ∀ w,S w → Calls P f args w fun e w' => e = .returned v ∧ S w') (h : Text P ops Q S (k + 1) rest ⟨(L.set d v).toArray,D⟩) : Text P ops Q S k (o :: rest) ⟨L.toArray,D⟩:=by
  refine MB (v:=v) ht hQ (.inl ⟨hw,fun w hS => ?_⟩) (by rw [hd,Cx];exact h)
  have he:=TS hf hname hb args w
  have hrun : (execOp (Act.eval ⟨L.toArray,D⟩) o).run P w = .ok (.enter f args) w:=by
    unfold execOp
    simp [hop,resolve,Deferred.ofValue,invoke,Act.eval,hargs,he]
  rw [hrun]
  exact hc w hS
theorem BZ {a : Act} (h : ∀ w,S w → Q .normal a w) : Text P ops Q S k [] a:=by
 refine ⟨fun hd => ?_⟩
 have hk' : ops.size ≤ k:=by simpa using hd
 rw [show ops.size - k = 0 by omega]
 refine ⟨?_,h⟩
 simp only [Region.ready,List.filter_eq_nil_iff,List.mem_range]
 intro i hi
 have : (upTo ops.size k).getD i true = true:=by
  have : i < k:=by omega
  simp [upTo,hi,this]
 simp [this]
theorem Bo {id : Nat} {l : List Oper} {a : Act} {w : World} (S : World → Prop) (hm : P.follows .mixedOrders = true) (hl : ops.toList = l) (ht : MC ops = true) (hS : S w.drew)
  (h : Ac (MC ops = true) → Text P ops Q S 0 l a) : (Code.region id ops true).wp P Q a w:=by
 have h1:=(h ⟨ht⟩).out hl
 rw [Ug] at h1
 exact wp_region_any hm (NZ _ _ _ _ hS h1)
end
end Go.Proofs.YtklmhkglcfjclaaGreat
namespace Go.Proofs.YtklmhkglcfjclaaGreat
open Go.RowKit Go.Proofs.YtklmhkglcfjclaaGreatW.PrintWords Go.Proofs.YtklmhkglcfjclaaGreatW.PrintLast Go.Proofs.YtklmhkglcfjclaaGreatW.PrintMore
theorem Kt {xs : List Int} {k : Nat} (h : k < xs.length) : xs.drop k = iv xs k :: xs.drop (k + 1):=by
 rw [List.drop_eq_getElem_cons h]
 simp [iv,List.getD_eq_getElem?_getD,h]
def VN (b : Bool) (w : World) (e : Ending) (w' : World) : Prop := ∃ i : Int,e = .returned (.int .i64 i) ∧ decide (0 ≤ i) = b ∧ w = w'
theorem MZ (n : Int) (w : World) : Calls Tryz.prog 125 #[.int .i64 n] w fun e w' => e = .returned (.bool (n != 0)) ∧ w = w':=by
 go_enter Tryz.func125,Tryz.ntmps125
 go_wp2
 go_ret
 exact ⟨rfl,rfl⟩
theorem N9 (n : Int) (w : World) : Calls Tryz.prog 126 #[.int .i64 n] w fun e w' => e = .returned (.bool (!inB n 0 9)) ∧ w = w':=by
 go_enter Tryz.func126,Tryz.ntmps126
 go_wp2_with (go_at_call 62;refine (Cn _ _ _ _).mono ?_;rintro e w' ⟨rfl,rfl⟩)
 go_ret
 exact ⟨rfl,rfl⟩
set_option maxHeartbeats 2000000 in
theorem SK {w0 w : World} {A : Option Addr} {c : Nat} {l : List Int} (hb : Below w0.heap.size w0 w) (hr : Kd.C (Kd.int .i64) w0 A l.length l) : Calls Tryz.prog 176 #[.slice A l.length c, .func (.func 125) #[] #[]] w (VN (l.any fun x => x != 0) w):=by
 have HR:=As (BF hr hb)
 have hm:=(Co hr).2
 clear hr hb
 go_enter Tryz.func176,Tryz.ntmps176
 go_wp2
 go_loop [8] (fun i => ∃ k : Nat,k ≤ l.length ∧ i = .int .i64 (k : Int) ∧ Ac ((l.any fun x => x != 0) = (l.drop k).any fun x => x != 0)) (fun i => (l.length - intOf i).toNat)
 case atStart => exact ⟨0,Nat.zero_le _,rfl,⟨rfl⟩⟩
 case round =>
  obtain ⟨k,hk,rfl,HK⟩:=hrel
  by_cases hlt : k < l.length
  ·obtain ⟨ad,rfl,g0⟩:=DC HR.out k hlt
   have HD:=As (Kt hlt)
   cases hp : (fun x => x != 0) (iv l k)
   ·have HP:=As hp
    clear hp
    go_wp2_with (go_at_call 125;refine (MZ (iv l k) _).mono ?_;rintro e w' ⟨rfl,rfl⟩;(try rw [show (iv l k != 0) = false from HP.out]))
    go_round
    case rel => exact ⟨k + 1,by omega,by go_num,⟨by rw [HK.out,HD.out,List.any_cons,show (iv l k != 0) = false from HP.out,Bool.false_or]⟩⟩
    case measure => simp [intOf];omega
   ·have HP:=As hp
    clear hp
    go_wp2_with (go_at_call 125;refine (MZ (iv l k) _).mono ?_;rintro e w' ⟨rfl,rfl⟩;(try rw [show (iv l k != 0) = true from HP.out]))
    go_ret
    exact ⟨k,rfl,by rw [HK.out,HD.out,List.any_cons,show (iv l k != 0) = true from HP.out];simp,rfl⟩
  ·have hke : k = l.length:=by omega
   go_wp2
   go_ret
   exact ⟨-1,rfl,by rw [HK.out,hke,List.drop_length];rfl,rfl⟩
theorem OZ {w0 w : World} {A : Option Addr} {c : Nat} {l : List Int} (hb : Below w0.heap.size w0 w) (hr : Kd.C (Kd.int .i64) w0 A l.length l) : Calls Tryz.prog 124 #[.slice A l.length c, .func (.func 125) #[] #[]] w fun e w' => e = .returned (.bool (l.any fun x => x != 0)) ∧ w = w':=by
 have HR:=As (BF hr hb)
 clear hr hb
 go_enter Tryz.func124,Tryz.ntmps124
 go_wp2_with (go_at_call 176;refine (SK (Below.refl _ _) HR.out).mono ?_;rintro e w' ⟨i,rfl,hi,rfl⟩)
 go_ret
 exact ⟨by first | exact AL hi | rfl,rfl⟩
set_option maxHeartbeats 2000000 in
theorem SL {w0 w : World} {A : Option Addr} {c : Nat} {l : List Int} (hb : Below w0.heap.size w0 w) (hr : Kd.C (Kd.int .i64) w0 A l.length l) : Calls Tryz.prog 176 #[.slice A l.length c, .func (.func 126) #[] #[]] w (VN (l.any fun x => !inB x 0 9) w):=by
 have HR:=As (BF hr hb)
 have hm:=(Co hr).2
 clear hr hb
 go_enter Tryz.func176,Tryz.ntmps176
 go_wp2
 go_loop [8] (fun i => ∃ k : Nat,k ≤ l.length ∧ i = .int .i64 (k : Int) ∧ Ac ((l.any fun x => !inB x 0 9) = (l.drop k).any fun x => !inB x 0 9)) (fun i => (l.length - intOf i).toNat)
 case atStart => exact ⟨0,Nat.zero_le _,rfl,⟨rfl⟩⟩
 case round =>
  obtain ⟨k,hk,rfl,HK⟩:=hrel
  by_cases hlt : k < l.length
  ·obtain ⟨ad,rfl,g0⟩:=DC HR.out k hlt
   have HD:=As (Kt hlt)
   cases hp : (fun x => !inB x 0 9) (iv l k)
   ·have HP:=As hp
    clear hp
    go_wp2_with (go_at_call 126;refine (N9 (iv l k) _).mono ?_;rintro e w' ⟨rfl,rfl⟩;(try rw [show (!inB (iv l k) 0 9) = false from HP.out]))
    go_round
    case rel => exact ⟨k + 1,by omega,by go_num,⟨by rw [HK.out,HD.out,List.any_cons,show (!inB (iv l k) 0 9) = false from HP.out,Bool.false_or]⟩⟩
    case measure => simp [intOf];omega
   ·have HP:=As hp
    clear hp
    go_wp2_with (go_at_call 126;refine (N9 (iv l k) _).mono ?_;rintro e w' ⟨rfl,rfl⟩;(try rw [show (!inB (iv l k) 0 9) = true from HP.out]))
    go_ret
    exact ⟨k,rfl,by rw [HK.out,HD.out,List.any_cons,show (!inB (iv l k) 0 9) = true from HP.out];simp,rfl⟩
  ·have hke : k = l.length:=by omega
   go_wp2
   go_ret
   exact ⟨-1,rfl,by rw [HK.out,hke,List.drop_length];rfl,rfl⟩
theorem P5 {w0 w : World} {A : Option Addr} {c : Nat} {l : List Int} (hb : Below w0.heap.size w0 w) (hr : Kd.C (Kd.int .i64) w0 A l.length l) : Calls Tryz.prog 124 #[.slice A l.length c, .func (.func 126) #[] #[]] w fun e w' => e = .returned (.bool (l.any fun x => !inB x 0 9)) ∧ w = w':=by
 have HR:=As (BF hr hb)
 clear hr hb
 go_enter Tryz.func124,Tryz.ntmps124
 go_wp2_with (go_at_call 176;refine (SL (Below.refl _ _) HR.out).mono ?_;rintro e w' ⟨i,rfl,hi,rfl⟩)
 go_ret
 exact ⟨by first | exact AL hi | rfl,rfl⟩
def EU (l : List Int) : Bool := !(l.any fun x => x != 0)
def FY (l : List Int) : Bool:=l.length == 3 && !(l.any fun x => !inB x 0 9)
theorem KU {w0 w : World} {A : Option Addr} {c : Nat} {l : List Int} {b : Bool} (hv : EU l = b) (hb : Below w0.heap.size w0 w) (hr : Kd.C (Kd.int .i64) w0 A l.length l) : Calls Tryz.prog 61 #[.slice A l.length c] w fun e w' => e = .returned (.bool b) ∧ w' = w:=by
 have HR:=As (BF hr hb)
 subst hv
 clear hr hb
 go_enter Tryz.func61,Tryz.ntmps61
 go_wp2_with (go_at_call 124;refine (OZ (Below.refl _ _) HR.out).mono ?_;rintro e w' ⟨rfl,rfl⟩)
 go_ret
 exact ⟨rfl,rfl⟩
theorem J5 {w0 w : World} {A : Option Addr} {c : Nat} {l : List Int} {b : Bool} (hv : FY l = b) (hb : Below w0.heap.size w0 w) (hr : Kd.C (Kd.int .i64) w0 A l.length l) : Calls Tryz.prog 63 #[.slice A l.length c] w fun e w' => e = .returned (.bool b) ∧ w' = w:=by
 have HR:=As (BF hr hb)
 have HV:=As hv
 clear hr hb hv
 rcases BV (l.length : Int) 3 with ⟨e1,b1,c1⟩ | ⟨e1,b1,c1⟩
 ·go_enter Tryz.func63,Tryz.ntmps63
  go_wp2_with (go_at_call 124;refine (P5 (Below.refl _ _) HR.out).mono ?_;rintro e w' ⟨rfl,rfl⟩)
  go_ret
  exact ⟨AL (by rw [← HV.out,FY,show (l.length == 3) = true by have:=e1.out;simp;omega];rfl),rfl⟩
 ·go_enter Tryz.func63,Tryz.ntmps63
  go_wp2
  go_ret
  exact ⟨AL (by rw [← HV.out,FY,show (l.length == 3) = false by have:=e1.out;simp;omega];rfl),rfl⟩
def Bt (p : Page) : Bool:=inB p.lsn 0 150 && inB p.owner 0 3 && FY p.vals && (p.owner != 0 || EU p.vals)
abbrev Page.val (p : Page) (A : Option Addr) (c : Nat) : Value:=.agg #[.int .i64 p.lsn, .int .i64 p.owner, .slice A p.vals.length c]
set_option maxHeartbeats 4000000 in
theorem Dq {w0 w : World} {A : Option Addr} {c : Nat} {p : Page} {b : Bool} (hv : Bt p = b) (hb : Below w0.heap.size w0 w) (hr : Kd.C (Kd.int .i64) w0 A p.vals.length p.vals) : Calls Tryz.prog 25 #[p.val A c] w fun e w' => e = .returned (.bool b) ∧ Below w.heap.size w w':=by
 have HR:=As (BF hr hb)
 have HV:=As hv
 clear hr hb hv
 obtain ⟨v1,hv1⟩ : ∃ v1,FY p.vals = v1:=⟨_,rfl⟩
 obtain ⟨z1,hz1⟩ : ∃ z1,EU p.vals = z1:=⟨_,rfl⟩
 have HV1:=As hv1
 have HZ1:=As hz1
 clear hv1 hz1
 rcases BV p.owner 0 with ⟨e1,b1,c1⟩ | ⟨e1,b1,c1⟩
 all_goals
  go_enter Tryz.func25,Tryz.ntmps25
  go_wp2_with (first | (go_at_call 62;refine (Cn _ _ _ _).mono ?_;rintro e w' ⟨rfl,rfl⟩) | (go_at_call 63;refine (J5 HV1.out ((Below.refl _ _).alloc (Nat.le_refl _) _) HR.out).mono ?_;rintro e w' ⟨rfl,rfl⟩) | (go_at_call 61;refine (KU HZ1.out ((Below.refl _ _).alloc (Nat.le_refl _) _) HR.out).mono ?_;rintro e w' ⟨rfl,rfl⟩))
  all_goals (go_ret;exact ⟨AL (by rw [← HV.out,Bt,HV1.out,HZ1.out];simp [c1, *]),(Below.refl _ _).alloc (Nat.le_refl _) _⟩)
theorem Cq {p : Page} : Bt p = true ↔ 0 ≤ p.lsn ∧ p.lsn ≤ 150 ∧ 0 ≤ p.owner ∧ p.owner ≤ 3 ∧ p.vals.length = 3 ∧ ∀ x ∈ p.vals,0 ≤ x ∧ x ≤ 9 ∧ (p.owner = 0 → x = 0):=by
 simp only [Bt,FY,EU,Bool.and_eq_true,Dh,Bool.or_eq_true,bne_iff_ne,Bool.not_eq_true',List.any_eq_false,beq_iff_eq]
 constructor
 ·rintro ⟨⟨⟨⟨h1,h2⟩,h3,h4⟩,h5,h6⟩,h7⟩
  refine ⟨h1,h2,h3,h4,h5,fun x hx => ?_⟩
  have:=h6 x hx
  simp [inB] at this
  refine ⟨this.1,this.2,fun h0 => ?_⟩
  rcases h7 with h7 | h7
  ·exact absurd h0 h7
  ·have:=h7 x hx
   simpa using this
 ·rintro ⟨h1,h2,h3,h4,h5,h6⟩
  refine ⟨⟨⟨⟨h1,h2⟩,h3,h4⟩,h5,fun x hx => ?_⟩,?_⟩
  ·have:=h6 x hx
   simp [inB]
   omega
  ·by_cases h0 : p.owner = 0
   ·refine .inr fun x hx => ?_
    have:=(h6 x hx).2.2 h0
    simp [this]
   ·exact .inl h0
theorem Xg {l : List Int} {k : Nat} (h : k < l.length) : iv l k ∈ l:=by
 simp [iv,List.getD_eq_getElem?_getD,h]
def Ap (l : List Rec) (tx : Int) : Nat → Nat
 | 0 => 0
 | n + 1 => if (rc l n).tx = tx then (if EY (rc l n).kind = true then 0 else n + 1) else Ap l tx n
theorem Jk {w0 w : World} {A : Option Addr} {n c : Nat} {l : List Rec} (tx : Int) (hb : Below w0.heap.size w0 w) (hr : Kd.C Ca w0 A n l) : Calls Tryz.prog 142 #[.slice A n c, .int .i64 tx] w fun e w' => e = .returned (.int .i64 (Ap l tx n)) ∧ w = w':=by
 have HR:=As (BF hr hb)
 have hm:=(Co hr).2
 clear hr hb
 go_enter Tryz.func142,Tryz.ntmps142
 go_wp2
 go_loop [5] (fun i => ∃ k : Nat,k ≤ n ∧ i = .int .i64 ((k : Int) - 1) ∧ Ac (Ap l tx n = Ap l tx k)) (fun i => (intOf i + 1).toNat)
 case atStart => exact ⟨n,Nat.le_refl _,rfl,⟨rfl⟩⟩
 case round =>
  obtain ⟨k,hk,rfl,HL⟩:=hrel
  rcases k with _ | k
  ·go_wp2
   go_ret
   exact ⟨by rw [HL.out];rfl,rfl⟩
  ·obtain ⟨ad,rfl,⟨g0,g1,g2,g3,g4,g5,g6,g7⟩⟩:=Ci HR.out k (by omega)
   rcases BV (rc l k).tx tx with ⟨e1,b1,c1⟩ | ⟨e1,b1,c1⟩
   ·rcases BV (rc l k).kind 4 with ⟨e2,b2,c2⟩ | ⟨e2,b2,c2⟩
    ·go_wp2
     go_ret
     exact ⟨by rw [HL.out];simp [Ap,EY,e1.out,e2.out],rfl⟩
    ·rcases BV (rc l k).kind 5 with ⟨e3,b3,c3⟩ | ⟨e3,b3,c3⟩
     ·go_wp2
      go_ret
      exact ⟨by rw [HL.out];simp [Ap,EY,e1.out,e3.out],rfl⟩
     ·go_wp2
      go_ret
      exact ⟨by rw [HL.out];simp [Ap,EY,e1.out,e2.out,e3.out],rfl⟩
   ·go_wp2
    go_round
    case rel => exact ⟨k,by omega,by go_num,⟨by rw [HL.out];simp [Ap,e1.out]⟩⟩
    case measure => simp [intOf]
theorem DK {w0 w : World} {A : Option Addr} {n c m : Nat} {l : List Rec} {tx : Int} (h : Ap l tx n = m) (hb : Below w0.heap.size w0 w) (hr : Kd.C Ca w0 A n l) : Calls Tryz.prog 142 #[.slice A n c, .int .i64 tx] w fun e w' => e = .returned (.int .i64 m) ∧ w = w':=(Jk tx hb hr).mono fun _ _ x => ⟨h ▸ x.1,x.2⟩
def atOk (l : List Rec) (k : Nat) : Bool:=D6 (rc l k) && (rc l k).prev == Ap l (rc l k).tx k && decide ((rc l k).next ≤ k) && (decide ((rc l k).next ≤ 0) || (rc l ((rc l k).next.toNat - 1)).tx == (rc l k).tx)
def Ez (l : List Rec) : Nat → Bool
 | 0 => true
 | n + 1 => Ez l n && atOk l n
def AQ (l : List Rec) : Bool:=Ez l l.length && decide (l.length ≤ 150)
theorem LX {l : List Rec} {k n : Nat} (h : atOk l k = false) (hk : k < n) : Ez l n = false:=by
 induction n with
 | zero => omega
 | succ n ih =>
  by_cases e : k = n
  ·subst e;simp [Ez,h]
  ·simp [Ez,ih (by omega)]
theorem Px {l : List Rec} {n k : Nat} (h : Ez l n = true) (hk : k < n) : atOk l k = true:=by
 cases e : atOk l k
 ·rw [LX e hk] at h;cases h
 ·rfl
theorem Bf (l : List Rec) (tx : Int) (n : Nat) : Ap l tx n ≤ n:=by
 induction n with
 | zero => simp [Ap]
 | succ n ih =>
  unfold Ap
  split
  ·split <;> omega
  ·omega
def BQ (l : List Rec) (n : Nat) : Nat:=(rc l (n - 1)).prev.toNat
def EW (l : List Rec) (n : Nat) : Nat:=(rc l (n - 1)).next.toNat
structure VP (l : List Rec) (k : Nat) : Prop where
 ok : D6 (rc l k) = true
 prev : (rc l k).prev = BQ l (k + 1)
 prev_le : BQ l (k + 1) ≤ k
 next : (rc l k).next = EW l (k + 1)
 next_le : EW l (k + 1) ≤ k
 last : BQ l (k + 1) = Ap l (rc l k).tx k
 tx1 : 1 ≤ (rc l k).tx
 tx3 : (rc l k).tx ≤ 3
theorem QN {r : Rec} (h : D6 r = true) : 1 ≤ r.tx ∧ r.tx ≤ 3 ∧ 0 ≤ r.prev ∧ r.prev ≤ 150:=by
 simp only [D6,Bool.and_eq_true,Dh] at h
 omega
theorem Sg {r : Rec} (h : D6 r = true) : 0 ≤ r.next ∧ r.next ≤ 150:=by
 rw [Dg] at h
 omega
theorem AJ {l : List Rec} (h : AQ l = true) {k : Nat} (hk : k < l.length) : VP l k:=by
 simp only [AQ,Bool.and_eq_true] at h
 have ha:=Px h.1 hk
 simp only [atOk,Bool.and_eq_true,beq_iff_eq,decide_eq_true_eq] at ha
 obtain ⟨⟨⟨h1,h2⟩,h3⟩,h4⟩:=ha
 have h5:=QN h1
 have h6:=Sg h1
 have hl:=Bf l (rc l k).tx k
 refine ⟨h1,?_,?_,?_,?_,?_,h5.1,h5.2.1⟩ <;> simp only [BQ,EW,Nat.add_sub_cancel] <;> omega
theorem Bg {l : List Rec} (h : AQ l = true) : l.length ≤ 150:=by
 simp only [AQ,Bool.and_eq_true,decide_eq_true_eq] at h
 exact h.2
def BM (l : List Rec) : Nat → List Nat
 | 0 => []
 | n + 1 => (n + 1) :: if h : BQ l (n + 1) ≤ n then BM l (BQ l (n + 1)) else []
 termination_by n => n
theorem Eb {l : List Rec} {n : Nat} (h : BQ l (n + 1) ≤ n) : BM l (n + 1) = (n + 1) :: BM l (BQ l (n + 1)):=by
 rw [BM,dif_pos h]
theorem Ct (l : List Rec) : BM l 0 = []:=by rw [BM]
def D5 (l : List Rec) : Nat → List Nat
 | 0 => []
 | n + 1 =>
  if (rc l n).kind = 1 ∨ (rc l n).kind = 2 then (n + 1) :: (if h : BQ l (n + 1) ≤ n then D5 l (BQ l (n + 1)) else [])
  else if (rc l n).kind = 6 then (if h : EW l (n + 1) ≤ n then D5 l (EW l (n + 1)) else [])
  else if h : BQ l (n + 1) ≤ n then D5 l (BQ l (n + 1)) else []
 termination_by n => n
theorem D9 (l : List Rec) : D5 l 0 = []:=by rw [D5]
theorem LB {l : List Rec} {n : Nat} (hk : (rc l n).kind = 1 ∨ (rc l n).kind = 2) (h : BQ l (n + 1) ≤ n) : D5 l (n + 1) = (n + 1) :: D5 l (BQ l (n + 1)):=by
 rw [D5,if_pos hk,dif_pos h]
theorem Mv {l : List Rec} {n : Nat} (hk : (rc l n).kind = 6) (h : EW l (n + 1) ≤ n) : D5 l (n + 1) = D5 l (EW l (n + 1)):=by
 rw [D5,if_neg (by omega),if_pos hk,dif_pos h]
theorem Mx {l : List Rec} {n : Nat} (h1 : (rc l n).kind ≠ 1) (h2 : (rc l n).kind ≠ 2) (h6 : (rc l n).kind ≠ 6) (h : BQ l (n + 1) ≤ n) : D5 l (n + 1) = D5 l (BQ l (n + 1)):=by
 rw [D5,if_neg (by omega),if_neg h6,dif_pos h]
def BG (l : List Rec) (n : Nat) : Nat:=(D5 l n).headD 0
theorem G9 {l : List Rec} (n m : Nat) (ms : List Nat) (h : D5 l n = m :: ms) : 0 < m ∧ m ≤ n ∧ ((rc l (m - 1)).kind = 1 ∨ (rc l (m - 1)).kind = 2) ∧ (BQ l m < m → ms = D5 l (BQ l m) ∧ D5 l m = m :: ms):=by
 induction n using Nat.strongRecOn with
 | _ n ih =>
  match n with
  | 0 => rw [D9] at h;cases h
  | n + 1 =>
   rw [D5] at h
   split at h
   ·rename_i hk
    obtain ⟨rfl,h2⟩:=List.cons.inj h
    refine ⟨by omega,by omega,by simpa using hk,fun hp => ?_⟩
    rw [dif_pos (by omega)] at h2
    exact ⟨h2.symm,by rw [LB hk (by omega),h2]⟩
   ·split at h
    ·split at h
     ·rename_i hle
      obtain ⟨h1,h2,h3,h4⟩:=ih _ (by omega) h
      exact ⟨h1,by omega,h3,h4⟩
     ·cases h
    ·split at h
     ·rename_i hle
      obtain ⟨h1,h2,h3,h4⟩:=ih _ (by omega) h
      exact ⟨h1,by omega,h3,h4⟩
     ·cases h
theorem Gz {l : List Rec} {n : Nat} (h : BG l n = 0) : D5 l n = []:=by
 cases e : D5 l n with
 | nil => rfl
 | cons m ms =>
  have:=(G9 n m ms e).1
  simp [BG,e] at h
  omega
theorem Nf {l : List Rec} {n m : Nat} (h : BG l n = m) (hm : 0 < m) : ∃ ms,D5 l n = m :: ms:=by
 cases e : D5 l n with
 | nil => simp [BG,e] at h;omega
 | cons a ms => simp [BG,e] at h;subst h;exact ⟨ms,rfl⟩
theorem Mw {l : List Rec} {n m : Nat} (hl : AQ l = true) (hn : n ≤ l.length) (h : BG l n = m + 1) : D5 l n = (m + 1) :: D5 l (BQ l (m + 1)) ∧ m < l.length ∧ BQ l (m + 1) ≤ m ∧ ((rc l m).kind = 1 ∨ (rc l m).kind = 2):=by
 obtain ⟨ms,e⟩:=Nf h (by omega)
 obtain ⟨h1,h2,h3,h4⟩:=G9 n _ ms e
 have F:=AJ hl (k:=m) (by omega)
 exact ⟨by rw [e,(h4 (by have:=F.prev_le;omega)).1],by omega,F.prev_le,by simpa using h3⟩
theorem GZ {l : List Rec} {n : Nat} : BG l n ≤ n:=by
 cases e : D5 l n with
 | nil => simp [BG,e]
 | cons m ms =>
  have:=(G9 n m ms e).2.1
  simp only [BG,e,List.headD_cons]
  exact this
def F8 (l : List Rec) (n : Nat) (page : Int) : Bool:=(BM l n).any fun m => (rc l (m - 1)).kind == 3 && (rc l (m - 1)).page == page
theorem Lg (l : List Rec) (p : Int) : F8 l 0 p = false:=by simp [F8,Ct]
theorem SA {l : List Rec} {n : Nat} {p : Int} (h : BQ l (n + 1) ≤ n) : F8 l (n + 1) p = (((rc l n).kind == 3 && (rc l n).page == p) || F8 l (BQ l (n + 1)) p):=by
 simp [F8,Eb h]
def IQ (l : List Rec) (page : Int) : Nat → Bool
 | 0 => false
 | j + 1 => F8 l (Ap l (3 - j : Int) l.length) page || IQ l page j
def IK (l : List Rec) : Nat → Nat
 | 0 => 0
 | j + 1 => (D5 l (Ap l (3 - j : Int) l.length)).length + (if Ap l (3 - j : Int) l.length = 0 then 0 else 1) + IK l j
def need (l : List Rec) : Nat:=IK l 3
def AU (w : World) (base : Nat) (v : Value) (xs : List Int) : Prop:=w.ownsRow base 3 1 v xs.length (nums .i64 xs)
theorem XD {w : World} {A : Option Addr} {n : Nat} {xs : List Int} (h : ReadsInt w .i64 A n xs) : Kd.C (Kd.int .i64) w A n xs:=Kd.Tp (enc:=Value.int .i64) (d:=(0 : Int)) (h1:=fun _ => rfl) h
theorem AU.reads {w : World} {base : Nat} {v : Value} {xs : List Int} (h : AU w base v xs) : ∃ A c,v = .slice A xs.length c ∧ xs.length ≤ c ∧ Kd.C (Kd.int .i64) w A xs.length xs:=by
 obtain ⟨A,c,he,hr⟩:=Uu h
 refine ⟨A,c,he,?_,XD hr⟩
 rcases h.2 with ⟨h1,h2⟩ | ⟨g,cap,cur,h1,_,_,h2,_⟩
 ·omega
 ·rw [h1] at he
  cases he
  exact h2
theorem AU.below {w w1 : World} {base : Nat} {v : Value} {xs : List Int} (h : AU w base v xs) (hb : Below w.heap.size w w1) : AU w1 base v xs:=LJ h hb
theorem AU.nil (w : World) (base : Nat) : AU w base (.slice none 0 0) []:=TF w base _ _
theorem AU.lower {w : World} {b b' : Nat} {v : Value} {xs : List Int} (h : AU w b v xs) (hb : b' ≤ b) : AU w b' v xs:=Ef h hb
def UQ (w : World) (xs : List Int) (e : Ending) (w' : World) : Prop := ∃ v,e = .returned v ∧ AU w' w.heap.size v xs ∧ Below w.heap.size w w'
theorem FR : (Tryz.prog.info? 3).map (fun i => (i.zero,i.size,i.bytes)) = some (some (.int .i64 0),1,8):=by kernel_rfl
theorem Ee : Tryz.prog.underlying 42 = some (.slice 3):=Tryz.underlying42
theorem NW {w : World} {A : Option Addr} {n : Nat} {l : List Int} (h : Kd.C (Kd.int .i64) w A n l) (hn : 0 < n) : ∃ b off,A = some ⟨b,off,none⟩ ∧ ∀ j,j < l.length → w.cell? ⟨b,off + j,none⟩ = some (.int .i64 (l.getD j 0)):=by
 obtain ⟨ad,rfl,h0⟩:=DC h 0 hn
 have hs : ad.spot = none:=by
  have h1 : w.cell? ad = some (.int .i64 (iv l 0)):=h0
  unfold World.cell? at h1
  split at h1
  ·cases e : ad.spot with
   | none => rfl
   | some s => rw [e] at h1;simp at h1
  ·cases h1
 obtain ⟨b,off,s⟩:=ad
 obtain rfl : s = none:=hs
 refine ⟨b,off,rfl,fun j hj => ?_⟩
 obtain ⟨ad,e,h2⟩:=DC h j (by rw [h.1] at hj;exact hj)
 obtain rfl:=Option.some.inj e
 have : (⟨b,off,none⟩ : Addr).add j = ⟨b,off + j,none⟩:=by
  unfold Addr.add
  split
  ·rename_i h;subst h;rfl
  ·rfl
 rw [this] at h2
 exact h2
theorem Ny {w0 w : World} {A : Option Addr} {c : Nat} {l : List Int} (hl : l.length ≤ 17592186044416) (hb : Below w0.heap.size w0 w) (hr : Kd.C (Kd.int .i64) w0 A l.length l) : Calls Tryz.prog 154 #[.slice A l.length c] w (UQ w l):=by
 have h:=BF hr hb
 rcases Nat.eq_zero_or_pos l.length with h0 | h0
 ·obtain rfl:=List.eq_nil_of_length_eq_zero h0
  cases A with
  | none => exact (Tryz.slices_Clone_int_nil 0 c w).mono fun e w' ⟨he,hw⟩ => ⟨_,he,AU.nil _ _,hw ▸ Below.refl _ _⟩
  | some a => exact (Tryz.slices_Clone_int_zero a c w).mono fun e w' ⟨v,he,ho,_,hb⟩ => ⟨v,he,ho,hb⟩
 ·obtain ⟨b,off,rfl,hc⟩:=NW h h0
  refine (Tryz.slices_Clone_int b off l.length c l w (Nat.le_refl _) (by omega) hc).mono fun e w' ⟨v,he,ho,_,hb⟩ => ⟨v,he,?_,hb⟩
  rw [List.take_length] at ho
  exact ho
theorem Ka {w0 w : World} {A : Option Addr} {c : Nat} {l : List Int} (x : Int) (hb : Below w0.heap.size w0 w) (hr : Kd.C (Kd.int .i64) w0 A l.length l) : Calls Tryz.prog 130 #[.slice A l.length c, .int .i64 x] w fun e w' => e = .returned (.bool (l.contains x)) ∧ w' = w:=by
 have h:=BF hr hb
 rcases Nat.eq_zero_or_pos l.length with h0 | h0
 ·obtain rfl:=List.eq_nil_of_length_eq_zero h0
  exact Tryz.slices_Contains_int_empty A c x w
 ·obtain ⟨b,off,rfl,hc⟩:=NW h h0
  have:=Tryz.slices_Contains_int b off l.length c l x w (Nat.le_refl _) (Co h).2 hc
  rwa [List.take_length] at this
theorem Rz {w0 w : World} {A B : Option Addr} {c d : Nat} {l m : List Int} {b : Bool} (hv : (l == m) = b) (hb : Below w0.heap.size w0 w) (hr : Kd.C (Kd.int .i64) w0 A l.length l) (hr2 : Kd.C (Kd.int .i64) w0 B m.length m) : Calls Tryz.prog 133 #[.slice A l.length c, .slice B m.length d] w fun e w' => e = .returned (.bool b) ∧ Below w.heap.size w w':=by
 have h:=BF hr hb
 have h2:=BF hr2 hb
 subst hv
 by_cases hn : l.length = m.length
 ·rcases Nat.eq_zero_or_pos l.length with h0 | h0
  ·obtain rfl:=List.eq_nil_of_length_eq_zero h0
   obtain rfl:=List.eq_nil_of_length_eq_zero (hn ▸ h0 : m.length = 0)
   exact (Tryz.slices_Equal_int_empty A B c 0 d w (by omega)).mono fun e w' ⟨he,hw⟩ => ⟨he,hw ▸ Below.refl _ _⟩
  ·obtain ⟨b1,o1,rfl,hc1⟩:=NW h h0
   obtain ⟨b2,o2,rfl,hc2⟩:=NW h2 (by omega)
   refine (Tryz.slices_Equal_int b1 o1 l.length c b2 o2 m.length d l m w (Nat.le_refl _) (Nat.le_refl _) (Co h).2 (Co h2).2 hc1 hc2).mono fun e w' ⟨he,q,hw⟩ => ⟨?_,hw ▸ BO (Below.refl _ _) q⟩
   rw [List.take_length,List.take_length] at he
   exact he
 ·refine (Tryz.slices_Equal_int_lens A B l.length c m.length d w hn).mono fun e w' ⟨he,hw⟩ => ⟨?_,hw ▸ Below.refl _ _⟩
  rw [he]
  exact AL (by symm;rw [beq_eq_false_iff_ne];intro e;exact hn (by rw [e]))
def Gb (p q : Page) : Bool:=p.lsn == q.lsn && p.owner == q.owner && p.vals == q.vals
set_option maxHeartbeats 2000000 in
theorem Fq {w0 w : World} {A B : Option Addr} {c d : Nat} {p q : Page} {b : Bool} (hv : Gb p q = b) (hb : Below w0.heap.size w0 w) (hr : Kd.C (Kd.int .i64) w0 A p.vals.length p.vals) (hr2 : Kd.C (Kd.int .i64) w0 B q.vals.length q.vals) : Calls Tryz.prog 68 #[p.val A c,q.val B d] w fun e w' => e = .returned (.bool b) ∧ Below w.heap.size w w':=by
 have HR:=As (BF hr hb)
 have HR2:=As (BF hr2 hb)
 have HV:=As hv
 clear hr hr2 hb hv
 obtain ⟨v1,hv1⟩ : ∃ v1,(p.vals == q.vals) = v1:=⟨_,rfl⟩
 have HV1:=As hv1
 clear hv1
 rcases BV p.lsn q.lsn with ⟨e1,b1,c1⟩ | ⟨e1,b1,c1⟩
 all_goals rcases BV p.owner q.owner with ⟨e2,b2,c2⟩ | ⟨e2,b2,c2⟩
 all_goals
  go_enter Tryz.func68,Tryz.ntmps68
  go_wp2_with (go_at_call 133;refine (Rz HV1.out (((Below.refl _ _).alloc (Nat.le_refl _) _).alloc (by simp) _) HR.out HR2.out).mono ?_;rintro e w1 ⟨rfl,hb1⟩;have HX:=As (bj (((Below.refl _ _).alloc (Nat.le_refl _) _).alloc (by simp) _ : Below w.heap.size w _) hb1);clear hb1)
  all_goals (go_ret;first | exact ⟨AL (by rw [← HV.out,Gb,HV1.out,b1,b2];simp),HX.out⟩ | exact ⟨AL (by rw [← HV.out,Gb];simp [b1,b2]),(((Below.refl _ _).alloc (Nat.le_refl _) _).alloc (by simp) _)⟩)
abbrev Page.box (p : Page) (A : Option Addr) (c : Nat) : Obj:=.cells #[.int .i64 p.lsn, .int .i64 p.owner, .slice A p.vals.length c] 47
theorem Xj (w : World) (p : Page) (A : Option Addr) (c : Nat) : Lu (w.alloc (p.box A c)) ⟨w.heap.size,0,none⟩ p A c:=⟨by go_simp,by go_simp,by go_simp⟩
theorem NT (w : World) (p : Page) (A : Option Addr) (c : Nat) : Below w.heap.size w (w.alloc (p.box A c)):=(Below.refl _ _).alloc (Nat.le_refl _) _
open Go.RowKit Go.Proofs.YtklmhkglcfjclaaGreatW.PrintWords Go.Proofs.YtklmhkglcfjclaaGreatW.PrintLast
section
variable {P : Program} {ops : Array Oper} {Q : Exit → Act → World → Prop} {md : Region.Mode} {S : Array Bool → Act → World → Prop} {m : Nat}
def Keeps (S : Array Bool → Act → World → Prop) (i : Nat) (d : Option Nat) : Prop := ∀ l a v w,S (l.setIfInBounds i true) (a.put d v) w ↔ S l a w
def Sl (i s : Nat) (p : Value → World → Prop) (l : Array Bool) (a : Act) (w : World) : Prop:=l.getD i false = true → p (a.tmps.getD s undef) w
theorem Aa {p : World → Prop} {i : Nat} {d : Option Nat} : Keeps (fun _ _ w => p w) i d:=fun _ _ _ _ => Iff.rfl
theorem kA {S T : Array Bool → Act → World → Prop} {i : Nat} {d : Option Nat} (h : Keeps S i d) (k : Keeps T i d) : Keeps (fun l a w => S l a w ∧ T l a w) i d:=fun l a v w => and_congr (h l a v w) (k l a v w)
theorem Ab {j i s d : Nat} {p : Value → World → Prop} (h : (d == s) = false) (hi : (j == i) = false) : Keeps (Sl i s p) j (some d):=fun l a v w => by
 have h : d ≠ s:=by simpa using h
 have hi : j ≠ i:=by simpa using hi
 have h1 : (a.put (some d) v).tmps.getD s undef = a.tmps.getD s undef:=by simp [Act.put,h]
 have h2 : (l.setIfInBounds j true).getD i false = l.getD i false:=getD_set_ne false hi
 rw [Sl,Sl,h1,h2]
def Mq (P : Program) (ops : Array Oper) (S : Array Bool → Act → World → Prop) (o : Oper) (v : Value) (a : Act) : Prop:=
 (Region.wanted o (yielded ops a.tmps) = true ∧ ∀ l a' w,S l a' w → Eff P (S l a') v ((execOp a.eval o).run P w)) ∨
 (Region.wanted o (yielded ops a.tmps) = false ∧ v = undef)
theorem Mq.wpOp {i : Nat} {o : Oper} {v : Value} {a : Act} (hi : ops[i]? = some o) (hy : Mq P ops S o v a)
  {K : Act → World → Prop} {w : World} {l : Array Bool} (hS : S l a w) (h : ∀ w',S l a w' → K (a.put o.dst v) w') : wpOp P ops Q i K a w:=by
 rcases hy with ⟨hw,hv⟩ | ⟨hw,rfl⟩
 ·exact I7.wpOp (S:=S l a) hi (.inl ⟨hw,fun w hS => hv l a w hS⟩) hS h
 ·exact I7.wpOp (S:=S l a) hi (.inr ⟨hw,rfl⟩) hS h
theorem Mq.of_same {o : Oper} {v : Value} {a a' : Act} (hy : Mq P ops S o v a) (he : execOp a'.eval o = execOp a.eval o)
  (hw : Region.wanted o (yielded ops a'.tmps) = Region.wanted o (yielded ops a.tmps)) : Mq P ops S o v a':=by
 unfold Mq at *
 rw [he,hw]
 exact hy
theorem Pn {j : Nat} {oi oj : Oper} {v : Value} (hj : ops[j]? = some oj) (hap : oi.apart ops oj = true)
  (hsi : ∀ cs b,oi.op ≠ .select cs b) (hsj : ∀ cs b,oj.op ≠ .select cs b)
  (hQ : ∀ c a w,Q (.panic c) (a.put oi.dst v) w → Q (.panic c) a w) {K : Act → World → Prop} {a : Act} {w : World}
  (hy : Mq P ops S oi v a) (h : wpOp P ops Q j K (a.put oi.dst v) w) :
  wpOp P ops Q j (fun a' w' => Mq P ops S oi v a' ∧ K (a'.put oi.dst v) w') a w:=by
 obtain ⟨h1,h2,h3⟩:=Oper.apart_spec hap
 have keep : ∀ (a : Act),Mq P ops S oi v a → ∀ u,Mq P ops S oi v (a.put oj.dst u):=fun a hy u =>
  hy.of_same (execOp_put oi hsi a oj.dst u h3) (wanted_put oi a oj.dst u h3)
 have keepD : ∀ d,Mq P ops S oi v { a with defers:=d :: a.defers }:=fun d => hy.of_same rfl rfl
 unfold wpOp at *
 simp only [hj] at *
 rw [wanted_put oj a oi.dst v h1] at h
 split
 ·rename_i hw
  simp only [hw,if_true] at h
  rcases h with h | ⟨hasks,hlets⟩
  case inr => exact .inr ⟨by unfold Oper.asks at *;rw [execOp_put oj hsj a oi.dst v h1] at hasks;exact hasks,hlets⟩
  refine .inl ?_
  unfold Oper.wp at *
  rw [execOp_put oj hsj a oi.dst v h1] at h
  generalize (execOp a.eval oj).run P w = r at *
  cases r with
  | ok n w' =>
   cases n <;> simp only [Oper.upon] at h ⊢
   case value u => exact ⟨keep a hy u,by rw [← Act.put_comm a v u h2];exact h⟩
   case skip => exact ⟨keep a hy _,by rw [← Act.put_comm a v undef h2];exact h⟩
   case defer d =>
    refine ⟨keep _ (keepD d) _,?_⟩
    rw [← Act.put_comm _ v undef h2, ← Act.put_defers]
    exact h
   case enter f args =>
    refine Calls.mono h fun e w'' he => ?_
    cases e with
    | returned u => exact ⟨keep a hy u,by rw [← Act.put_comm a v u h2];exact he⟩
    | panicked c => exact hQ _ _ _ he
    | outgrown => exact he
   case row row args => exact Rows.mono h fun u w'' he => ⟨keep a hy u,by rw [← Act.put_comm a v u h2];exact he⟩
  | halt x w' =>
   cases x <;> simp only [Oper.upon] at h ⊢
   case panic u => exact hQ _ _ _ h
 ·rename_i hw
  simp only [hw] at h
  exact ⟨keep a hy _,by rw [← Act.put_comm a v undef h2];exact h⟩
def KX (P : Program) (md : Region.Mode) (ops : Array Oper) (Q : Exit → Act → World → Prop) (S : Array Bool → Act → World → Prop) (m : Nat) : Nat → Array Bool → Act → Prop
 | 0,listed,a => Region.ready md ops listed = [] ∧ ∀ w,S listed a w → Q .normal a w
 | fuel + 1,listed,a =>
  (Region.ready md ops listed = [] → ∀ w,S listed a w → Q .normal a w) ∧
  ∀ i ∈ Region.ready md ops listed, ∀ w,S listed a w → wpOp P ops Q i (fun a' w' => (S (listed.setIfInBounds i true) a' w' ∧ KX P md ops Q S m fuel (listed.setIfInBounds i true) a') ∨ (m ≤ i ∧ wpAny P md ops Q fuel (listed.setIfInBounds i true) a' w')) a w
theorem NY : ∀ (fuel : Nat) (listed : Array Bool) (a : Act) (w : World),S listed a w → KX P md ops Q S m fuel listed a → wpAny P md ops Q fuel listed a w
 | 0,_,_,w,hS,h => ⟨h.1,h.2 w hS⟩
 | fuel + 1,_,_,w,hS,h => ⟨fun hr => h.1 hr w hS,fun i hi => wpOp_mono (fun a' w' h' => h'.elim (fun h' => NY fuel _ a' w' h'.1 h'.2) (fun h' => h'.2)) (h.2 i hi w hS)⟩
def Tail (md : Region.Mode) (ops : Array Oper) (m : Nat) : Prop := ∀ (listed : Array Bool) j,m ≤ j → j ∈ Region.ready md ops listed → ∀ i,i ∈ Region.ready md ops listed → i < m → False
theorem PN {i : Nat} {oi : Oper} {v : Value} (hm : Tail md ops m) (him : i < m) (hi : ops[i]? = some oi) (hk : Keeps S i oi.dst) (hsel : ∀ (j : Nat) (o : Oper) cs b,ops[j]? = some o → o.op ≠ .select cs b)
  (hQ : ∀ c a w,Q (.panic c) (a.put oi.dst v) w → Q (.panic c) a w) :
  ∀ (fuel : Nat) (listed : Array Bool) (a : Act),
   (∀ j oj,ops[j]? = some oj → j ≠ i → listed.getD j true = false → (∀ e ∈ oj.after,Region.binds md e = true → e.on ≠ i) → oi.apart ops oj = true) →
   i ∈ Region.ready md ops listed → Mq P ops S oi v a →
   KX P md ops Q S m fuel (listed.setIfInBounds i true) (a.put oi.dst v) → KX P md ops Q S m (fuel + 1) listed a:=by
 intro fuel
 induction fuel with
 | zero =>
  intro listed a _ hr hy H
  refine ⟨fun h => (by rw [h] at hr;cases hr),fun j hj w hS => ?_⟩
  by_cases hji : j = i
  ·subst hji;exact hy.wpOp hi hS (fun w' h' => .inl ⟨(hk _ a v w').2 h',H⟩)
  ·have:=ready_mono hj hji
   rw [H.1] at this
   cases this
 | succ fuel ih =>
  intro listed a hfree hr hy H
  refine ⟨fun h => (by rw [h] at hr;cases hr),fun j hj w hS => ?_⟩
  by_cases hji : j = i
  ·subst hji;exact hy.wpOp hi hS (fun w' h' => .inl ⟨(hk _ a v w').2 h',H⟩)
  ·have hjm : j < m:=Nat.lt_of_not_le fun e => hm listed j e hj i hr him
   have h1:=H.2 j (ready_mono hj hji) w ((hk _ a v w).2 hS)
   obtain ⟨hjun,oj,hoj,hall⟩:=mem_ready.1 hj
   have hnot : ∀ e ∈ oj.after,Region.binds md e = true → e.on ≠ i:=fun e he hb heq => by
    have h1:=hall e he hb
    have h0:=(mem_ready.1 hr).1
    rw [heq] at h1
    rcases Nat.lt_or_ge i listed.size with h' | h'
    ·simp [h'] at h0 h1;rw [h0] at h1;cases h1
    ·simp [Array.getElem?_eq_none h'] at h1
   have h2:=Pn hoj (hfree j oj hoj hji hjun hnot) (fun cs b => hsel i oi cs b hi) (fun cs b => hsel j oj cs b hoj) hQ hy h1
   have hfree' : ∀ k ok,ops[k]? = some ok → k ≠ i → (listed.setIfInBounds j true).getD k true = false →
     (∀ e ∈ ok.after,Region.binds md e = true → e.on ≠ i) → oi.apart ops ok = true:=fun k ok hk hki hun hno => by
    refine hfree k ok hk hki ?_ hno
    by_cases hjk : j = k
    ·subst hjk;exact hjun
    ·rw [getD_set_ne true hjk] at hun;exact hun
   refine wpOp_mono (fun a' w' h3 => ?_) h2
   rcases h3.2 with h4 | h4
   ·rw [Array.setIfInBounds_comm _ _ (Ne.symm hji)] at h4
    exact .inl ⟨(hk _ a' v w').1 h4.1,ih (listed.setIfInBounds j true) a' hfree' (ready_mono hr (Ne.symm hji)) h3.1 h4.2⟩
   ·exact absurd h4.1 (by omega)
def lsd (n : Nat) (done : List Nat) : Array Bool:=((List.range n).map fun j => done.contains j).toArray
theorem Kq (n : Nat) : lsd n [] = Array.replicate n false:=by
 apply Array.ext <;> simp [lsd]
theorem IL (n i : Nat) (done : List Nat) : (lsd n done).setIfInBounds i true = lsd n (i :: done):=by
 apply Array.ext
 ·simp [lsd]
 ·intro j h1 h2
  simp [lsd] at h1
  by_cases e : i = j
  ·subst e;simp [lsd]
  ·simp [lsd,e,Ne.symm e]
theorem Bb {n i s : Nat} {p : Value → World → Prop} {a : Act} {w : World} : Sl i s p (lsd n []) a w:=fun h => by
 rw [Kq] at h
 simp [Array.getD] at h
def JR (ops : Array Oper) (m : Nat) : Bool:=Region.noSelect ops && (List.range ops.size).all fun j => decide (j < m) || match ops[j]? with
 | none => true
 | some o => (List.range m).all fun i => o.after.any fun e => e.on == i && Region.binds .any e
theorem O6 {m : Nat} (h : JR ops m = true) : Tail .any ops m:=by
 intro listed j hmj hj i hi him
 obtain ⟨_,o,ho,hall⟩:=mem_ready.1 hj
 obtain ⟨hiu,oi,hoi,_⟩:=mem_ready.1 hi
 have hjl : j < ops.size:=(Array.getElem?_eq_some_iff.1 ho).1
 have h1:=List.all_eq_true.1 (Bool.and_eq_true_iff.1 h).2 j (by simpa using hjl)
 rw [ho] at h1
 simp only [Bool.or_eq_true,decide_eq_true_eq] at h1
 rcases h1 with h1 | h1
 ·omega
 have h1:=List.all_eq_true.1 h1 i (by simpa using him)
 obtain ⟨e0,he0,h2⟩:=Array.any_eq_true'.1 h1
 simp only [Bool.and_eq_true,beq_iff_eq] at h2
 have h3:=hall e0 he0 h2.2
 rw [h2.1] at h3
 rcases Nat.lt_or_ge i listed.size with h' | h'
 ·simp [h'] at hiu h3;rw [hiu] at h3;cases h3
 ·simp [Array.getElem?_eq_none h'] at h3
def Ga (ops : Array Oper) (m : Nat) (done : List Nat) (i : Nat) : Bool:=Region.free .any ops (lsd ops.size done) i && (Region.ready .any ops (lsd ops.size done)).contains i && decide (done.length < ops.size) && decide (i < m)
def MK (ops : Array Oper) (done : List Nat) (i : Nat) : Bool:=(Region.ready .any ops (lsd ops.size done) == [i]) && decide (done.length < ops.size)
structure Reg (P : Program) (ops : Array Oper) (Q : Exit → Act → World → Prop) (S : Array Bool → Act → World → Prop) (m : Nat) (done : List Nat) (a : Act) : Prop where
 out : KX P .any ops Q S m (ops.size - done.length) (lsd ops.size done) a
structure U6 (P : Program) (ops : Array Oper) (Q : Exit → Act → World → Prop) (done : List Nat) (a : Act) (w : World) : Prop where
 out : wpAny P .any ops Q (ops.size - done.length) (lsd ops.size done) a w
variable {i d : Nat} {o : Oper} {v : Value} {L : List Value} {D : List Deferred} {done : List Nat}
theorem O9 {a : Act} (ht : Ac (JR ops m = true)) (hi : ops.toList[i]? = some o) (hok : Ga ops m done i = true) (hk : Keeps S i o.dst)
  (hQ : ∀ c a w,Q (.panic c) (a.put o.dst v) w → Q (.panic c) a w) (he : Mq P ops S o v a) (h : Reg P ops Q S m (i :: done) (a.put o.dst v)) : Reg P ops Q S m done a:=by
 refine ⟨?_⟩
 have hi' : ops[i]? = some o:=by rw [← Array.getElem?_toList];exact hi
 simp only [Ga,Bool.and_eq_true,decide_eq_true_eq] at hok
 obtain ⟨⟨⟨hf,hr⟩,hl⟩,hm⟩:=hok
 have hs:=(Bool.and_eq_true_iff.1 ht.out).1
 have h1:=h.out
 rw [List.length_cons, ← IL] at h1
 rw [show ops.size - done.length = (ops.size - (done.length + 1)) + 1 by omega]
 exact PN (O6 ht.out) hm hi' hk (Region.noSelect_spec hs) hQ _ _ a (Region.free_spec hi' hf) (by simpa using hr) he h1
theorem F5 (ht : Ac (JR ops m = true)) (hi : ops.toList[i]? = some o) (hok : Ga ops m done i = true) (hd : o.dst = some d) (hk : Keeps S i (some d)) (hw : Region.wanted o (yielded ops L.toArray) = false)
  (hQ : ∀ c a w,Q (.panic c) (a.put o.dst undef) w → Q (.panic c) a w) (h : Reg P ops Q S m (i :: done) ⟨(L.set d undef).toArray,D⟩) : Reg P ops Q S m done ⟨L.toArray,D⟩:=
 O9 ht hi hok (hd ▸ hk) hQ (.inr ⟨hw,rfl⟩) (by rw [hd,Cx];exact h)
theorem Ae (ht : Ac (JR ops m = true)) (hi : ops.toList[i]? = some o) (hok : Ga ops m done i = true) (hd : o.dst = some d) (hk : Keeps S i (some d)) (hw : Region.wanted o (yielded ops L.toArray) = true)
  (hQ : ∀ c a w,Q (.panic c) (a.put o.dst v) w → Q (.panic c) a w) (hr : ∀ l a w,S l a w → (execOp (Act.eval ⟨L.toArray,D⟩) o).run P w = .ok (.value v) w) (h : Reg P ops Q S m (i :: done) ⟨(L.set d v).toArray,D⟩) : Reg P ops Q S m done ⟨L.toArray,D⟩:=
 O9 ht hi hok (hd ▸ hk) hQ (.inl ⟨hw,fun l a w hS => by rw [hr l a w hS];exact ⟨rfl,hS⟩⟩) (by rw [hd,Cx];exact h)
theorem QH {f : FuncId} {fn : Func} {xs : Array Operand} {ts : Array TypeId} {args : Array Value} {a : Act} (hop : o.op = .call { callee:=.value (.func f),args:=xs,argTypes:=ts }) (hf : P.funcs[f]? = some fn) (hname : (fn.name == "runtime.NumGoroutine") = false) (hb : fn.body.isSome = true)
    (hargs : xs.map a.eval = args) (w : World) : (execOp a.eval o).run P w = .ok (.enter f args) w:=by
  have he:=TS hf hname hb args w
  have hv : a.eval (.func f) = .func (.func f) #[] #[]:=rfl
  unfold execOp
  simp [hop,resolve,Deferred.ofValue,invoke,hv,hargs,he]
theorem JU {f : FuncId} {fn : Func} {xs : Array Operand} {ts : Array TypeId} {args : Array Value} (ht : Ac (JR ops m = true)) (hi : ops.toList[i]? = some o) (hok : Ga ops m done i = true)
    (hop : o.op = .call { callee:=.value (.func f),args:=xs,argTypes:=ts }) (hf : P.funcs[f]? = some fn) (hname : (fn.name == "runtime.NumGoroutine") = false) (hb : fn.body.isSome = true) (hd : o.dst = some d) (hk : Keeps S i (some d)) (hw : Region.wanted o (yielded ops L.toArray) = true)
    (hQ : ∀ c a w,Q (.panic c) (a.put o.dst v) w → Q (.panic c) a w) (hargs : xs.map (Act.eval ⟨L.toArray,D⟩) = args)
    (hc : ∀ l a w,S l a w → Calls P f args w fun e w' => e = .returned v ∧ S l a w') (h : Reg P ops Q S m (i :: done) ⟨(L.set d v).toArray,D⟩) : Reg P ops Q S m done ⟨L.toArray,D⟩:=by
  refine O9 (v:=v) ht hi hok (hd ▸ hk) hQ (.inl ⟨hw,fun l a w hS => ?_⟩) (by rw [hd,Cx];exact h)
  rw [QH hop hf hname hb hargs]
  exact hc l a w hS
theorem Po {f : FuncId} {fn : Func} {xs : Array Operand} {ts : Array TypeId} {args : Array Value} {a : Act} {w : World} {K : Act → World → Prop} (hi : ops[i]? = some o)
    (hop : o.op = .call { callee:=.value (.func f),args:=xs,argTypes:=ts }) (hf : P.funcs[f]? = some fn) (hname : (fn.name == "runtime.NumGoroutine") = false) (hb : fn.body.isSome = true) (hw : Region.wanted o (yielded ops a.tmps) = true)
    (hargs : xs.map a.eval = args) (hc : Calls P f args w fun e w' => ∃ v,e = .returned v ∧ K (a.put o.dst v) w') : wpOp P ops Q i K a w:=by
  unfold Go.wpOp
  simp only [hi,hw,if_true]
  refine .inl ?_
  unfold Oper.wp
  rw [QH hop hf hname hb hargs]
  exact Calls.mono hc fun e w' ⟨v,he,h⟩ => by subst he;exact h
theorem Bv {a : Act} {w w1 : World} {K : Act → World → Prop} (hi : ops.toList[i]? = some o) (hw : Region.wanted o (yielded ops a.tmps) = true) (hr : (execOp a.eval o).run P w = .ok .skip w1) (h : K (a.put o.dst undef) w1) : wpOp P ops Q i K a w:=by
 have hi' : ops[i]? = some o:=by rw [← Array.getElem?_toList];exact hi
 unfold Go.wpOp
 simp only [hi',hw,if_true]
 refine .inl ?_
 unfold Oper.wp
 rw [hr]
 exact h
theorem BL {f : FuncId} {fn : Func} {xs : Array Operand} {ts : Array TypeId} {args : Array Value} (G : Value → Prop) (hi : ops.toList[i]? = some o) (hok : MK ops done i = true)
    (hop : o.op = .call { callee:=.value (.func f),args:=xs,argTypes:=ts }) (hf : P.funcs[f]? = some fn) (hname : (fn.name == "runtime.NumGoroutine") = false) (hb : fn.body.isSome = true) (hd : o.dst = some d) (hw : Region.wanted o (yielded ops L.toArray) = true)
    (hargs : xs.map (Act.eval ⟨L.toArray,D⟩) = args)
    (hc : ∀ w,S (lsd ops.size done) ⟨L.toArray,D⟩ w → Calls P f args w fun e w' => ∃ v,e = .returned v ∧ G v ∧ S (lsd ops.size (i :: done)) ⟨(L.set d v).toArray,D⟩ w') (h : ∀ v,G v → Reg P ops Q S m (i :: done) ⟨(L.set d v).toArray,D⟩) : Reg P ops Q S m done ⟨L.toArray,D⟩:=by
  refine ⟨?_⟩
  have hi' : ops[i]? = some o:=by rw [← Array.getElem?_toList];exact hi
  simp only [MK,Bool.and_eq_true,decide_eq_true_eq,beq_iff_eq] at hok
  rw [show ops.size - done.length = (ops.size - (done.length + 1)) + 1 by omega]
  refine ⟨fun h0 => (by rw [hok.1] at h0;cases h0),fun j hj w hS => ?_⟩
  rw [hok.1,List.mem_singleton] at hj
  subst hj
  refine Po hi' hop hf hname hb hw hargs ((hc w hS).mono fun e w' ⟨v,he,hg,hS'⟩ => ⟨v,he, .inl ?_⟩)
  rw [hd,Cx,IL]
  exact ⟨hS',(h v hg).out⟩
theorem JL {a : Act} {w w1 : World} {K : Act → World → Prop} (v : Value) (hi : ops.toList[i]? = some o) (hw : Region.wanted o (yielded ops a.tmps) = true) (hr : (execOp a.eval o).run P w = .ok (.value v) w1) (h : K (a.put o.dst v) w1) : wpOp P ops Q i K a w:=by
 have hi' : ops[i]? = some o:=by rw [← Array.getElem?_toList];exact hi
 unfold Go.wpOp
 simp only [hi',hw,if_true]
 refine .inl ?_
 unfold Oper.wp
 rw [hr]
 exact h
theorem BI {w w1 : World} {K : Act → World → Prop} (v : Value) (hi : ops.toList[i]? = some o) (hd : o.dst = some d) (hw : Region.wanted o (yielded ops L.toArray) = true) (hr : (execOp (Act.eval ⟨L.toArray,D⟩) o).run P w = .ok (.value v) w1) (h : K ⟨(L.set d v).toArray,D⟩ w1) : wpOp P ops Q i K ⟨L.toArray,D⟩ w:=
 JL v hi hw hr (by rw [hd,Cx];exact h)
theorem D8 {f : FuncId} {fn : Func} {xs : Array Operand} {ts : Array TypeId} {args : Array Value} {w : World} {K : Act → World → Prop} (hi : ops.toList[i]? = some o)
    (hop : o.op = .call { callee:=.value (.func f),args:=xs,argTypes:=ts }) (hf : P.funcs[f]? = some fn) (hname : (fn.name == "runtime.NumGoroutine") = false) (hb : fn.body.isSome = true) (hd : o.dst = some d) (hw : Region.wanted o (yielded ops L.toArray) = true)
    (hargs : xs.map (Act.eval ⟨L.toArray,D⟩) = args) (hc : Calls P f args w fun e w' => ∃ v,e = .returned v ∧ K ⟨(L.set d v).toArray,D⟩ w') : wpOp P ops Q i K ⟨L.toArray,D⟩ w:=by
  have hi' : ops[i]? = some o:=by rw [← Array.getElem?_toList];exact hi
  refine Po hi' hop hf hname hb hw hargs (hc.mono fun e w' ⟨v,he,h⟩ => ⟨v,he,?_⟩)
  rw [hd,Cx]
  exact h
theorem AR {a : Act} (l : List Nat) (hok : (Region.ready .any ops (lsd ops.size done) == l && !l.isEmpty && decide (done.length < ops.size)) = true) (h : ∀ i ∈ l, ∀ w,S (lsd ops.size done) a w → wpOp P ops Q i (fun a' w' => S (lsd ops.size (i :: done)) a' w' ∧ Reg P ops Q S m (i :: done) a') a w) : Reg P ops Q S m done a:=by
 refine ⟨?_⟩
 simp only [Bool.and_eq_true,decide_eq_true_eq,beq_iff_eq,Bool.not_eq_true'] at hok
 rw [show ops.size - done.length = (ops.size - (done.length + 1)) + 1 by omega]
 refine ⟨fun h0 => (by rw [hok.1.1] at h0;rw [h0] at hok;simp at hok),fun j hj w hS => ?_⟩
 rw [hok.1.1] at hj
 refine wpOp_mono (fun a' w' h' => .inl ?_) (h j hj w hS)
 rw [IL]
 exact ⟨h'.1,h'.2.out⟩
theorem Cb {a : Act} (hok : MK ops done i = true) (hm : decide (m ≤ i) = true) (h : ∀ w,S (lsd ops.size done) a w → wpOp P ops Q i (fun a' w' => U6 P ops Q (i :: done) a' w') a w) : Reg P ops Q S m done a:=by
 refine ⟨?_⟩
 simp only [MK,Bool.and_eq_true,decide_eq_true_eq,beq_iff_eq] at hok hm
 rw [show ops.size - done.length = (ops.size - (done.length + 1)) + 1 by omega]
 refine ⟨fun h0 => (by rw [hok.1] at h0;cases h0),fun j hj w hS => ?_⟩
 rw [hok.1,List.mem_singleton] at hj
 subst hj
 refine wpOp_mono (fun a' w' h' => .inr ⟨hm,?_⟩) (h w hS)
 rw [IL]
 exact h'.out
theorem L9 {a : Act} {w : World} (hok : MK ops done i = true) (h : wpOp P ops Q i (fun a' w' => U6 P ops Q (i :: done) a' w') a w) : U6 P ops Q done a w:=by
 refine ⟨?_⟩
 simp only [MK,Bool.and_eq_true,decide_eq_true_eq,beq_iff_eq] at hok
 rw [show ops.size - done.length = (ops.size - (done.length + 1)) + 1 by omega]
 refine ⟨fun h0 => (by rw [hok.1] at h0;cases h0),fun j hj => ?_⟩
 rw [hok.1,List.mem_singleton] at hj
 subst hj
 refine wpOp_mono (fun a' w' h' => ?_) h
 rw [IL]
 exact h'.out
def WM (ops : Array Oper) (done : List Nat) : Bool:=Region.ready .any ops (lsd ops.size done) == []
theorem BP {a : Act} {w : World} (hok : WM ops done = true) (h : Q .normal a w) : U6 P ops Q done a w:=by
 refine ⟨?_⟩
 have hr:=beq_iff_eq.1 hok
 generalize ops.size - done.length = n
 cases n with
 | zero => exact ⟨hr,h⟩
 | succ n => exact ⟨fun _ => h,fun i hi => by rw [hr] at hi;cases hi⟩
theorem AY {id : Nat} {a : Act} {w : World} (S : Array Bool → Act → World → Prop) (m : Nat) (hm : P.follows .mixedOrders = true) (ht : JR ops m = true) (hS : S (lsd ops.size []) a w.drew)
  (h : Ac (JR ops m = true) → Reg P ops Q S m [] a) : (Code.region id ops true).wp P Q a w:=by
 have h1:=(h ⟨ht⟩).out
 rw [Kq] at h1 hS
 exact wp_region_any hm (NY _ _ _ _ hS h1)
end
end Go.Proofs.YtklmhkglcfjclaaGreat
namespace Go.Proofs.YtklmhkglcfjclaaGreat
open Go.RowKit Go.Proofs.YtklmhkglcfjclaaGreatW.PrintWords Go.Proofs.YtklmhkglcfjclaaGreatW.PrintLast Go.Proofs.YtklmhkglcfjclaaGreatW.PrintMore
abbrev Page.own (p : Page) (v : Value) : Value:=.agg #[.int .i64 p.lsn, .int .i64 p.owner,v]
def P9 (w : World) (p : Page) (e : Ending) (w' : World) : Prop := ∃ v,e = .returned (p.own v) ∧ AU w' w.heap.size v p.vals ∧ Below w.heap.size w w'
abbrev CO : Obj:=.cells #[.int .i64 0, .int .i64 0, .slice none 0 0] 47
theorem Wx (w : World) (p : Page) (A : Option Addr) (c : Nat) : Lu ((w.alloc (p.box A c)).alloc CO) ⟨w.heap.size,0,none⟩ p A c:=(Xj w p A c).up ((Below.refl _ _).alloc (Nat.le_refl _) _)
def Ba (w : World) (g : Nat) (p : Page) (v : Value) : Prop:=w.heap[g]? = some (.cells #[.int .i64 p.lsn, .int .i64 p.owner,v] 47 (0,0))
theorem Ba.c0 {w : World} {g : Nat} {p : Page} {v : Value} (h : Ba w g p v) : w.cell? ⟨g,0,none⟩ = some (.int .i64 p.lsn):=by unfold Ba at h;simp [World.cell?,h]
theorem Ba.c1 {w : World} {g : Nat} {p : Page} {v : Value} (h : Ba w g p v) : w.cell? ⟨g,1,none⟩ = some (.int .i64 p.owner):=by unfold Ba at h;simp [World.cell?,h]
theorem Ba.c2 {w : World} {g : Nat} {p : Page} {v : Value} (h : Ba w g p v) : w.cell? ⟨g,2,none⟩ = some v:=by unfold Ba at h;simp [World.cell?,h]
theorem Ba.frz {w : World} {g : Nat} {p : Page} {v : Value} (h : Ba w g p v) (k : Nat) : w.frozen? ⟨g,k,none⟩ = false:=by unfold Ba at h;simp [World.frozen?,h]
theorem Ba.up {w w1 : World} {g : Nat} {p : Page} {v : Value} (h : Ba w g p v) (hb : Below w.heap.size w w1) : Ba w1 g p v:=by
 have hg : g < w.heap.size:=(Array.getElem?_eq_some_iff.1 h).1
 exact (hb.block g hg).trans h
theorem Ba.mk1 (w : World) (p : Page) (v : Value) : Ba (w.alloc (.cells #[.int .i64 p.lsn, .int .i64 p.owner,v] 47)) w.heap.size p v:=by
 show (w.heap.push _)[w.heap.size]? = _
 simp
theorem heap_setCell_same {w : World} {g j : Nat} {cs : Array Value} {t : TypeId} {f : Nat × Nat} (h : w.heap[g]? = some (.cells cs t f)) (u : Value) : (w.setCell ⟨g,j,none⟩ u).heap[g]? = some (.cells (cs.setIfInBounds j u) t f):=by
 simp only [World.setCell,Array.getElem?_modify,h]
 simp
theorem Ba.set0 {w : World} {g : Nat} {p : Page} {v : Value} (h : Ba w g p v) (x : Int) : Ba (w.setCell ⟨g,0,none⟩ (.int .i64 x)) g ⟨x,p.owner,p.vals⟩ v:=heap_setCell_same h _
theorem Ba.set1 {w : World} {g : Nat} {p : Page} {v : Value} (h : Ba w g p v) (x : Int) : Ba (w.setCell ⟨g,1,none⟩ (.int .i64 x)) g ⟨p.lsn,x,p.vals⟩ v:=heap_setCell_same h _
theorem Ba.set2 {w : World} {g : Nat} {p : Page} {v : Value} (h : Ba w g p v) (x : Value) : Ba (w.setCell ⟨g,2,none⟩ x) g p x:=heap_setCell_same h _
def zp : Page:=⟨0,0, []⟩
theorem RD (w : World) (p : Page) (A : Option Addr) (c : Nat) : Ba ((w.alloc (p.box A c)).alloc CO) (w.heap.size + 1) zp (.slice none 0 0):=by
 have:=Ba.mk1 (w.alloc (p.box A c)) zp (.slice none 0 0)
 rwa [show (w.alloc (p.box A c)).heap.size = w.heap.size + 1 by simp] at this
theorem AU.set {w : World} {b g : Nat} {v : Value} {xs : List Int} (h : AU w b v xs) (hg : g < b) (u : Value) (j : Nat) : AU (w.setCell ⟨g,j,none⟩ u) b v xs:=ownsRow_setCell_below h hg u
abbrev CK (w : World) (g : Nat) (p : Page) (v : Value) : World:=((w.setCell ⟨g,0,none⟩ (.int .i64 p.lsn)).setCell ⟨g,1,none⟩ (.int .i64 p.owner)).setCell ⟨g,2,none⟩ v
theorem Ba.CK {w : World} {g : Nat} {q : Page} {u : Value} (h : Ba w g q u) (p : Page) (v : Value) : Ba (CK w g p v) g p v:=((h.set0 p.lsn).set1 p.owner).set2 v
theorem AU.CK {w : World} {b g : Nat} {v : Value} {xs : List Int} (h : AU w b v xs) (hg : g < b) (p : Page) (u : Value) : AU (CK w g p u) b v xs:=((h.set hg _ _).set hg _ _).set hg _ _
theorem CB {w0 w : World} {g : Nat} (h : Below w0.heap.size w0 w) (hg : w0.heap.size ≤ g) (p : Page) (u : Value) : Below w0.heap.size w0 (CK w g p u):=((h.setCell (p:=⟨g,0,none⟩) hg _).setCell (p:=⟨g,1,none⟩) hg _).setCell (p:=⟨g,2,none⟩) hg _
theorem XE (w : World) (p : Page) (A : Option Addr) (c : Nat) : w.heap.size + 2 ≤ ((w.alloc (p.box A c)).alloc CO).drew.heap.size:=by simp
theorem RB (w : World) (p : Page) (A : Option Addr) (c : Nat) : Below w.heap.size w ((w.alloc (p.box A c)).alloc CO):=bj (NT w p A c) ((Below.refl _ _).alloc (Nat.le_refl _) _)
set_option maxRecDepth 100000 in
set_option maxHeartbeats 4000000 in
theorem FX {w0 w : World} {A : Option Addr} {c : Nat} {p : Page} (hl : p.vals.length ≤ 17592186044416) (hb : Below w0.heap.size w0 w) (hr : Kd.C (Kd.int .i64) w0 A p.vals.length p.vals) : Calls Tryz.prog 101 #[p.val A c] w (P9 w p):=by
 have HR:=As (BF hr hb)
 have HL:=As hl
 have HA:=As (Wx w p A c)
 have HB:=As (RB w p A c)
 have HA2:=As (RD w p A c)
 clear hr hb hl
 go_enter Tryz.func101,Tryz.ntmps101
 go_wp2
 refine AY (fun lx a wx => (Below w.heap.size w wx ∧ w.heap.size + 2 ≤ wx.heap.size ∧ Lu wx ⟨w.heap.size,0,none⟩ p A c ∧ Ba wx (w.heap.size + 1) zp (.slice none 0 0)) ∧ Sl 6 9 (fun v wx => AU wx (w.heap.size + 2) v p.vals) lx a wx) 8 rfl (by kernel_rfl) (⟨⟨Ak HB.out,XE w p A c,HA.out.up (Ak (Below.refl _ _)),HA2.out.up (Ak (Below.refl _ _))⟩,Bb⟩) (fun HT => ?_)
 refine Ae (i:=0) (v:=?_) HT rfl (by kernel_rfl) rfl (kA Aa (Ab rfl rfl)) (by rfl) (fun _ _ _ h => h) (fun lx ax wx hS => ?_) ?_;rotate_left;(obtain ⟨⟨-, -,⟨x0,x1,x2⟩, -⟩, -⟩:=hS;go_simp;with_reducible rfl);rotate_left;simp only [sc0,sc1]
 refine Ae (i:=1) (v:=?_) HT rfl (by kernel_rfl) rfl (kA Aa (Ab rfl rfl)) (by rfl) (fun _ _ _ h => h) (fun lx ax wx hS => ?_) ?_;rotate_left;(obtain ⟨⟨-, -,⟨x0,x1,x2⟩, -⟩, -⟩:=hS;go_simp;with_reducible rfl);rotate_left;simp only [sc0,sc1]
 refine Ae (i:=2) (v:=?_) HT rfl (by kernel_rfl) rfl (kA Aa (Ab rfl rfl)) (by rfl) (fun _ _ _ h => h) (fun lx ax wx hS => ?_) ?_;rotate_left;(obtain ⟨⟨-, -,⟨x0,x1,x2⟩, -⟩, -⟩:=hS;go_simp;with_reducible rfl);rotate_left;simp only [sc0,sc1]
 refine Ae (i:=3) (v:=?_) HT rfl (by kernel_rfl) rfl (kA Aa (Ab rfl rfl)) (by rfl) (fun _ _ _ h => h) (fun lx ax wx hS => ?_) ?_;rotate_left;(obtain ⟨⟨-, -,⟨x0,x1,x2⟩, -⟩, -⟩:=hS;go_simp;with_reducible rfl);rotate_left;simp only [sc0,sc1]
 refine Ae (i:=4) (v:=?_) HT rfl (by kernel_rfl) rfl (kA Aa (Ab rfl rfl)) (by rfl) (fun _ _ _ h => h) (fun lx ax wx hS => ?_) ?_;rotate_left;(obtain ⟨⟨-, -,⟨x0,x1,x2⟩, -⟩, -⟩:=hS;go_simp;with_reducible rfl);rotate_left;simp only [sc0,sc1]
 refine Ae (i:=5) (v:=?_) HT rfl (by kernel_rfl) rfl (kA Aa (Ab rfl rfl)) (by rfl) (fun _ _ _ h => h) (fun lx ax wx hS => ?_) ?_;rotate_left;(obtain ⟨⟨-, -,⟨x0,x1,x2⟩, -⟩, -⟩:=hS;go_simp;with_reducible rfl);rotate_left;simp only [sc0,sc1]
 refine BL (i:=6) (f:=154) (args:=#[.slice A p.vals.length c]) (fun v => ∃ A1 c1,v = .slice A1 p.vals.length c1) rfl (by kernel_rfl) rfl Tryz.func154 (by kernel_rfl) rfl rfl (by rfl) (by simp only [List.map_toArray,List.map_cons,List.map_nil];rfl) (fun wx hS => (Ny HL.out hS.1.1 HR.out).mono (by rintro e w1 ⟨v,rfl,ho,hb⟩;obtain ⟨A1,c1,rfl, -, -⟩:=ho.reads;exact ⟨_,rfl,⟨A1,c1,rfl⟩,⟨bj hS.1.1 hb,by have:=hS.1.2.1;have:=hb.size;omega,hS.1.2.2.1.up hb,hS.1.2.2.2.up hb⟩,fun _ => ho.lower hS.1.2.1⟩)) (fun vx hg => ?_);simp only [sc0,sc1]
 obtain ⟨A1,c1,rfl⟩:=hg
 refine Ae (i:=7) (v:=?_) HT rfl (by kernel_rfl) rfl (kA Aa (Ab rfl rfl)) (by rfl) (fun _ _ _ h => h) (fun lx ax wx hS => ?_) ?_;rotate_left;(go_simp;with_reducible rfl);rotate_left;simp only [sc0,sc1]
 refine Cb (i:=8) (by kernel_rfl) rfl (fun wx hS => ?_)
 obtain ⟨⟨h1,h2, -,hy⟩,hs⟩:=hS
 have ho : AU wx (w.heap.size + 2) (.slice A1 p.vals.length c1) p.vals:=hs (by kernel_rfl)
 clear hs
 have y0:=hy.c0
 have y1:=hy.c1
 have y2:=hy.c2
 have f0:=hy.frz 0
 have f1:=hy.frz 1
 have f2:=hy.frz 2
 refine Bv (w1:=?_) rfl (by rfl) ?_ ?_
 rotate_left
 ·go_simp
  with_reducible rfl
 have hy2:=((hy.set0 p.lsn).set1 p.owner).set2 (.slice A1 p.vals.length c1)
 have ho2:=(((ho.set (g:=w.heap.size + 1) (by omega) (Value.int .i64 p.lsn) 0).set (g:=w.heap.size + 1) (by omega) (Value.int .i64 p.owner) 1).set (g:=w.heap.size + 1) (by omega) (.slice A1 p.vals.length c1) 2)
 have h3:=((h1.setCell (p:=⟨w.heap.size + 1,0,none⟩) (by simp) (Value.int .i64 p.lsn)).setCell (p:=⟨w.heap.size + 1,1,none⟩) (by simp) (Value.int .i64 p.owner)).setCell (p:=⟨w.heap.size + 1,2,none⟩) (by simp) (.slice A1 p.vals.length c1)
 have z0:=hy2.c0
 have z1:=hy2.c1
 have z2:=hy2.c2
 refine BP (by kernel_rfl) ?_
 go_wp2
 exact bodyPost_ret (v:=p.own (.slice A1 p.vals.length c1)) (by simp [results,Tryz.results101,go_sem,z0,z1,z2]) rfl ⟨_,rfl,ho2.lower (by omega),h3⟩
abbrev KW (w : World) (base : Nat) (v : Value) (ps : List Page) : Prop:=Kd.R Dc 47 w base (fun _ => True) v ps
abbrev CS (w : World) (base : Nat) (ok : Nat → Prop) (v : Value) (ps : List Page) : Prop:=Kd.S Dc 47 w base ok v ps
abbrev EP (w : World) (base : Nat) (v : Value) (ps : List Page) : Prop:=CS w base (fun _ => True) v ps
def OG (w : World) (ps : List Page) (e : Ending) (w' : World) : Prop := ∃ v,e = .returned v ∧ EP w' w.heap.size v ps ∧ Below w.heap.size w w'
theorem UG : (Tryz.prog.info? 47).map (fun i => (i.zero,i.size,i.bytes)) = some (some (.agg #[.int .i64 0, .int .i64 0, .slice none 0 0]),3,40):=by kernel_rfl
theorem QC : Tryz.prog.underlying 27 = some (.slice 47):=Tryz.underlying27
theorem Wm {xs : List Page} {k : Nat} (h : k < xs.length) : xs.drop k = pg xs k :: xs.drop (k + 1):=by
 rw [List.drop_eq_getElem_cons h]
 simp [pg,List.getD_eq_getElem?_getD,h]
theorem TD {xs : List Page} {k : Nat} (h : k < xs.length) : xs.take (k + 1) = xs.take k ++ [pg xs k]:=by
 rw [List.take_add_one]
 simp [pg,List.getD_eq_getElem?_getD,h]
theorem XI {w : World} {base : Nat} {v : Value} {ps : List Page} (h : KW w base v ps) : ∀ k,v.ownBlock = some k → k < w.heap.size:=by
 obtain ⟨inner,ho⟩:=Kd.KV h
 exact fun k hk => Og ho k hk
theorem X7 {w : World} {base : Nat} {ok : Nat → Prop} {v : Value} {ps : List Page} (h : CS w base ok v ps) : ∀ k,v.ownBlock = some k → k < w.heap.size:=Kd.Y6 h
theorem LK {w : World} {base : Nat} {ok : Nat → Prop} {v : Value} {ps : List Page} (h : CS w base ok v ps) : ∀ k,v.ownBlock = some k → ok k:=by
 obtain ⟨f,h0,_⟩:=h
 exact h0
section
variable {ops : Array Oper} {rest : List Oper} {o : Oper} {a : Act} {Q : Exit → Act → World → Prop}
theorem GH {w0 W : World} {N : Nat} {v u : Value} {ps : List Page} {p : Page} (hgd : o.guard = none) (s x : Operand)
  (ho : o.op = .call { callee:=.builtin .append,args:=#[s,x],argTypes:=#[27,27] }) (hs : a.eval s = v) (hx : a.eval x = .slice (some ⟨W.heap.size,0,none⟩) 1 1)
  (hp : AU W N u p.vals) (HO : CS W w0.heap.size (fun k => True ∧ k < N) v ps) (HB : Below w0.heap.size w0 W) (hl : ps.length + 1 ≤ 1000) (hN : w0.heap.size ≤ N)
  (h : ∀ v1 w1,EP w1 w0.heap.size v1 (ps ++ [p]) → Below w0.heap.size w0 w1 → wpList Tryz.prog ops Q rest (a.put o.dst v1) w1) :
  wpList Tryz.prog ops Q (o :: rest) a (W.alloc (.cells #[.int .i64 p.lsn, .int .i64 p.owner,u] 47)):=by
 have hv:=LK HO
 refine Kd.RL Dc w0.heap.size hgd s x 27 47 _ 40 ho QC UG rfl (by decide) (by decide) v ps p [.int .i64 p.lsn, .int .i64 p.owner,u] (fun _ => True) (fun k => some k = u.ownBlock) hs hx ?_ (fun k hk => ⟨trivial,fun e => ?_⟩) (fun _ _ => trivial) (Kd.Dx HO (fun k hk => ⟨trivial,fun e => ?_⟩)) HB HB.size (by omega) (fun v1 w1 h1 h2 _ _ => h v1 w1 h1 h2)
 ·exact IW W _ _ p (Kd.EO (Ef hp hN) (fun k hk => hk.symm))
 ·have h1:=Cm hp k hk.symm
  have h2:=(hv k e.symm).2
  omega
 ·have h1:=Cm hp k e.symm
  have h2:=hk.2
  omega
end
def NR (ps : List Page) : Prop := ∀ p ∈ ps,p.vals.length ≤ 17592186044416
theorem VA {ps : List Page} (h : NR ps) {k : Nat} (hk : k < ps.length) : (pg ps k).vals.length ≤ 17592186044416:=h _ (by simp [pg,List.getD_eq_getElem?_getD,hk])
set_option maxHeartbeats 4000000 in
theorem ET {w0 w : World} {A : Option Addr} {c : Nat} {ps : List Page} (hf : NR ps) (hn : ps.length ≤ 150) (hb : Below w0.heap.size w0 w) (hr : Kd.C Dc w0 A ps.length ps) : Calls Tryz.prog 47 #[.slice A ps.length c] w (OG w ps):=by
 have HR:=As (BF hr hb)
 have HF:=As hf
 clear hr hb hf
 go_enter Tryz.func47,Tryz.ntmps47
 go_wp2
 go_loopw [3,8] (fun v i wr => ∃ k : Nat,k ≤ ps.length ∧ i = .int .i64 (k : Int) ∧ Ac (EP wr w.heap.size v (ps.take k)) ∧ Ac (Below w.heap.size w wr)) (fun _ i _ => (ps.length - intOf i).toNat)
 case atStart => exact ⟨0,Nat.zero_le _,rfl,⟨Kd.U4 _ _ _ _ _⟩,⟨Below.refl _ _⟩⟩
 case round =>
  obtain ⟨k,hk,rfl,HO,HW⟩:=hrel
  have hm : ps.length ≤ 9223372036854775807:=(Co HR.out).2
  by_cases hlt : k < ps.length
  ·obtain ⟨ad,A2,c2,rfl,QP, -,g2⟩:=Ei (BF HR.out HW.out) k hlt
   obtain ⟨x0,x1,x2⟩:=QP
   have HG:=As g2
   have HFk:=As (VA HF.out hlt)
   have HN:=As hn
   clear g2 hn
   go_wp2_with (first | (go_at_call 101;refine (FX (w0:=wr) HFk.out (by go_grown) HG.out).mono ?_;rintro e w2 ⟨v,rfl,ho,hb2⟩;have HOv:=As (ho.lower (b':=wr.heap.size) (by simp));have HW2:=As (bj ((Below.refl _ wr).alloc (Nat.le_refl _) _) hb2);have HO2:=As (Kd.EG HO.out HW2.out);clear ho hb2) | (at_builtin;refine GH (p:=pg ps k) rfl (.tmp 12) (.tmp 15) rfl rfl rfl HOv.out HO2.out (bj HW.out HW2.out) (by have:=HN.out;simp;omega) HW.out.size ?_;intro v1 w3 hR hb3;have HR3:=As hR;have HW3:=As hb3;clear hR hb3))
   go_roundw
   case rel => exact ⟨k + 1,by omega,by go_num,⟨by rw [TD hlt];exact HR3.out⟩,HW3⟩
   case measure => simp [intOf];omega
  ·have HE:=As (show k = ps.length by omega)
   go_wp2
   go_ret
   exact ⟨_,rfl,by have:=HO.out;rwa [HE.out,List.take_length] at this,HW.out⟩
end Go.Proofs.YtklmhkglcfjclaaGreat
namespace Go.Proofs.YtklmhkglcfjclaaGreat
open Go.RowKit Go.Proofs.YtklmhkglcfjclaaGreatW.PrintWords Go.Proofs.YtklmhkglcfjclaaGreatW.PrintLast Go.Proofs.YtklmhkglcfjclaaGreatW.PrintMore
theorem Vf (W : World) (base : Nat) (e : TypeId) (size : Nat) (hb : base ≤ W.heap.size) : (W.alloc (.cells #[] e)).ownsRow base e size (.slice (some ⟨W.heap.size,0,none⟩) 0 0) 0 []:=by
 refine ⟨by simp, .inr ⟨W.heap.size,0,#[],rfl,hb,?_,?_⟩⟩
 ·show (W.heap.push _)[W.heap.size]? = _
  simp
 ·simp
theorem own_none' {W : World} {g base : Nat} (e : TypeId) (size : Nat) (hg : g = W.heap.size) (hb : base ≤ W.heap.size) : (W.alloc (.cells #[] e)).ownsRow base e size (.slice (some ⟨g,0,none⟩) 0 0) 0 []:=hg ▸ Vf W base e size hb
theorem Xi (w : World) (p : Page) (A : Option Addr) (c : Nat) : Ba ((w.alloc (p.box A c)).alloc CO) w.heap.size p (.slice A p.vals.length c):=(Ba.mk1 w p _).up ((Below.refl _ _).alloc (Nat.le_refl _) _)
theorem X3 (w : World) (p : Page) (A : Option Addr) (c : Nat) : ((w.alloc (p.box A c)).alloc CO).heap.size = w.heap.size + 2:=by simp
theorem Ba.far {w : World} {g h : Nat} {p : Page} {v : Value} (hy : Ba w g p v) (hne : h ≠ g) (j : Nat) (u : Value) : Ba (w.setCell ⟨h,j,none⟩ u) g p v:=(Below.heap_setCell w ⟨h,j,none⟩ u g (Ne.symm hne)).trans hy
set_option maxRecDepth 100000 in
set_option maxHeartbeats 4000000 in
theorem FQ {w0 w : World} {A : Option Addr} {c : Nat} {p : Page} (hl : p.vals.length ≤ 17592186044416) (hb : Below w0.heap.size w0 w) (hr : Kd.C (Kd.int .i64) w0 A p.vals.length p.vals) : Calls Tryz.prog 149 #[p.val A c] w (P9 w p):=by
 have HR:=As (BF hr hb)
 have HL:=As hl
 have HA:=As (Xi w p A c)
 have HB:=As (RB w p A c)
 have HA2:=As (RD w p A c)
 have HZ:=As (X3 w p A c)
 clear hr hb hl
 obtain ⟨W2,hW2⟩ : ∃ W2,(w.alloc (p.box A c)).alloc CO = W2:=⟨_,rfl⟩
 have HW2:=As hW2
 rw [hW2] at HA HB HA2 HZ
 clear hW2
 go_enter Tryz.func149,Tryz.ntmps149
 go_wp2_with (at_builtin;go_loud (rw [HW2.out]);go_loud (refine MH (w0:=W2) W2.heap.size rfl (.tmp 3) (.tmp 5) 42 3 .i64 8 rfl Ee FR (by omega) _ [] p.vals A p.vals.length c rfl rfl (own_none' 3 1 HZ.out.symm (Nat.le_refl _)) (Kd.Ob (enc:=Value.int .i64) (d:=(0 : Int)) (h1:=fun _ => rfl) (BF HR.out (bj HB.out ((Below.refl _ _).alloc (Nat.le_refl _) _)))) ((Below.refl _ _).alloc (Nat.le_refl _) _) (by simp) (by have:=HL.out;simp;omega) ?_);intro v1 w1 hown hb1 _ _;have hown : AU w1 W2.heap.size v1 p.vals:=hown;obtain ⟨A1,c1,rfl, -, -⟩:=hown.reads;have HO:=As hown;have HA1:=As (HA.out.up hb1);have HA3:=As (HA2.out.up hb1);have HB1:=As (bj HB.out hb1);have x0:=HA1.out.c0;have x1:=HA1.out.c1;have x2:=HA1.out.c2;have x3:=HA1.out.frz 2;have y0:=HA3.out.c0;have y1:=HA3.out.c1;have y2:=HA3.out.c2;have f0:=HA3.out.frz 0;have f1:=HA3.out.frz 1;have f2:=HA3.out.frz 2;clear hown hb1)
 have HA5:=As (HA1.out.set2 (.slice A1 p.vals.length c1))
 have ho1:=HO.out
 rw [HZ.out] at ho1
 have ho2:=ho1.set (g:=w.heap.size) (by omega) (.slice A1 p.vals.length c1) 2
 have h2:=HB1.out.setCell (p:=⟨w.heap.size,2,none⟩) (by simp) (.slice A1 p.vals.length c1)
 have ho3:=ho2.CK (g:=w.heap.size + 1) (by omega) p (.slice A1 p.vals.length c1)
 have h3:=CB (g:=w.heap.size + 1) h2 (by omega) p (.slice A1 p.vals.length c1)
 have hy:=Ba.CK (show Ba (w1.setCell ⟨w.heap.size,2,none⟩ (.slice A1 p.vals.length c1)) (w.heap.size + 1) zp (.slice none 0 0) from HA3.out.far (by omega) _ _) p (.slice A1 p.vals.length c1)
 have z0:=hy.c0
 have z1:=hy.c1
 have z2:=hy.c2
 exact bodyPost_ret (v:=p.own (.slice A1 p.vals.length c1)) (by simp [results,Tryz.results149,go_sem,z0,z1,z2]) rfl ⟨_,rfl,ho3.lower (by omega),h3⟩
theorem QS {W : World} {g base : Nat} (hg : g = W.heap.size) (hb : base ≤ W.heap.size) : EP (W.alloc (.cells #[] 47)) base (.slice (some ⟨g,0,none⟩) 0 0) []:=⟨fun _ => 0,fun _ _ => trivial, [],own_none' _ 3 hg hb,Reps.none _ _⟩
set_option maxHeartbeats 4000000 in
theorem Dw {w0 w : World} {A : Option Addr} {c : Nat} {ps : List Page} (hf : NR ps) (hn : ps.length ≤ 150) (hb : Below w0.heap.size w0 w) (hr : Kd.C Dc w0 A ps.length ps) : Calls Tryz.prog 88 #[.slice A ps.length c] w (OG w ps):=by
 have HR:=As (BF hr hb)
 have HF:=As hf
 clear hr hb hf
 go_enter Tryz.func88,Tryz.ntmps88
 go_wp2
 go_loopw [3,4] (fun v i wr => ∃ k : Nat,k ≤ ps.length ∧ i = .int .i64 (k : Int) ∧ Ac (EP wr w.heap.size v (ps.take k)) ∧ Ac (Below w.heap.size w wr)) (fun _ i _ => (ps.length - intOf i).toNat)
 case atStart => exact ⟨0,Nat.zero_le _,rfl,⟨QS rfl (Nat.le_refl _)⟩,⟨(Below.refl _ _).alloc (Nat.le_refl _) _⟩⟩
 case round =>
  obtain ⟨k,hk,rfl,HO,HW⟩:=hrel
  have hm : ps.length ≤ 9223372036854775807:=(Co HR.out).2
  by_cases hlt : k < ps.length
  ·obtain ⟨ad,A2,c2,rfl,QP, -,g2⟩:=Ei (BF HR.out HW.out) k hlt
   obtain ⟨x0,x1,x2⟩:=QP
   have HG:=As g2
   have HFk:=As (VA HF.out hlt)
   have HN:=As hn
   clear g2 hn
   go_wp2_with (first | (go_at_call 149;refine (FQ (w0:=wr) HFk.out (Below.refl _ _) HG.out).mono ?_;rintro e w2 ⟨v,rfl,ho,hb2⟩;have HOv:=As ho;have HW2:=As hb2;have HO2:=As (Kd.EG HO.out HW2.out);clear ho hb2) | (at_builtin;refine GH (p:=pg ps k) rfl (.tmp 12) (.tmp 18) rfl rfl rfl HOv.out HO2.out (bj HW.out HW2.out) (by have:=HN.out;simp;omega) HW.out.size ?_;intro v1 w3 hR hb3;have HR3:=As hR;have HW3:=As hb3;clear hR hb3))
   go_roundw
   case rel => exact ⟨k + 1,by omega,by go_num,⟨by rw [TD hlt];exact HR3.out⟩,HW3⟩
   case measure => simp [intOf];omega
  ·have HE:=As (show k = ps.length by omega)
   go_wp2
   go_ret
   exact ⟨_,rfl,by have:=HO.out;rwa [HE.out,List.take_length] at this,HW.out⟩
def Bj (p : Page) (r : Rec) : Page:=if 0 ≤ r.slot then ⟨p.lsn,p.owner,p.vals.set r.slot.toNat r.new⟩ else if r.new = 0 then ⟨p.lsn,0, [0,0,0]⟩ else ⟨p.lsn,r.new,p.vals⟩
abbrev Rec.box (r : Rec) : Obj:=.cells #[.int .i64 r.kind, .int .i64 r.tx, .int .i64 r.page, .int .i64 r.slot, .int .i64 r.old, .int .i64 r.new, .int .i64 r.prev, .int .i64 r.next] 54
theorem GD (w : World) (r : Rec) : Gu (w.alloc r.box) ⟨w.heap.size,0,none⟩ r:=⟨by go_simp,by go_simp,by go_simp,by go_simp,by go_simp,by go_simp,by go_simp,by go_simp⟩
theorem Ah {w0 w : World} (h : Below w0.heap.size w0 w) (o : Obj) : Below w0.heap.size w0 (w.alloc o):=h.alloc h.size o
theorem BK (w : World) (o : Obj) : (w.alloc o).heap.size = w.heap.size + 1:=by simp
theorem AU.lt {w : World} {b k : Nat} {v : Value} {xs : List Int} (h : AU w b v xs) (hk : v.ownBlock = some k) : k < w.heap.size:=Og h k hk
theorem AU.base {w : World} {b k : Nat} {v : Value} {xs : List Int} (h : AU w b v xs) (hk : v.ownBlock = some k) : b ≤ k:=Cm h k hk
theorem AU.at {w : World} {b g cap : Nat} {xs : List Int} (h : AU w b (.slice (some ⟨g,0,none⟩) xs.length cap) xs) (i : Int) (h0 : 0 ≤ i) (h1 : i < xs.length) : w.cell? ⟨g,i.toNat,none⟩ = some (.int .i64 (rd xs i)) ∧ w.frozen? ⟨g,i.toNat,none⟩ = false:=Xb h i h0 h1
theorem AU.far {w : World} {b g : Nat} {v : Value} {xs : List Int} (h : AU w b v xs) (hg : ∀ k,v.ownBlock = some k → k ≠ g) (u : Value) (j : Nat) : AU (w.setCell ⟨g,j,none⟩ u) b v xs:=R4 h (fun e => hg g e.symm rfl) u
theorem AU.put {w : World} {b g cap : Nat} {xs : List Int} (h : AU w b (.slice (some ⟨g,0,none⟩) xs.length cap) xs) (i x : Int) : AU (w.setCell ⟨g,i.toNat,none⟩ (.int .i64 x)) b (.slice (some ⟨g,0,none⟩) xs.length cap) (xs.set i.toNat x):=Wn h i x
theorem G7 {P : Program} {ops : Array Oper} {l : List Oper} {Q : Exit → Act → World → Prop} {a : Act} {w : World} (p : Page) {v : Value} (h : ∀ w1,Below w.heap.size w w1 → w1.heap.size = w.heap.size + 1 → Ba w1 w.heap.size p v → wpList P ops Q l a w1) : wpList P ops Q l a (w.alloc (.cells #[.int .i64 p.lsn, .int .i64 p.owner,v] 47)):=
 h _ ((Below.refl _ _).alloc (Nat.le_refl _) _) (BK _ _) (Ba.mk1 w p v)
theorem TG : ∀ W : World,(Instr.makeSlice 42 (.int .i64 3) (.int .i64 3)).run Tryz.prog W = .ok (.slice (some ⟨W.heap.size,0,none⟩) 3 3) (W.alloc (.cells (madeCells #[.int .i64 0] 3) 3)):=Sk 42 3 .i64 8 Ee FR (by decide) 3 (by decide)
set_option maxRecDepth 100000 in
set_option maxHeartbeats 4000000 in
theorem KY {w0 w : World} {A : Option Addr} {c : Nat} {p : Page} (r : Rec) (hl : p.vals.length ≤ 17592186044416) (hs : r.slot < p.vals.length) (hb : Below w0.heap.size w0 w) (hr : Kd.C (Kd.int .i64) w0 A p.vals.length p.vals) : Calls Tryz.prog 95 #[p.val A c,r.val] w (P9 w (Bj p r)):=by
 have HR:=As (BF hr hb)
 have HL:=As hl
 have HS:=As hs
 clear hr hb hl hs
 obtain ⟨W1,hW1⟩ : ∃ W1,w.alloc (p.box A c) = W1:=⟨_,rfl⟩
 obtain ⟨W2,hW2⟩ : ∃ W2,W1.alloc r.box = W2:=⟨_,rfl⟩
 obtain ⟨W3,hW3⟩ : ∃ W3,W2.alloc CO = W3:=⟨_,rfl⟩
 have Z1 : W1.heap.size = w.heap.size + 1:=by rw [← hW1,BK]
 have Z2 : W2.heap.size = w.heap.size + 2:=by rw [← hW2,BK,Z1]
 have Z3 : W3.heap.size = w.heap.size + 3:=by rw [← hW3,BK,Z2]
 have hR3 : Gu W3 ⟨w.heap.size + 1,0,none⟩ r:=by
  have:=GD W1 r
  rw [Z1,hW2] at this
  rw [← hW3]
  exact this.up (Ah (Below.refl _ _) _)
 have hP3 : Ba W3 (w.heap.size + 2) zp (.slice none 0 0):=by
  have:=Ba.mk1 W2 zp (.slice none 0 0)
  rw [Z2] at this
  rw [← hW3]
  exact this
 have hB3 : Below w.heap.size w W3:=by
  rw [← hW3, ← hW2, ← hW1]
  exact Ah (Ah (Ah (Below.refl _ _) _) _) _
 have HW3 : Ac (((w.alloc (p.box A c)).alloc r.box).alloc CO = W3):=⟨by rw [hW1,hW2,hW3]⟩
 have HR3:=As hR3
 have HP3:=As hP3
 have HB3:=As hB3
 have HZ3:=As Z3
 clear hW1 hW2 hW3 Z1 Z2 Z3 hR3 hP3 hB3
 rcases lts r.slot 0 with ⟨e1,b1,c1⟩ | ⟨e1,b1,c1⟩
 ·rcases BV r.new 0 with ⟨e2,b2,c2⟩ | ⟨e2,b2,c2⟩
  ·go_enter Tryz.func95,Tryz.ntmps95
   go_wp2_with (first | (go_at_call 101;rw [HW3.out];refine (FX (w0:=w) HL.out HB3.out HR.out).mono ?_;rintro e w1 ⟨v,rfl,ho,hb1⟩;obtain ⟨A1,c1,rfl, -, -⟩:=ho.reads;have HO:=As ho;have HB1:=As hb1;clear ho hb1) | (with_reducible refine G7 p ?_;intro w2 hb2 hz2 hq2;have HB2:=As (bj HB1.out hb2);have HW2:=As (bj HB3.out HB2.out);have HR2:=As (HR3.out.up HB2.out);have HP2:=As (HP3.out.up HB2.out);have HO2:=As (HO.out.below hb2);have HQ2:=As hq2;have hlt : w.heap.size + 3 ≤ w1.heap.size:=(by have:=HB1.out.size;have:=HZ3.out;omega);have hn1 : w.heap.size + 1 ≠ w1.heap.size:=(by omega);have hn2 : w.heap.size + 2 ≠ w1.heap.size:=(by omega);obtain ⟨-, -, -,x3, -,x5, -, -⟩:=HR2.out;simp only [Nat.zero_add] at x3 x5;have y0:=HP2.out.c0;have y1:=HP2.out.c1;have y2:=HP2.out.c2;have f0:=HP2.out.frz 0;have f1:=HP2.out.frz 1;have f2:=HP2.out.frz 2;have q0:=hq2.c0;have q1:=hq2.c1;have q2:=hq2.c2;have g1:=hq2.frz 1;have g2:=hq2.frz 2;clear hb2 hq2))
   have hmk:=TG
   go_region
   obtain ⟨W5,hW5⟩ : ∃ W5,(((w2.setCell ⟨w1.heap.size,1,none⟩ (.int .i64 0)).setCell ⟨w1.heap.size,2,none⟩ (.slice (some ⟨w1.heap.size + 1,0,none⟩) 3 3)).alloc (.cells (madeCells #[.int .i64 0] 3) 3)).drew = W5:=⟨_,rfl⟩
   have hs : ((w2.setCell ⟨w1.heap.size,1,none⟩ (.int .i64 0)).setCell ⟨w1.heap.size,2,none⟩ (.slice (some ⟨w1.heap.size + 1,0,none⟩) 3 3)).heap.size = w1.heap.size + 1:=by simp [hz2]
   have hup : Below (w1.heap.size + 1) ((w2.setCell ⟨w1.heap.size,1,none⟩ (.int .i64 0)).setCell ⟨w1.heap.size,2,none⟩ (.slice (some ⟨w1.heap.size + 1,0,none⟩) 3 3)) W5:=by
    rw [← hW5]
    exact ((Below.refl _ _).alloc (by omega) _).drew
   have hup : Below ((w2.setCell ⟨w1.heap.size,1,none⟩ (.int .i64 0)).setCell ⟨w1.heap.size,2,none⟩ (.slice (some ⟨w1.heap.size + 1,0,none⟩) 3 3)).heap.size ((w2.setCell ⟨w1.heap.size,1,none⟩ (.int .i64 0)).setCell ⟨w1.heap.size,2,none⟩ (.slice (some ⟨w1.heap.size + 1,0,none⟩) 3 3)) W5:=(congrArg (fun n => Below n _ W5) hs).mpr hup
   have hQ5 : Ba W5 w1.heap.size ⟨p.lsn,0,p.vals⟩ (.slice (some ⟨w1.heap.size + 1,0,none⟩) 3 3):=((HQ2.out.set1 0).set2 _).up hup
   have hP5 : Ba W5 (w.heap.size + 2) zp (.slice none 0 0):=((HP2.out.far (h:=w1.heap.size) (by omega) 1 _).far (h:=w1.heap.size) (by omega) 2 _).up hup
   have hB5 : Below w.heap.size w W5:=bj ((HW2.out.setCell (p:=⟨w1.heap.size,1,none⟩) (by simp;omega) _).setCell (p:=⟨w1.heap.size,2,none⟩) (by simp;omega) _) hup
   have hO5 : AU W5 W3.heap.size (.slice (some ⟨w1.heap.size + 1,0,none⟩) 3 3) [0,0,0]:=by
    rw [← hW5]
    have:=Kn ((w2.setCell ⟨w1.heap.size,1,none⟩ (.int .i64 0)).setCell ⟨w1.heap.size,2,none⟩ (.slice (some ⟨w1.heap.size + 1,0,none⟩) 3 3)) W3.heap.size 3 .i64 3 (by have:=HZ3.out;omega) (by decide)
    rw [hs] at this
    exact this
   rw [hW5]
   have q0:=hQ5.c0
   have q1:=hQ5.c1
   have q2:=hQ5.c2
   have y0:=hP5.c0
   have y1:=hP5.c1
   have y2:=hP5.c2
   have f0:=hP5.frz 0
   have f1:=hP5.frz 1
   have f2:=hP5.frz 2
   have HO5:=As hO5
   have HB5:=As hB5
   have HP5:=As hP5
   clear hO5 hB5 hP5 hQ5 hup hs hW5
   go_wp2
   have h1:=HO5.out.CK (g:=w.heap.size + 2) (by have:=HZ3.out;omega) ⟨p.lsn,0, [0,0,0]⟩ (.slice (some ⟨w1.heap.size + 1,0,none⟩) 3 3)
   have h2:=CB (g:=w.heap.size + 2) HB5.out (by omega) ⟨p.lsn,0, [0,0,0]⟩ (.slice (some ⟨w1.heap.size + 1,0,none⟩) 3 3)
   have hy:=HP5.out.CK ⟨p.lsn,0, [0,0,0]⟩ (.slice (some ⟨w1.heap.size + 1,0,none⟩) 3 3)
   have z0:=hy.c0
   have z1:=hy.c1
   have z2:=hy.c2
   have hw : Bj p r = ⟨p.lsn,0, [0,0,0]⟩:=by rw [Bj,if_neg (by have:=e1.out;omega),if_pos e2.out]
   rw [hw]
   exact bodyPost_ret (v:=(⟨p.lsn,0, [0,0,0]⟩ : Page).own (.slice (some ⟨w1.heap.size + 1,0,none⟩) 3 3)) (by simp [results,Tryz.results95,go_sem,z0,z1,z2]) rfl ⟨_,rfl,h1.lower (by have:=HZ3.out;omega),h2⟩
  ·go_enter Tryz.func95,Tryz.ntmps95
   go_wp2_with (first | (go_at_call 101;rw [HW3.out];refine (FX (w0:=w) HL.out HB3.out HR.out).mono ?_;rintro e w1 ⟨v,rfl,ho,hb1⟩;obtain ⟨A1,c1,rfl, -, -⟩:=ho.reads;have HO:=As ho;have HB1:=As hb1;clear ho hb1) | (with_reducible refine G7 p ?_;intro w2 hb2 hz2 hq2;have HB2:=As (bj HB1.out hb2);have HW2:=As (bj HB3.out HB2.out);have HR2:=As (HR3.out.up HB2.out);have HP2:=As (HP3.out.up HB2.out);have HO2:=As (HO.out.below hb2);have HQ2:=As hq2;have hlt : w.heap.size + 3 ≤ w1.heap.size:=(by have:=HB1.out.size;have:=HZ3.out;omega);have hn1 : w.heap.size + 1 ≠ w1.heap.size:=(by omega);have hn2 : w.heap.size + 2 ≠ w1.heap.size:=(by omega);obtain ⟨-, -, -,x3, -,x5, -, -⟩:=HR2.out;simp only [Nat.zero_add] at x3 x5;have y0:=HP2.out.c0;have y1:=HP2.out.c1;have y2:=HP2.out.c2;have f0:=HP2.out.frz 0;have f1:=HP2.out.frz 1;have f2:=HP2.out.frz 2;have q0:=hq2.c0;have q1:=hq2.c1;have q2:=hq2.c2;have g1:=hq2.frz 1;have g2:=hq2.frz 2;clear hb2 hq2))
   have h1:=(HO2.out.far (g:=w1.heap.size) (fun k hk => by have:=HO.out.lt hk;omega) (Value.int .i64 r.new) 1).CK (g:=w.heap.size + 2) (by have:=HZ3.out;omega) ⟨p.lsn,r.new,p.vals⟩ (.slice A1 p.vals.length c1)
   have h2:=CB (g:=w.heap.size + 2) (HW2.out.setCell (p:=⟨w1.heap.size,1,none⟩) (by simp;omega) (Value.int .i64 r.new)) (by omega) ⟨p.lsn,r.new,p.vals⟩ (.slice A1 p.vals.length c1)
   have hy:=(HP2.out.far (h:=w1.heap.size) (by omega) 1 (Value.int .i64 r.new)).CK ⟨p.lsn,r.new,p.vals⟩ (.slice A1 p.vals.length c1)
   have z0:=hy.c0
   have z1:=hy.c1
   have z2:=hy.c2
   have hw : Bj p r = ⟨p.lsn,r.new,p.vals⟩:=by rw [Bj,if_neg (by have:=e1.out;omega),if_neg e2.out]
   rw [hw]
   exact bodyPost_ret (v:=(⟨p.lsn,r.new,p.vals⟩ : Page).own (.slice A1 p.vals.length c1)) (by simp [results,Tryz.results95,go_sem,z0,z1,z2]) rfl ⟨_,rfl,h1.lower (by have:=HZ3.out;omega),h2⟩
 ·have hs2:=HS.out
  have hs1:=e1.out
  go_enter Tryz.func95,Tryz.ntmps95
  go_wp2_with (first | (go_at_call 101;rw [HW3.out];refine (FX (w0:=w) HL.out HB3.out HR.out).mono ?_;rintro e w1 ⟨v,rfl,ho,hb1⟩;obtain ⟨g,cap,rfl,hgb,hgl⟩:=ho.form (by have:=HS.out;have:=e1.out;omega);have HG:=As (And.intro hgb hgl);clear hgb hgl;have HO:=As ho;have HB1:=As hb1;clear ho hb1) | (with_reducible refine G7 p ?_;(intro w2 hb2 hz2 hq2;have HB2:=As (bj HB1.out hb2);have HW2:=As (bj HB3.out HB2.out);have HR2:=As (HR3.out.up HB2.out);have HP2:=As (HP3.out.up HB2.out);have HO2:=As (HO.out.below hb2);have HQ2:=As hq2;have hlt : w.heap.size + 3 ≤ w1.heap.size:=(by have:=HB1.out.size;have:=HZ3.out;omega);have hn1 : w.heap.size + 1 ≠ w1.heap.size:=(by omega);have hn2 : w.heap.size + 2 ≠ w1.heap.size:=(by omega);obtain ⟨-, -, -,x3, -,x5, -, -⟩:=HR2.out;simp only [Nat.zero_add] at x3 x5;have y0:=HP2.out.c0;have y1:=HP2.out.c1;have y2:=HP2.out.c2;have f0:=HP2.out.frz 0;have f1:=HP2.out.frz 1;have f2:=HP2.out.frz 2;have q0:=hq2.c0;have q1:=hq2.c1;have q2:=hq2.c2;have g1:=hq2.frz 1;have g2:=hq2.frz 2;have hgw : g < w1.heap.size:=HO.out.lt (k:=g) rfl;have hgb : w.heap.size + 3 ≤ g:=(by have:=HO.out.base (k:=g) rfl;have:=HZ3.out;omega);have hg1 : w1.heap.size ≠ g:=(by omega);have hg2 : w.heap.size + 1 ≠ g:=(by omega);have hg3 : w.heap.size + 2 ≠ g:=(by omega);obtain ⟨p1,p2⟩:=HO2.out.at r.slot e1.out (by have:=HS.out;omega);clear hb2 hq2)))
  have h1:=(HO2.out.put r.slot r.new).CK (g:=w.heap.size + 2) (by have:=HZ3.out;omega) p (.slice (some ⟨g,0,none⟩) p.vals.length cap)
  have h2:=CB (g:=w.heap.size + 2) (HW2.out.setCell (p:=⟨g,r.slot.toNat,none⟩) (by simp;omega) (Value.int .i64 r.new)) (by omega) p (.slice (some ⟨g,0,none⟩) p.vals.length cap)
  have hy:=(HP2.out.far (h:=g) (by omega) r.slot.toNat (Value.int .i64 r.new)).CK p (.slice (some ⟨g,0,none⟩) p.vals.length cap)
  have z0:=hy.c0
  have z1:=hy.c1
  have z2:=hy.c2
  have hw : Bj p r = ⟨p.lsn,p.owner,p.vals.set r.slot.toNat r.new⟩:=by rw [Bj,if_pos e1.out]
  rw [hw]
  exact bodyPost_ret (v:=(⟨p.lsn,p.owner,p.vals.set r.slot.toNat r.new⟩ : Page).own (.slice (some ⟨g,0,none⟩) p.vals.length cap)) (by simp [results,Tryz.results95,go_sem,z0,z1,z2]) rfl ⟨_,rfl,h1.lower (by have:=HZ3.out;omega),h2⟩
def doR (p : Page) (r : Rec) (n : Int) : Page:=⟨n,(Bj p r).owner,(Bj p r).vals⟩
theorem UX {P : Program} {ops : Array Oper} {l : List Oper} {Q : Exit → Act → World → Prop} {a : Act} {W : World} (h : ∀ w1,Below W.heap.size W w1 → AU w1 W.heap.size (.slice (some ⟨W.heap.size,0,none⟩) 3 3) [0,0,0] → wpList P ops Q l a w1) : wpList P ops Q l a (W.alloc (.cells (madeCells #[.int .i64 0] 3) 3)):=
 h _ ((Below.refl _ _).alloc (Nat.le_refl _) _) (Kn W W.heap.size 3 .i64 3 (Nat.le_refl _) (by decide))
set_option maxRecDepth 100000 in
set_option maxHeartbeats 4000000 in
theorem Oo {w0 w : World} {A : Option Addr} {c : Nat} {p : Page} (r : Rec) (n : Int) (hl : p.vals.length ≤ 17592186044416) (hs : r.slot < p.vals.length) (hb : Below w0.heap.size w0 w) (hr : Kd.C (Kd.int .i64) w0 A p.vals.length p.vals) : Calls Tryz.prog 144 #[p.val A c,r.val, .int .i64 n] w (P9 w (doR p r n)):=by
 have HR:=As (BF hr hb)
 have HL:=As hl
 have HS:=As hs
 clear hr hb hl hs
 obtain ⟨W1,hW1⟩ : ∃ W1,w.alloc (p.box A c) = W1:=⟨_,rfl⟩
 obtain ⟨W2,hW2⟩ : ∃ W2,W1.alloc r.box = W2:=⟨_,rfl⟩
 obtain ⟨W3,hW3⟩ : ∃ W3,W2.alloc CO = W3:=⟨_,rfl⟩
 have Z1 : W1.heap.size = w.heap.size + 1:=by rw [← hW1,BK]
 have Z2 : W2.heap.size = w.heap.size + 2:=by rw [← hW2,BK,Z1]
 have Z3 : W3.heap.size = w.heap.size + 3:=by rw [← hW3,BK,Z2]
 have hR3 : Gu W3 ⟨w.heap.size + 1,0,none⟩ r:=by
  have:=GD W1 r
  rw [Z1,hW2] at this
  rw [← hW3]
  exact this.up (Ah (Below.refl _ _) _)
 have hP3 : Ba W3 (w.heap.size + 2) zp (.slice none 0 0):=by
  have:=Ba.mk1 W2 zp (.slice none 0 0)
  rw [Z2] at this
  rw [← hW3]
  exact this
 have hB3 : Below w.heap.size w W3:=by
  rw [← hW3, ← hW2, ← hW1]
  exact Ah (Ah (Ah (Below.refl _ _) _) _) _
 have HW3 : Ac (((w.alloc (p.box A c)).alloc r.box).alloc CO = W3):=⟨by rw [hW1,hW2,hW3]⟩
 have HR3:=As hR3
 have HP3:=As hP3
 have HB3:=As hB3
 have HZ3:=As Z3
 clear hW1 hW2 hW3 Z1 Z2 Z3 hR3 hP3 hB3
 rcases lts r.slot 0 with ⟨e1,b1,c1⟩ | ⟨e1,b1,c1⟩
 ·rcases BV r.new 0 with ⟨e2,b2,c2⟩ | ⟨e2,b2,c2⟩
  ·have hmk:=TG
   go_enter Tryz.func144,Tryz.ntmps144
   go_wp2_with (first | (go_at_call 149;rw [HW3.out];refine (FQ (w0:=w) HL.out HB3.out HR.out).mono ?_;rintro e w1 ⟨v,rfl,ho,hb1⟩;obtain ⟨A1,c1,rfl, -, -⟩:=ho.reads;have HO:=As ho;have HB1:=As hb1;clear ho hb1) | (with_reducible refine G7 p ?_;intro w2 hb2 hz2 hq2;have HB2:=As (bj HB1.out hb2);have HW2:=As (bj HB3.out HB2.out);have HR2:=As (HR3.out.up HB2.out);have HP2:=As (HP3.out.up HB2.out);have HO2:=As (HO.out.below hb2);have HQ2:=As hq2;have hlt : w.heap.size + 3 ≤ w1.heap.size:=(by have:=HB1.out.size;have:=HZ3.out;omega);have hn1 : w.heap.size + 1 ≠ w1.heap.size:=(by omega);have hn2 : w.heap.size + 2 ≠ w1.heap.size:=(by omega);obtain ⟨-, -, -,x3, -,x5, -, -⟩:=HR2.out;simp only [Nat.zero_add] at x3 x5;have y0:=HP2.out.c0;have y1:=HP2.out.c1;have y2:=HP2.out.c2;have f0:=HP2.out.frz 0;have f1:=HP2.out.frz 1;have f2:=HP2.out.frz 2;have q0:=hq2.c0;have q1:=hq2.c1;have q2:=hq2.c2;have g0:=hq2.frz 0;have g1:=hq2.frz 1;have g2:=hq2.frz 2;clear hb2 hq2) | (with_reducible refine UX ?_;intro w4 hb4 ho4;have hQ4:=((HQ2.out.set0 n).set1 r.new).up hb4;have hP4:=((HP2.out.far (h:=w1.heap.size) (by omega) 0 (Value.int .i64 n)).far (h:=w1.heap.size) (by omega) 1 (Value.int .i64 r.new)).up hb4;have HB4:=As (bj ((HW2.out.setCell (p:=⟨w1.heap.size,0,none⟩) (by simp;omega) (Value.int .i64 n)).setCell (p:=⟨w1.heap.size,1,none⟩) (by simp;omega) (Value.int .i64 r.new)) hb4);simp only [World.size_setCell,hz2] at ho4;have HO4:=As ho4;have HQ4:=As hQ4;have HP4:=As hP4;have q0':=hQ4.c0;have q1':=hQ4.c1;have q2':=hQ4.c2;have g2':=hQ4.frz 2;have y0':=hP4.c0;have y1':=hP4.c1;have y2':=hP4.c2;have f0':=hP4.frz 0;have f1':=hP4.frz 1;have f2':=hP4.frz 2;clear hb4 ho4 hQ4 hP4))
   have h1:=(HO4.out.set (g:=w1.heap.size) (by omega) (.slice (some ⟨w1.heap.size + 1,0,none⟩) 3 3) 2).CK (g:=w.heap.size + 2) (by omega) ⟨n,r.new, []⟩ (.slice (some ⟨w1.heap.size + 1,0,none⟩) 3 3)
   have h2:=CB (g:=w.heap.size + 2) (HB4.out.setCell (p:=⟨w1.heap.size,2,none⟩) (by simp;omega) (.slice (some ⟨w1.heap.size + 1,0,none⟩) 3 3)) (by omega) ⟨n,r.new, []⟩ (.slice (some ⟨w1.heap.size + 1,0,none⟩) 3 3)
   have hy:=(HP4.out.far (h:=w1.heap.size) (by omega) 2 (.slice (some ⟨w1.heap.size + 1,0,none⟩) 3 3)).CK ⟨n,r.new, []⟩ (.slice (some ⟨w1.heap.size + 1,0,none⟩) 3 3)
   have z0:=hy.c0
   have z1:=hy.c1
   have z2:=hy.c2
   have hw : doR p r n = ⟨n,r.new, [0,0,0]⟩:=by rw [doR,Bj,if_neg (by have:=e1.out;omega),if_pos e2.out,e2.out]
   rw [hw]
   exact bodyPost_ret (v:=(⟨n,r.new, [0,0,0]⟩ : Page).own (.slice (some ⟨w1.heap.size + 1,0,none⟩) 3 3)) (by simp [results,Tryz.results144,go_sem,z0,z1,z2]) rfl ⟨_,rfl,h1.lower (by omega),h2⟩
  ·go_enter Tryz.func144,Tryz.ntmps144
   go_wp2_with (first | (go_at_call 149;rw [HW3.out];refine (FQ (w0:=w) HL.out HB3.out HR.out).mono ?_;rintro e w1 ⟨v,rfl,ho,hb1⟩;obtain ⟨A1,c1,rfl, -, -⟩:=ho.reads;have HO:=As ho;have HB1:=As hb1;clear ho hb1) | (with_reducible refine G7 p ?_;intro w2 hb2 hz2 hq2;have HB2:=As (bj HB1.out hb2);have HW2:=As (bj HB3.out HB2.out);have HR2:=As (HR3.out.up HB2.out);have HP2:=As (HP3.out.up HB2.out);have HO2:=As (HO.out.below hb2);have HQ2:=As hq2;have hlt : w.heap.size + 3 ≤ w1.heap.size:=(by have:=HB1.out.size;have:=HZ3.out;omega);have hn1 : w.heap.size + 1 ≠ w1.heap.size:=(by omega);have hn2 : w.heap.size + 2 ≠ w1.heap.size:=(by omega);obtain ⟨-, -, -,x3, -,x5, -, -⟩:=HR2.out;simp only [Nat.zero_add] at x3 x5;have y0:=HP2.out.c0;have y1:=HP2.out.c1;have y2:=HP2.out.c2;have f0:=HP2.out.frz 0;have f1:=HP2.out.frz 1;have f2:=HP2.out.frz 2;have q0:=hq2.c0;have q1:=hq2.c1;have q2:=hq2.c2;have g0:=hq2.frz 0;have g1:=hq2.frz 1;have g2:=hq2.frz 2;clear hb2 hq2))
   have h1:=((HO2.out.far (g:=w1.heap.size) (fun k hk => by have:=HO.out.lt hk;omega) (Value.int .i64 n) 0).far (g:=w1.heap.size) (fun k hk => by have:=HO.out.lt hk;omega) (Value.int .i64 r.new) 1).CK (g:=w.heap.size + 2) (by have:=HZ3.out;omega) ⟨n,r.new,p.vals⟩ (.slice A1 p.vals.length c1)
   have h2:=CB (g:=w.heap.size + 2) ((HW2.out.setCell (p:=⟨w1.heap.size,0,none⟩) (by simp;omega) (Value.int .i64 n)).setCell (p:=⟨w1.heap.size,1,none⟩) (by simp;omega) (Value.int .i64 r.new)) (by omega) ⟨n,r.new,p.vals⟩ (.slice A1 p.vals.length c1)
   have hy:=((HP2.out.far (h:=w1.heap.size) (by omega) 0 (Value.int .i64 n)).far (h:=w1.heap.size) (by omega) 1 (Value.int .i64 r.new)).CK ⟨n,r.new,p.vals⟩ (.slice A1 p.vals.length c1)
   have z0:=hy.c0
   have z1:=hy.c1
   have z2:=hy.c2
   have hw : doR p r n = ⟨n,r.new,p.vals⟩:=by rw [doR,Bj,if_neg (by have:=e1.out;omega),if_neg e2.out]
   rw [hw]
   exact bodyPost_ret (v:=(⟨n,r.new,p.vals⟩ : Page).own (.slice A1 p.vals.length c1)) (by simp [results,Tryz.results144,go_sem,z0,z1,z2]) rfl ⟨_,rfl,h1.lower (by have:=HZ3.out;omega),h2⟩
 ·have hs2:=HS.out
  have hs1:=e1.out
  go_enter Tryz.func144,Tryz.ntmps144
  go_wp2_with (first | (go_at_call 149;rw [HW3.out];refine (FQ (w0:=w) HL.out HB3.out HR.out).mono ?_;rintro e w1 ⟨v,rfl,ho,hb1⟩;obtain ⟨g,cap,rfl,hgb,hgl⟩:=ho.form (by have:=HS.out;have:=e1.out;omega);have HG:=As (And.intro hgb hgl);clear hgb hgl;have HO:=As ho;have HB1:=As hb1;clear ho hb1) | (with_reducible refine G7 p ?_;(intro w2 hb2 hz2 hq2;have HB2:=As (bj HB1.out hb2);have HW2:=As (bj HB3.out HB2.out);have HR2:=As (HR3.out.up HB2.out);have HP2:=As (HP3.out.up HB2.out);have HO2:=As (HO.out.below hb2);have HQ2:=As hq2;have hlt : w.heap.size + 3 ≤ w1.heap.size:=(by have:=HB1.out.size;have:=HZ3.out;omega);have hn1 : w.heap.size + 1 ≠ w1.heap.size:=(by omega);have hn2 : w.heap.size + 2 ≠ w1.heap.size:=(by omega);obtain ⟨-, -, -,x3, -,x5, -, -⟩:=HR2.out;simp only [Nat.zero_add] at x3 x5;have y0:=HP2.out.c0;have y1:=HP2.out.c1;have y2:=HP2.out.c2;have f0:=HP2.out.frz 0;have f1:=HP2.out.frz 1;have f2:=HP2.out.frz 2;have q0:=hq2.c0;have q1:=hq2.c1;have q2:=hq2.c2;have g0:=hq2.frz 0;have g1:=hq2.frz 1;have g2:=hq2.frz 2;have hgw : g < w1.heap.size:=HO.out.lt (k:=g) rfl;have hgb : w.heap.size + 3 ≤ g:=(by have:=HO.out.base (k:=g) rfl;have:=HZ3.out;omega);have hg1 : w1.heap.size ≠ g:=(by omega);have hg2 : w.heap.size + 1 ≠ g:=(by omega);have hg3 : w.heap.size + 2 ≠ g:=(by omega);obtain ⟨p1,p2⟩:=HO2.out.at r.slot e1.out (by have:=HS.out;omega);clear hb2 hq2)))
  have h1:=((HO2.out.far (g:=w1.heap.size) (fun k hk => by have:=HO.out.lt hk;omega) (Value.int .i64 n) 0).put r.slot r.new).CK (g:=w.heap.size + 2) (by have:=HZ3.out;omega) ⟨n,p.owner, []⟩ (.slice (some ⟨g,0,none⟩) p.vals.length cap)
  have h2:=CB (g:=w.heap.size + 2) ((HW2.out.setCell (p:=⟨w1.heap.size,0,none⟩) (by simp;omega) (Value.int .i64 n)).setCell (p:=⟨g,r.slot.toNat,none⟩) (by simp;omega) (Value.int .i64 r.new)) (by omega) ⟨n,p.owner, []⟩ (.slice (some ⟨g,0,none⟩) p.vals.length cap)
  have hy:=((HP2.out.far (h:=w1.heap.size) (by omega) 0 (Value.int .i64 n)).far (h:=g) (by omega) r.slot.toNat (Value.int .i64 r.new)).CK ⟨n,p.owner, []⟩ (.slice (some ⟨g,0,none⟩) p.vals.length cap)
  have z0:=hy.c0
  have z1:=hy.c1
  have z2:=hy.c2
  have hw : doR p r n = ⟨n,p.owner,p.vals.set r.slot.toNat r.new⟩:=by rw [doR,Bj,if_pos e1.out]
  rw [hw]
  exact bodyPost_ret (v:=(⟨n,p.owner,p.vals.set r.slot.toNat r.new⟩ : Page).own (.slice (some ⟨g,0,none⟩) p.vals.length cap)) (by simp [results,Tryz.results144,go_sem,z0,z1,z2]) rfl ⟨_,rfl,h1.lower (by have:=HZ3.out;omega),h2⟩
def VL (b : Bool) (w : World) (e : Ending) (w' : World) : Prop := ∃ i : Int,e = .returned (.int .i64 i) ∧ decide (0 ≤ i) = b ∧ Below w.heap.size w w'
theorem UC {w0 w : World} {A : Option Addr} {c : Nat} {p : Page} {b : Bool} (hv : Bt p = b) (hb : Below w0.heap.size w0 w) (hr : Kd.C (Kd.int .i64) w0 A p.vals.length p.vals) : Calls Tryz.prog 128 #[p.val A c] w fun e w' => e = .returned (.bool (!b)) ∧ Below w.heap.size w w':=by
 have HR:=As (BF hr hb)
 have HV:=As hv
 have HB:=As (NT w p A c)
 clear hr hb hv
 go_enter Tryz.func128,Tryz.ntmps128
 go_wp2_with (go_at_call 25;refine (Dq HV.out HB.out HR.out).mono ?_;rintro e w1 ⟨rfl,hb1⟩;have HX:=As (bj HB.out hb1);clear hb1)
 go_ret
 exact ⟨rfl,HX.out⟩
set_option maxHeartbeats 4000000 in
theorem Ru {w0 w : World} {A : Option Addr} {c : Nat} {l : List Page} (hb : Below w0.heap.size w0 w) (hr : Kd.C Dc w0 A l.length l) : Calls Tryz.prog 177 #[.slice A l.length c, .func (.func 128) #[] #[]] w (VL (l.any fun x => !Bt x) w):=by
 have HR:=As (BF hr hb)
 have hm:=(Co hr).2
 clear hr hb
 go_enter Tryz.func177,Tryz.ntmps177
 go_wp2
 go_loopw [8] (fun i wr => ∃ k : Nat,k ≤ l.length ∧ i = .int .i64 (k : Int) ∧ Ac ((l.any fun x => !Bt x) = (l.drop k).any fun x => !Bt x) ∧ Ac (Below w.heap.size w wr)) (fun i _ => (l.length - intOf i).toNat)
 case atStart => exact ⟨0,Nat.zero_le _,rfl,⟨rfl⟩,⟨Below.refl _ _⟩⟩
 case round =>
  obtain ⟨k,hk,rfl,HK,HW⟩:=hrel
  by_cases hlt : k < l.length
  ·obtain ⟨ad,A2,c2,rfl,QP, -,g2⟩:=Ei (BF HR.out HW.out) k hlt
   obtain ⟨x0,x1,x2⟩:=QP
   have HG:=As g2
   have HD:=As (Wm hlt)
   clear g2
   cases hp : Bt (pg l k)
   all_goals
    have HP:=As hp
    clear hp
    go_wp2_with (go_at_call 128;refine (UC HP.out (Below.refl _ _) HG.out).mono ?_;rintro e w1 ⟨rfl,hb1⟩;have HX:=As (bj HW.out hb1);clear hb1)
   ·go_ret
    exact ⟨k,rfl,by rw [HK.out,HD.out,List.any_cons,HP.out];simp,HX.out⟩
   ·go_roundw
    case rel => exact ⟨k + 1,by omega,by go_num,⟨by rw [HK.out,HD.out,List.any_cons,HP.out];rfl⟩,HX⟩
    case measure => simp [intOf];omega
  ·have hke : k = l.length:=by omega
   go_wp2
   go_ret
   exact ⟨-1,rfl,by rw [HK.out,hke,List.drop_length];rfl,HW.out⟩
theorem Oy {w0 w : World} {A : Option Addr} {c : Nat} {l : List Page} (hb : Below w0.heap.size w0 w) (hr : Kd.C Dc w0 A l.length l) : Calls Tryz.prog 127 #[.slice A l.length c, .func (.func 128) #[] #[]] w fun e w' => e = .returned (.bool (l.any fun x => !Bt x)) ∧ Below w.heap.size w w':=by
 have HR:=As (BF hr hb)
 clear hr hb
 go_enter Tryz.func127,Tryz.ntmps127
 go_wp2_with (go_at_call 177;refine (Ru (Below.refl _ _) HR.out).mono ?_;rintro e w' ⟨i,rfl,hi,hb⟩)
 go_ret
 exact ⟨by first | exact AL hi | rfl,hb⟩
def I8 (l : List Page) : Bool:=l.length == 5 && !(l.any fun x => !Bt x)
set_option maxHeartbeats 2000000 in
theorem C9 {w0 w : World} {A : Option Addr} {c : Nat} {l : List Page} {b : Bool} (hv : I8 l = b) (hb : Below w0.heap.size w0 w) (hr : Kd.C Dc w0 A l.length l) : Calls Tryz.prog 64 #[.slice A l.length c] w fun e w' => e = .returned (.bool b) ∧ Below w.heap.size w w':=by
 have HR:=As (BF hr hb)
 have HV:=As hv
 clear hr hb hv
 rcases BV (l.length : Int) 5 with ⟨e1,b1,c1⟩ | ⟨e1,b1,c1⟩
 ·go_enter Tryz.func64,Tryz.ntmps64
  go_wp2_with (go_at_call 127;refine (Oy (Below.refl _ _) HR.out).mono ?_;rintro e w1 ⟨rfl,hb1⟩;have HX:=As hb1;clear hb1)
  go_ret
  exact ⟨AL (by rw [← HV.out,I8,show (l.length == 5) = true by have:=e1.out;simp;omega];rfl),HX.out⟩
 ·go_enter Tryz.func64,Tryz.ntmps64
  go_wp2
  go_ret
  exact ⟨AL (by rw [← HV.out,I8,show (l.length == 5) = false by have:=e1.out;simp;omega];rfl),Below.refl _ _⟩
theorem Us {w0 w : World} {A : Option Addr} {n c : Nat} {l : List Page} {b : Bool} (hn : l.length = n) (hv : I8 l = b) (hb : Below w0.heap.size w0 w) (hr : Kd.C Dc w0 A l.length l) : Calls Tryz.prog 64 #[.slice A n c] w fun e w' => e = .returned (.bool b) ∧ Below w.heap.size w w':=hn ▸ C9 hv hb hr
def En (ps : List Page) (r : Rec) (n : Nat) : List Page:=if CP r.kind = true ∧ (pg ps r.page.toNat).lsn < n then ps.set r.page.toNat (doR (pg ps r.page.toNat) r n) else ps
def Cs (ps : List Page) (l : List Rec) : Nat → List Page
 | 0 => ps
 | n + 1 => En (Cs ps l n) (rc l n) (n + 1)
def geo (ps : List Page) : Prop:=ps.length = 5 ∧ ∀ p ∈ ps,p.vals.length = 3
theorem Ay {ps : List Page} (h : I8 ps = true) : geo ps:=by
 simp only [I8,Bool.and_eq_true,beq_iff_eq,Bool.not_eq_true',List.any_eq_false] at h
 exact ⟨h.1,fun p hp => (Cq.1 (by simpa using h.2 p hp)).2.2.2.2.1⟩
theorem Gv {ps : List Page} (h : geo ps) {k : Nat} (hk : k < 5) : (pg ps k).vals.length = 3:=h.2 _ (by simp [pg,List.getD_eq_getElem?_getD,h.1,hk])
theorem FU {ps : List Page} (h : geo ps) : NR ps:=fun p hp => by rw [h.2 p hp];decide
theorem Kj {p : Page} {r : Rec} (h : p.vals.length = 3) : (Bj p r).vals.length = 3:=by
 unfold Bj
 split
 ·simpa using h
 ·split
  ·rfl
  ·exact h
theorem M7 {ps : List Page} {k : Nat} {q : Page} (h : geo ps) (hq : q.vals.length = 3) : geo (ps.set k q):=by
 refine ⟨by simpa using h.1,fun p hp => ?_⟩
 rcases List.mem_or_eq_of_mem_set hp with hp | rfl
 ·exact h.2 p hp
 ·exact hq
theorem Vw {ps : List Page} {r : Rec} {n : Nat} (h : geo ps) (hr : CP r.kind = true → 0 ≤ r.page ∧ r.page ≤ 4) : geo (En ps r n):=by
 unfold En
 split
 ·rename_i hc
  have:=hr hc.1
  exact M7 h (Kj (Gv h (by omega)))
 ·exact h
theorem Hz {r : Rec} (h : D6 r = true) (hc : CP r.kind = true) : 0 ≤ r.page ∧ r.page ≤ 4 ∧ -1 ≤ r.slot ∧ r.slot ≤ 2 ∧ 0 ≤ r.new ∧ r.new ≤ 9 ∧ (r.slot = -1 → r.new ≤ 3):=by
 rw [Dg] at h
 simp only [CP,Bool.or_eq_true,beq_iff_eq] at hc
 omega
theorem K8 {ps : List Page} {l : List Rec} (h : geo ps) (hl : ∀ k,k < l.length → D6 (rc l k) = true) : ∀ n,n ≤ l.length → geo (Cs ps l n)
 | 0,_ => h
 | n + 1,hn => Vw (K8 h hl n (by omega)) (fun hc => by have:=Hz (hl n hn) hc;omega)
theorem EK {w : World} {b B : Nat} {v u : Value} {xs : List Int} {p : Page} (h : AU w b v xs) (hp : Ba w B p u) : ∀ k,v.ownBlock = some k → k ≠ B:=by
 rintro k hk rfl
 obtain ⟨cells,hc⟩:=Du h k hk
 have h1 : w.heap[k]? = _:=hp
 rw [hc] at h1
 injection h1 with h1
 injection h1 with _ h2
 exact absurd h2 (by decide)
theorem Wj {w : World} {b : Nat} {v : Value} {ps : List Page} (h : KW w b v ps) (hn : 0 < ps.length) : ∃ g cap,v = .slice (some ⟨g,0,none⟩) ps.length cap ∧ b ≤ g ∧ g < w.heap.size:=by
 obtain ⟨inner,ho⟩:=Kd.KV h
 rcases ho.2 with ⟨_,h2⟩ | ⟨g,cap,cur,h1,h2,_⟩
 ·omega
 ·exact ⟨g,cap,h1,Cm ho g (by rw [h1];rfl),Og ho g (by rw [h1];rfl)⟩
theorem WK {w : World} {b g n cap : Nat} {ps : List Page} (h : KW w b (.slice (some ⟨g,0,none⟩) n cap) ps) (i : Nat) (hi : i < n) : ∃ A c,w.cell? ⟨g,i * 3,none⟩ = some (.int .i64 (pg ps i).lsn) ∧ w.cell? ⟨g,i * 3 + 1,none⟩ = some (.int .i64 (pg ps i).owner) ∧ w.cell? ⟨g,i * 3 + 2,none⟩ = some (.slice A (pg ps i).vals.length c) ∧ Kd.C (Kd.int .i64) w A (pg ps i).vals.length (pg ps i).vals ∧ ∀ j,w.frozen? ⟨g,i * 3 + j,none⟩ = false:=by
 obtain ⟨c,hl,hM,hc,hf⟩:=Kd.OH h z0 (i : Int) (by omega) (by omega)
 obtain ⟨v,rfl,hv⟩:=Ns hM
 obtain ⟨A,c2,rfl,_,hC⟩:=Kd.DX hv
 exact ⟨A,c2,hc 0 _ rfl,hc 1 _ rfl,hc 2 _ rfl,hC,hf⟩
theorem Cy {w : World} {b : Nat} {ok : Nat → Prop} {v : Value} {ps : List Page} (h : CS w b ok v ps) (hn : 0 < ps.length) : ∃ g cap,v = .slice (some ⟨g,0,none⟩) ps.length cap ∧ b ≤ g ∧ g < w.heap.size:=Wj (Kd.EB (Kd.S_R h) (fun _ _ => trivial)) hn
theorem DV {w : World} {b g n cap : Nat} {ok : Nat → Prop} {ps : List Page} (h : CS w b ok (.slice (some ⟨g,0,none⟩) n cap) ps) (i : Nat) (hi : i < n) : ∃ A c,w.cell? ⟨g,i * 3,none⟩ = some (.int .i64 (pg ps i).lsn) ∧ w.cell? ⟨g,i * 3 + 1,none⟩ = some (.int .i64 (pg ps i).owner) ∧ w.cell? ⟨g,i * 3 + 2,none⟩ = some (.slice A (pg ps i).vals.length c) ∧ Kd.C (Kd.int .i64) w A (pg ps i).vals.length (pg ps i).vals ∧ ∀ j,w.frozen? ⟨g,i * 3 + j,none⟩ = false:=WK (Kd.EB (Kd.S_R h) (fun _ _ => trivial)) i hi
theorem Tv {α : Type} (xs : List α) (i : Nat) (x : α) : (xs.set i x).zipIdx = xs.zipIdx.set i (x,i):=by
 apply List.ext_getElem?
 intro j
 rw [List.getElem?_zipIdx,List.getElem?_set,List.getElem?_set,List.getElem?_zipIdx,List.length_zipIdx]
 split
 ·rename_i e
  subst e
  split <;> simp
 ·rfl
section
variable {ops : Array Oper} {rest : List Oper} {o : Oper} {a : Act} {Q : Exit → Act → World → Prop}
theorem Ni {w0 W : World} {g n cap N : Nat} {ps : List Page} {q : Page} {v : Value} (i : Nat) (hn : ps.length = n) (hN : o.dst = none) (hgd : o.guard = none) (s x : Operand) (ho : o.op = .store 47 s x)
  (haddr : a.eval s = .pointer (some ⟨g,i * 3,none⟩)) (hx : a.eval x = q.own v) (hp : AU W N v q.vals) (hN0 : w0.heap.size ≤ N) (HO : KW W w0.heap.size (.slice (some ⟨g,0,none⟩) n cap) ps) (hi : i < n) (HB : Below w0.heap.size w0 W)
  (h : ∀ w1,KW w1 w0.heap.size (.slice (some ⟨g,0,none⟩) n cap) (ps.set i q) → Below w0.heap.size w0 w1 → W.grownBy w1 (some g) → wpList Tryz.prog ops Q rest a w1) : wpList Tryz.prog ops Q (o :: rest) a W:=by
 subst hn
 obtain ⟨c,hl,hM,hc,hf⟩:=Kd.OH HO z0 (i : Int) (by omega) (by omega)
 have hne : ∀ k,v.ownBlock = some k → True ∧ k ≠ g:=by
  rintro k hk
  refine ⟨trivial,?_⟩
  rintro rfl
  obtain ⟨cells,hc1⟩:=Du hp k hk
  obtain ⟨inner,ho2⟩:=Kd.KV HO
  obtain ⟨cells2,hc2⟩:=Du ho2 k rfl
  rw [hc1] at hc2
  injection hc2 with h1
  injection h1 with _ h2
  exact absurd h2 (by decide)
 obtain ⟨A1,c1,rfl,_,_⟩:=AU.reads hp
 refine Kd.U8 Dc w0.heap.size hN hgd 47 s x ho _ (i : Int) 0 ps q _ [.int .i64 q.lsn, .int .i64 q.owner, .slice A1 q.vals.length c1] c (fun _ => True) (fun k => True ∧ k ≠ g) haddr (by rw [Nat.add_zero];rfl) hx rfl (by kernel_rfl) (by simp [Value.oneCell']) HO (by omega) (by omega) hl hc (Nat.le_refl 3) ?_ (fun k hk => hk) HB (fun w1 h1 h2 h3 => h w1 h1 h2 h3)
 have hl3 : c.length = 3:=hl
 rw [List.take_zero,List.nil_append,List.drop_of_length_le (by simp [hl3]),List.append_nil]
 exact IW W _ _ q (Kd.EO (Ef hp hN0) hne)
theorem LQ {w0 W : World} {g n cap N : Nat} {ps : List Page} {q : Page} {v : Value} {ok : Nat → Prop} (i : Nat) (hn : ps.length = n) (hN : o.dst = none) (hgd : o.guard = none) (s x : Operand) (ho : o.op = .store 47 s x)
  (haddr : a.eval s = .pointer (some ⟨g,i * 3,none⟩)) (hx : a.eval x = q.own v) (hp : AU W N v q.vals) (hN0 : w0.heap.size ≤ N) (HO : CS W w0.heap.size (fun k => ok k ∧ k < N) (.slice (some ⟨g,0,none⟩) n cap) ps) (hi : i < n) (HB : Below w0.heap.size w0 W)
  (h : ∀ w1,CS w1 w0.heap.size (fun k => ok k ∨ some k = v.ownBlock) (.slice (some ⟨g,0,none⟩) n cap) (ps.set i q) → Below w0.heap.size w0 w1 → W.grownBy w1 (some g) → wpList Tryz.prog ops Q rest a w1) : wpList Tryz.prog ops Q (o :: rest) a W:=by
 subst hn
 have hgN:=LK HO g rfl
 obtain ⟨f,hf,hR⟩:=Kd.VK HO i (fun k => some k = v.ownBlock) (fun k hk h2 => by have:=Cm hp k hk.symm;omega)
 have hR2:=Kd.EB (ok':=fun k => ok k ∨ some k = v.ownBlock) hR (fun k hk => .inl hk.1)
 obtain ⟨c,hl,hM,hc,hfz⟩:=Kd.OH hR2 (z0,0) (i : Int) (by omega) (by omega)
 obtain ⟨A1,c1,rfl,_,_⟩:=AU.reads hp
 refine Kd.U8 (Kd.tag f Dc) w0.heap.size hN hgd 47 s x ho _ (i : Int) 0 ps.zipIdx (q,i) _ [.int .i64 q.lsn, .int .i64 q.owner, .slice A1 q.vals.length c1] c (fun k => ok k ∨ some k = (Value.slice A1 q.vals.length c1).ownBlock) (fun k => some k = (Value.slice A1 q.vals.length c1).ownBlock) haddr (by rw [Nat.add_zero];rfl) hx rfl (by kernel_rfl) (by simp [Value.oneCell']) hR2 (by omega) (by omega) hl hc (Nat.le_refl 3) ?_ (fun k hk => ⟨.inr hk,fun e => ?_⟩) HB (fun w1 h1 h2 h3 => ?_)
 ·have hl3 : c.length = 3:=hl
  rw [List.take_zero,List.nil_append,List.drop_of_length_le (by simp [hl3]),List.append_nil]
  exact IW W _ _ q (Kd.EO (Ef hp hN0) (fun k hk => ⟨hk.symm,hf k hk.symm⟩))
 ·have h1:=Cm hp k hk.symm
  omega
 ·refine h w1 ⟨f,?_⟩ h2 h3
  rw [Tv]
  exact h1
end
end Go.Proofs.YtklmhkglcfjclaaGreat
namespace Go.Proofs.YtklmhkglcfjclaaGreat
open Go.RowKit Go.Proofs.YtklmhkglcfjclaaGreatW.PrintWords Go.Proofs.YtklmhkglcfjclaaGreatW.PrintLast Go.Proofs.YtklmhkglcfjclaaGreatW.PrintMore
theorem CJ {P : Program} {ops : Array Oper} {l : List Oper} {Q : Exit → Act → World → Prop} {a : Act} {w : World} (r : Rec) (h : ∀ w1,Below w.heap.size w w1 → w1.heap.size = w.heap.size + 1 → Gu w1 ⟨w.heap.size,0,none⟩ r → wpList P ops Q l a w1) : wpList P ops Q l a (w.alloc (.cells #[.int .i64 r.kind, .int .i64 r.tx, .int .i64 r.page, .int .i64 r.slot, .int .i64 r.old, .int .i64 r.new, .int .i64 r.prev, .int .i64 r.next] 54)):=
 h _ ((Below.refl _ _).alloc (Nat.le_refl _) _) (BK _ _) (GD w r)
theorem M8 {ps : List Page} (h : geo ps) : ps.length = 5:=h.1
theorem AA {b : Bool} (h : b = true) (k : b = false) : False:=by rw [h] at k;cases k
theorem Ie {w : World} {b B : Nat} {v : Value} {xs : List Int} (h : AU w b v xs) (hg : ∀ k,v.ownBlock = some k → k ≠ B) (p : Page) (u : Value) : AU (CK w B p u) b v xs:=((h.far hg _ _).far hg _ _).far hg _ _
def WT (w : World) (ps : List Page) (b : Bool) (e : Ending) (w' : World) : Prop := ∃ v,e = .returned (.tuple #[v, .bool b]) ∧ EP w' w.heap.size v ps ∧ Below w.heap.size w w'
set_option maxRecDepth 100000 in
set_option maxHeartbeats 4000000 in
theorem La {w0 w : World} {A B : Option Addr} {c d : Nat} {ps : List Page} {l : List Rec} (hg : geo ps) (hok : ∀ k,k < l.length → D6 (rc l k) = true) (hl : l.length ≤ 150) (hb : Below w0.heap.size w0 w) (hr : Kd.C Dc w0 A ps.length ps) (hr2 : Kd.C Ca w0 B l.length l) : Calls Tryz.prog 44 #[.slice A ps.length c, .slice B l.length d] w (WT w (Cs ps l l.length) (I8 (Cs ps l l.length))):=by
 have HR:=As (BF hr hb)
 have HR2:=As (BF hr2 hb)
 have HG:=As hg
 have HK:=As hok
 clear hr hr2 hb hok hg
 go_enter Tryz.func44,Tryz.ntmps44
 go_wp2_with (go_at_call 47;refine (ET (FU HG.out) (by have:=HG.out.1;omega) (Below.refl _ _) HR.out).mono ?_;rintro e w1 ⟨v,rfl,hO,hb1⟩;obtain ⟨g,cap,rfl,hgb,hgl⟩:=Cy hO (by have:=HG.out.1;omega);have HO:=As hO;have HB:=As hb1;have HGB:=As (And.intro hgb hgl);clear hO hb1 hgb hgl)
 have h5:=HG.out.1
 rw [h5] at HO ⊢
 clear h5
 go_loopw [14] (fun i wr => ∃ k : Nat,k ≤ l.length ∧ i = .int .i64 (k : Int) ∧ Ac (EP wr w.heap.size (.slice (some ⟨g,0,none⟩) 5 cap) (Cs ps l k)) ∧ Ac (Below w.heap.size w wr)) (fun i _ => (l.length - intOf i).toNat)
 case atStart => exact ⟨0,Nat.zero_le _,rfl,HO,HB⟩
 case round =>
  obtain ⟨k,hk,rfl,HO,HW⟩:=hrel
  have HGk:=As (K8 HG.out HK.out k hk)
  by_cases hlt : k < l.length
  ·obtain ⟨ad,rfl,QR⟩:=Ci (BF HR2.out HW.out) k hlt
   obtain ⟨z0,z1,z2,z3,z4,z5,z6,z7⟩:=QR
   cases hc : CP (rc l k).kind
   ·have HC:=As hc
    clear hc
    go_wp2_with (first | (with_reducible refine CJ (rc l k) ?_;intro w2 hb2 hz2 hq2;have HW2:=As (bj HW.out hb2);have HO2:=As (Kd.BH HO.out hb2);obtain ⟨x0,x1,x2,x3,x4,x5,x6,x7⟩:=hq2;simp only [Nat.zero_add] at x1 x2 x3 x4 x5 x6 x7;clear hb2) | (go_at_call 94;refine (Fv HC.out _).mono ?_;rintro e w3 ⟨rfl,hb3⟩;have hs3:=hb3.size;have HW3:=As (bj HW2.out hb3);have HO3:=As (Kd.BH HO2.out hb3);clear hb3))
    go_roundw
    case rel => exact ⟨k + 1,by omega,by go_num,⟨by rw [Cs,En,if_neg (by rw [HC.out];simp)];exact HO3.out⟩,HW3⟩
    case measure => simp [intOf];omega
   ·have HC:=As hc
    have hP:=Hz (HK.out k hlt) hc
    have hp0 : 0 ≤ (rc l k).page:=hP.1
    have hp5 : (rc l k).page < 5:=by omega
    have hpn : (rc l k).page.toNat < 5:=by omega
    have HP:=As hP
    clear hc hP
    rcases lts (pg (Cs ps l k) (rc l k).page.toNat).lsn (k + 1 : Int) with ⟨e1,b1,c1⟩ | ⟨e1,b1,c1⟩
    ·go_wp2_with (first | (with_reducible refine CJ (rc l k) ?_;intro w2 hb2 hz2 hq2;have HW2:=As (bj HW.out hb2);have HO2:=As (Kd.BH HO.out hb2);have HQ2:=As hq2;obtain ⟨x0,x1,x2,x3,x4,x5,x6,x7⟩:=hq2;simp only [Nat.zero_add] at x1 x2 x3 x4 x5 x6 x7;clear hb2) | (go_at_call 94;refine (Fv HC.out _).mono ?_;rintro e w3 ⟨rfl,hb3⟩;have hs3:=hb3.size;have HW3:=As (bj HW2.out hb3);have HO3:=As (Kd.BH HO2.out hb3);have HQ3:=As (HQ2.out.up hb3);obtain ⟨-, -,y2, -, -, -, -, -⟩:=HQ2.out.up hb3;simp only [Nat.zero_add] at y2;obtain ⟨A3,c3,p0,p1,p2,pC, -⟩:=DV HO3.out (rc l k).page.toNat hpn;have HPC:=As pC;clear hb3 pC))
     obtain ⟨q,hq⟩ : ∃ q,Bj (pg (Cs ps l k) (rc l k).page.toNat) (rc l k) = q:=⟨_,rfl⟩
     have HQ:=As hq
     have hg3:=Gv HGk.out hpn
     have HG3:=As hg3
     have hgw : g < w3.heap.size:=by have:=HGB.out.2;have:=HW3.out.size;have:=X7 HO3.out g rfl;omega
     have hcall : ∀ wx,Below w3.heap.size w3 wx → Calls Tryz.prog 95 #[(pg (Cs ps l k) (rc l k).page.toNat).val A3 c3,(rc l k).val] wx (P9 wx q):=fun wx hb => HQ.out ▸ KY (rc l k) (by rw [HG3.out];decide) (by rw [HG3.out];have:=HP.out;omega) hb HPC.out
     clear hq hg3
     refine AY (fun lx a wx => (Below w.heap.size w wx ∧ Below w3.heap.size w3 wx) ∧ (Sl 6 39 (fun v wx => ∃ u,v = q.own u ∧ AU wx w3.heap.size u q.vals) lx a wx ∧ Sl 7 9 (fun v wx => ∃ B,v = .pointer (some ⟨B,0,none⟩) ∧ w3.heap.size ≤ B ∧ Ba wx B zp (.slice none 0 0)) lx a wx)) 8 rfl (by kernel_rfl) (⟨⟨Ak HW3.out,Ak (Below.refl _ _)⟩,Bb,Bb⟩) (fun HT => ?_)
     refine Ae (i:=0) (v:=?_) HT rfl (by kernel_rfl) rfl (kA Aa (kA (Ab rfl rfl) (Ab rfl rfl))) (by rfl) (fun _ _ _ h => h) (fun lx ax wx hS => ?_) ?_;rotate_left;(obtain ⟨⟨-,hbx⟩, -⟩:=hS;obtain ⟨x0,x1,x2,x3,x4,x5,x6,x7⟩:=HQ3.out.up hbx;simp only [Nat.zero_add] at x1 x2 x3 x4 x5 x6 x7;replace p0:=bc hbx p0;replace p1:=bc hbx p1;replace p2:=bc hbx p2;go_simp;with_reducible rfl);rotate_left;simp only [sc0,sc1]
     refine Ae (i:=1) (v:=?_) HT rfl (by kernel_rfl) rfl (kA Aa (kA (Ab rfl rfl) (Ab rfl rfl))) (by rfl) (fun _ _ _ h => h) (fun lx ax wx hS => ?_) ?_;rotate_left;(obtain ⟨⟨-,hbx⟩, -⟩:=hS;obtain ⟨x0,x1,x2,x3,x4,x5,x6,x7⟩:=HQ3.out.up hbx;simp only [Nat.zero_add] at x1 x2 x3 x4 x5 x6 x7;replace p0:=bc hbx p0;replace p1:=bc hbx p1;replace p2:=bc hbx p2;go_simp;with_reducible rfl);rotate_left;simp only [sc0,sc1]
     refine Ae (i:=2) (v:=?_) HT rfl (by kernel_rfl) rfl (kA Aa (kA (Ab rfl rfl) (Ab rfl rfl))) (by rfl) (fun _ _ _ h => h) (fun lx ax wx hS => ?_) ?_;rotate_left;(obtain ⟨⟨-,hbx⟩, -⟩:=hS;obtain ⟨x0,x1,x2,x3,x4,x5,x6,x7⟩:=HQ3.out.up hbx;simp only [Nat.zero_add] at x1 x2 x3 x4 x5 x6 x7;replace p0:=bc hbx p0;replace p1:=bc hbx p1;replace p2:=bc hbx p2;go_simp;with_reducible rfl);rotate_left;simp only [sc0,sc1]
     refine Ae (i:=3) (v:=?_) HT rfl (by kernel_rfl) rfl (kA Aa (kA (Ab rfl rfl) (Ab rfl rfl))) (by rfl) (fun _ _ _ h => h) (fun lx ax wx hS => ?_) ?_;rotate_left;(obtain ⟨⟨-,hbx⟩, -⟩:=hS;obtain ⟨x0,x1,x2,x3,x4,x5,x6,x7⟩:=HQ3.out.up hbx;simp only [Nat.zero_add] at x1 x2 x3 x4 x5 x6 x7;replace p0:=bc hbx p0;replace p1:=bc hbx p1;replace p2:=bc hbx p2;go_simp;with_reducible rfl);rotate_left;simp only [sc0,sc1]
     refine Ae (i:=4) (v:=?_) HT rfl (by kernel_rfl) rfl (kA Aa (kA (Ab rfl rfl) (Ab rfl rfl))) (by rfl) (fun _ _ _ h => h) (fun lx ax wx hS => ?_) ?_;rotate_left;(obtain ⟨⟨-,hbx⟩, -⟩:=hS;obtain ⟨x0,x1,x2,x3,x4,x5,x6,x7⟩:=HQ3.out.up hbx;simp only [Nat.zero_add] at x1 x2 x3 x4 x5 x6 x7;replace p0:=bc hbx p0;replace p1:=bc hbx p1;replace p2:=bc hbx p2;go_simp;with_reducible rfl);rotate_left;simp only [sc0,sc1]
     refine Ae (i:=5) (v:=?_) HT rfl (by kernel_rfl) rfl (kA Aa (kA (Ab rfl rfl) (Ab rfl rfl))) (by rfl) (fun _ _ _ h => h) (fun lx ax wx hS => ?_) ?_;rotate_left;(obtain ⟨⟨-,hbx⟩, -⟩:=hS;obtain ⟨x0,x1,x2,x3,x4,x5,x6,x7⟩:=HQ3.out.up hbx;simp only [Nat.zero_add] at x1 x2 x3 x4 x5 x6 x7;replace p0:=bc hbx p0;replace p1:=bc hbx p1;replace p2:=bc hbx p2;go_simp;with_reducible rfl);rotate_left;simp only [sc0,sc1]
     refine AR [6,7] (by kernel_rfl) (fun i hi w4 hS => ?_)
     rcases List.mem_cons.1 hi with rfl | hi
     ·refine D8 (f:=95) (args:=#[(pg (Cs ps l k) (rc l k).page.toNat).val A3 c3,(rc l k).val]) rfl rfl Tryz.func95 (by kernel_rfl) rfl rfl (by rfl) (by simp only [List.map_toArray,List.map_cons,List.map_nil];rfl) ((hcall w4 hS.1.2).mono ?_)
      rintro e w6 ⟨u,rfl,ho,hb⟩
      refine ⟨_,rfl,⟨⟨bj hS.1.1 hb,bj hS.1.2 hb⟩,fun _ => ⟨u,rfl,ho.lower hS.1.2.size⟩,fun h => ?_⟩,?_⟩
      ·exact (AA h (by kernel_rfl)).elim
      simp only [sc0,sc1]
      refine AR [7] (by kernel_rfl) (fun i hi w5 hS => ?_)
      obtain rfl:=List.mem_singleton.1 hi
      refine BI (w1:=?_) (.pointer (some ⟨w5.heap.size,0,none⟩)) rfl rfl (by rfl) ?_ ?_
      rotate_left
      ·go_simp
       with_reducible rfl
      refine ⟨⟨⟨Ah hS.1.1 _,Ah hS.1.2 _⟩,fun h => ?_,fun _ => ⟨w5.heap.size,rfl,hS.1.2.size,Ba.mk1 w5 zp _⟩⟩,?_⟩
      ·obtain ⟨u1,hu1,ho1⟩:=hS.2.1 (by kernel_rfl)
       exact ⟨u1,hu1,ho1.below (Ah (Below.refl _ _) _)⟩
      simp only [sc0,sc1]
      refine Cb (i:=8) (by kernel_rfl) rfl (fun w7 hS => ?_)
      obtain ⟨⟨h1,h2⟩,h3,h4⟩:=hS
      obtain ⟨u1,hu1,hown⟩:=h3 (by kernel_rfl)
      obtain ⟨B,hB,hBle,hbox⟩:=h4 (by kernel_rfl)
      have hu1 : q.own u = q.own u1:=hu1
      obtain rfl : u = u1:=by simpa using hu1
      obtain rfl : B = w5.heap.size:=by
       have hB : Value.pointer (some ⟨w5.heap.size,0,none⟩) = .pointer (some ⟨B,0,none⟩):=hB
       injection hB with hB
       injection hB with hB
       injection hB with hB
       exact hB.symm
      have H2:=As (CB h2 hBle q u)
      have H1:=As (CB (g:=w5.heap.size) h1 (by have:=HW3.out.size;omega) q u)
      have HBX:=As (hbox.CK q u)
      have HU:=As (Ie hown (EK hown hbox) q u)
      have HUN:=As (EK hown hbox)
      have b0:=hbox.c0
      have b1:=hbox.c1
      have b2:=hbox.c2
      have d0:=hbox.frz 0
      have d1:=hbox.frz 1
      have d2:=hbox.frz 2
      obtain ⟨A8,c8,rfl, -, -⟩:=hown.reads
      refine Bv (w1:=?_) rfl (by rfl) ?_ ?_
      rotate_left
      ·go_simp
       with_reducible rfl
      refine BP (by kernel_rfl) ?_
      clear hu1 hB h1 h2 h3 h4 hown hbox b0 b1 b2 d0 d1 d2 p0 p1 p2 hcall ho
      obtain ⟨W8,hW8⟩ : ∃ W8,CK w7 w5.heap.size q (.slice A8 q.vals.length c8) = W8:=⟨_,rfl⟩
      rw [hW8] at H1 H2 HBX HU
      have e8:=hW8
      unfold CK at e8
      rw [e8]
      clear e8 hW8
      have b0:=HBX.out.c0
      have b1:=HBX.out.c1
      have b2:=HBX.out.c2
      have d0:=HBX.out.frz 0
      obtain ⟨-, -,x2, -, -, -, -, -⟩:=HQ3.out.up H2.out
      simp only [Nat.zero_add] at x2
      have HS8:=As (And.intro hBle (And.intro hz2 hs3))
      have hne : wr.heap.size ≠ w5.heap.size:=by omega
      have hne2 : w5.heap.size ≠ wr.heap.size:=by omega
      have hne3 : g ≠ w5.heap.size:=by omega
      have HLB:=As hBle
      have HLN:=As hpn
      go_wp2_with (with_reducible refine Rx (.store 47 (.tmp 47) (.tmp 46)) rfl ?_;go_loud (refine LQ (ok:=fun _ => True) (w0:=w) (N:=w3.heap.size) (q:=⟨(k : Int) + 1,q.owner,q.vals⟩) (rc l k).page.toNat (M8 HGk.out) rfl rfl (.tmp 47) (.tmp 46) rfl rfl rfl (HU.out.far HUN.out _ _) HW3.out.size (Kd.EG HO3.out (H2.out.setCell (p:=⟨w5.heap.size,0,none⟩) HLB.out _)) HLN.out (H1.out.setCell (p:=⟨w5.heap.size,0,none⟩) (by have:=HW3.out.size;have:=HLB.out;simp only;omega) _) ?_);intro w9 hO9 hB9 hg9;have HO9:=As (Kd.Dx (ok':=fun _ => True) hO9 (fun _ _ => trivial));have HB9:=As hB9;clear hO9 hB9 hg9)
      go_roundw
      case rel => exact ⟨k + 1,by omega,by go_num,⟨by rw [Cs,En,if_pos ⟨HC.out,by have:=e1.out;push_cast;omega⟩,doR,HQ.out];exact HO9.out⟩,HB9⟩
      case measure => simp [intOf];omega
     ·obtain rfl:=List.mem_singleton.1 hi
      refine BI (w1:=?_) (.pointer (some ⟨w4.heap.size,0,none⟩)) rfl rfl (by rfl) ?_ ?_
      rotate_left
      ·go_simp
       with_reducible rfl
      refine ⟨⟨⟨Ah hS.1.1 _,Ah hS.1.2 _⟩,fun h => ?_,fun _ => ⟨w4.heap.size,rfl,hS.1.2.size,Ba.mk1 w4 zp _⟩⟩,?_⟩
      ·exact (AA h (by kernel_rfl)).elim
      simp only [sc0,sc1]
      refine AR [6] (by kernel_rfl) (fun i hi w5 hS => ?_)
      obtain rfl:=List.mem_singleton.1 hi
      refine D8 (f:=95) (args:=#[(pg (Cs ps l k) (rc l k).page.toNat).val A3 c3,(rc l k).val]) rfl rfl Tryz.func95 (by kernel_rfl) rfl rfl (by rfl) (by simp only [List.map_toArray,List.map_cons,List.map_nil];rfl) ((hcall w5 hS.1.2).mono ?_)
      rintro e w6 ⟨u,rfl,ho,hb⟩
      refine ⟨_,rfl,⟨⟨bj hS.1.1 hb,bj hS.1.2 hb⟩,fun _ => ⟨u,rfl,ho.lower hS.1.2.size⟩,fun h => ?_⟩,?_⟩
      ·obtain ⟨B,hB,hBle,hbox⟩:=hS.2.2 (by kernel_rfl)
       exact ⟨B,hB,hBle,hbox.up hb⟩
      simp only [sc0,sc1]
      refine Cb (i:=8) (by kernel_rfl) rfl (fun w7 hS => ?_)
      obtain ⟨⟨h1,h2⟩,h3,h4⟩:=hS
      obtain ⟨u1,hu1,hown⟩:=h3 (by kernel_rfl)
      obtain ⟨B,hB,hBle,hbox⟩:=h4 (by kernel_rfl)
      have hu1 : q.own u = q.own u1:=hu1
      obtain rfl : u = u1:=by simpa using hu1
      obtain rfl : B = w4.heap.size:=by
       have hB : Value.pointer (some ⟨w4.heap.size,0,none⟩) = .pointer (some ⟨B,0,none⟩):=hB
       injection hB with hB
       injection hB with hB
       injection hB with hB
       exact hB.symm
      have H2:=As (CB h2 hBle q u)
      have H1:=As (CB (g:=w4.heap.size) h1 (by have:=HW3.out.size;omega) q u)
      have HBX:=As (hbox.CK q u)
      have HU:=As (Ie hown (EK hown hbox) q u)
      have HUN:=As (EK hown hbox)
      have b0:=hbox.c0
      have b1:=hbox.c1
      have b2:=hbox.c2
      have d0:=hbox.frz 0
      have d1:=hbox.frz 1
      have d2:=hbox.frz 2
      obtain ⟨A8,c8,rfl, -, -⟩:=hown.reads
      refine Bv (w1:=?_) rfl (by rfl) ?_ ?_
      rotate_left
      ·go_simp
       with_reducible rfl
      refine BP (by kernel_rfl) ?_
      clear hu1 hB h1 h2 h3 h4 hown hbox b0 b1 b2 d0 d1 d2 p0 p1 p2 hcall ho
      obtain ⟨W8,hW8⟩ : ∃ W8,CK w7 w4.heap.size q (.slice A8 q.vals.length c8) = W8:=⟨_,rfl⟩
      rw [hW8] at H1 H2 HBX HU
      have e8:=hW8
      unfold CK at e8
      rw [e8]
      clear e8 hW8
      have b0:=HBX.out.c0
      have b1:=HBX.out.c1
      have b2:=HBX.out.c2
      have d0:=HBX.out.frz 0
      obtain ⟨-, -,x2, -, -, -, -, -⟩:=HQ3.out.up H2.out
      simp only [Nat.zero_add] at x2
      have HS8:=As (And.intro hBle (And.intro hz2 hs3))
      have hne : wr.heap.size ≠ w4.heap.size:=by omega
      have hne2 : w4.heap.size ≠ wr.heap.size:=by omega
      have hne3 : g ≠ w4.heap.size:=by omega
      have HLB:=As hBle
      have HLN:=As hpn
      go_wp2_with (with_reducible refine Rx (.store 47 (.tmp 47) (.tmp 46)) rfl ?_;go_loud (refine LQ (ok:=fun _ => True) (w0:=w) (N:=w3.heap.size) (q:=⟨(k : Int) + 1,q.owner,q.vals⟩) (rc l k).page.toNat (M8 HGk.out) rfl rfl (.tmp 47) (.tmp 46) rfl rfl rfl (HU.out.far HUN.out _ _) HW3.out.size (Kd.EG HO3.out (H2.out.setCell (p:=⟨w4.heap.size,0,none⟩) HLB.out _)) HLN.out (H1.out.setCell (p:=⟨w4.heap.size,0,none⟩) (by have:=HW3.out.size;have:=HLB.out;simp only;omega) _) ?_);intro w9 hO9 hB9 hg9;have HO9:=As (Kd.Dx (ok':=fun _ => True) hO9 (fun _ _ => trivial));have HB9:=As hB9;clear hO9 hB9 hg9)
      go_roundw
      case rel => exact ⟨k + 1,by omega,by go_num,⟨by rw [Cs,En,if_pos ⟨HC.out,by have:=e1.out;push_cast;omega⟩,doR,HQ.out];exact HO9.out⟩,HB9⟩
      case measure => simp [intOf];omega
    ·go_wp2_with (first | (with_reducible refine CJ (rc l k) ?_;intro w2 hb2 hz2 hq2;have HW2:=As (bj HW.out hb2);have HO2:=As (Kd.BH HO.out hb2);have HQ2:=As hq2;obtain ⟨x0,x1,x2,x3,x4,x5,x6,x7⟩:=hq2;simp only [Nat.zero_add] at x1 x2 x3 x4 x5 x6 x7;clear hb2) | (go_at_call 94;refine (Fv HC.out _).mono ?_;rintro e w3 ⟨rfl,hb3⟩;have hs3:=hb3.size;have HW3:=As (bj HW2.out hb3);have HO3:=As (Kd.BH HO2.out hb3);have HQ3:=As (HQ2.out.up hb3);obtain ⟨-, -,y2, -, -, -, -, -⟩:=HQ2.out.up hb3;simp only [Nat.zero_add] at y2;obtain ⟨A3,c3,p0,p1,p2,pC, -⟩:=DV HO3.out (rc l k).page.toNat hpn;have HPC:=As pC;clear hb3 pC))
     go_roundw
     case rel => exact ⟨k + 1,by omega,by go_num,⟨by rw [Cs,En,if_neg (by have:=e1.out;simp;intro _;omega)];exact HO3.out⟩,HW3⟩
     case measure => simp [intOf];omega
  ·have hke : k = l.length:=by omega
   have HE:=As hke
   clear hke
   go_wp2_with (go_at_call 64;refine (Us HGk.out.1 rfl (Below.refl _ _) (Kd.RJ HO.out).2.2).mono ?_;rintro e w2 ⟨rfl,hb2⟩;have HW2:=As (bj HW.out hb2);have HO2:=As (Kd.BH HO.out hb2);clear hb2)
   go_ret2
   exact ⟨.slice (some ⟨g,0,none⟩) 5 cap,by rw [HE.out];rfl,by rw [← HE.out];exact HO2.out,HW2.out⟩
set_option maxRecDepth 100000 in
theorem Wh {α : Type} (d : Kd α) (hsz : d.sz = 3) {o : Oper} {a : Act} {w0 W : World} {g n cap : Nat} {xs : List α} {x' z : α} {q : Page} {v : Value} {ok okp : Nat → Prop} (i : Nat) (s x : Operand) (ho : o.op = .store 47 s x)
  (haddr : a.eval s = .pointer (some ⟨g,i * 3,none⟩)) (hx : a.eval x = q.own v) (hv1 : ∃ A c,v = .slice A q.vals.length c) (HO : d.R 47 W w0.heap.size ok (.slice (some ⟨g,0,none⟩) n cap) xs) (hi : i < n) (HB : Below w0.heap.size w0 W)
  (hM : d.M W w0.heap.size okp x' [.int .i64 q.lsn, .int .i64 q.owner,v]) (hokp : ∀ k,okp k → ok k ∧ k ≠ g) :
  ∃ w1,(execOp a.eval o).run Tryz.prog W = .ok .skip w1 ∧ d.R 47 w1 w0.heap.size ok (.slice (some ⟨g,0,none⟩) n cap) (xs.set i x') ∧ Below w0.heap.size w0 w1 ∧ W.grownBy w1 (some g):=by
 obtain ⟨c,hl,hM0,hc,hf⟩:=Kd.OH HO z (i : Int) (by omega) (by omega)
 obtain ⟨A1,c1,rfl⟩:=hv1
 have hl3 : c.length = 3:=hl.trans hsz
 obtain ⟨hrow,hg⟩:=Kd.VQ (okp:=okp) HO (i : Int) (by omega) (by omega) (seg := [.int .i64 q.lsn, .int .i64 q.owner, .slice A1 q.vals.length c1]) (j:=0) (x':=x') hl hc (by rw [hsz];exact Nat.le_refl 3) (by
  rw [List.take_zero,List.nil_append,List.drop_of_length_le (by simp [hl3]),List.append_nil]
  exact hM) hokp
 rw [hsz] at hrow hg
 have hbg : w0.heap.size ≤ g:=Kd.Tj HO g (by simp [Value.ownBlock])
 have hB : Below w0.heap.size w0 (W.setCells g ((i : Int).toNat * 3 + 0) [.int .i64 q.lsn, .int .i64 q.owner, .slice A1 q.vals.length c1]):=HB.trans ⟨hg.os,hg.tape,hg.output,hg.size,fun k hk => by
  rcases Nat.lt_or_ge k W.heap.size with hlt | hge
  ·exact hg.block k hlt (fun he => by injection he with he;omega)
  ·exact GA _ _ k (by omega)⟩
 refine ⟨_,?_,hrow,hB,hg⟩
 obtain ⟨_,inner,hown,hr⟩:=HO
 have hnx : n = xs.length:=by
  rcases hown.2 with ⟨hv,h0⟩ | ⟨g',cap',cur,hv,_⟩
  ·cases hv
  ·injection hv
 have hrun : (Instr.storeAt 47 (.pointer (some ⟨g,i * 3 + 0,none⟩)) (q.own (.slice A1 q.vals.length c1))).run Tryz.prog W = .ok () (W.setCells g (i * 3 + 0) [.int .i64 q.lsn, .int .i64 q.owner, .slice A1 q.vals.length c1]):=by
  rcases hown.2 with ⟨hv,_⟩ | ⟨g',cap',cur,hv,hb,hh,hnc,hcm,hcs,_⟩
  ·cases hv
  injection hv with ha _ hc
  injection ha with ha
  injection ha with hg'
  subst hg';subst hc
  refine KJ _ _ _ hh rfl (by kernel_rfl) ?_ (by simp [Value.oneCell'])
  have h3 : cur.size = cap * 3:=by rw [← hsz];exact hcs
  simp
  omega
 unfold execOp
 simp only [ho,haddr,hx,Sem.run_bind,Sem.run_pure]
 rw [Nat.add_zero] at hrun
 rw [hrun]
 rfl
theorem EI {ops : Array Oper} {Q : Exit → Act → World → Prop} {K : Act → World → Prop} {i0 : Nat} {o : Oper} {a : Act} {w0 W : World} {g n cap N : Nat} {ps : List Page} {q : Page} {v : Value} {ok : Nat → Prop} (i : Nat) (hn : ps.length = n) (s x : Operand) (hi0 : ops.toList[i0]? = some o) (hw : Region.wanted o (yielded ops a.tmps) = true) (ho : o.op = .store 47 s x)
  (haddr : a.eval s = .pointer (some ⟨g,i * 3,none⟩)) (hx : a.eval x = q.own v) (hp : AU W N v q.vals) (hN0 : w0.heap.size ≤ N) (HO : CS W w0.heap.size (fun k => ok k ∧ k < N) (.slice (some ⟨g,0,none⟩) n cap) ps) (hi : i < n) (HB : Below w0.heap.size w0 W)
  (h : ∀ w1,CS w1 w0.heap.size (fun k => ok k ∨ some k = v.ownBlock) (.slice (some ⟨g,0,none⟩) n cap) (ps.set i q) → Below w0.heap.size w0 w1 → W.grownBy w1 (some g) → K (a.put o.dst undef) w1) : wpOp Tryz.prog ops Q i0 K a W:=by
 subst hn
 have hgN:=LK HO g rfl
 obtain ⟨f,hf,hR⟩:=Kd.VK HO i (fun k => some k = v.ownBlock) (fun k hk h2 => by have:=Cm hp k hk.symm;omega)
 have hR2:=Kd.EB (ok':=fun k => ok k ∨ some k = v.ownBlock) hR (fun k hk => .inl hk.1)
 have hl0 : ps.zipIdx.length = ps.length:=List.length_zipIdx
 obtain ⟨A1,c1,hv,_,_⟩:=AU.reads hp
 obtain ⟨w1,hr,h1,h2,h3⟩:=Wh (Kd.tag f Dc) rfl (z:=(z0,0)) (x':=(q,i)) (okp:=fun k => some k = v.ownBlock) i s x ho haddr hx ⟨A1,c1,hv⟩ hR2 hi HB (IW W _ _ q (Kd.EO (Ef hp hN0) (fun k hk => ⟨hk.symm,hf k hk.symm⟩))) (fun k hk => ⟨.inr hk,fun e => by have:=Cm hp k hk.symm;omega⟩)
 exact Bv hi0 hw hr (h w1 ⟨f,by rw [Tv];exact h1⟩ h2 h3)
set_option maxRecDepth 100000 in
set_option maxHeartbeats 4000000 in
theorem OX {w0 w : World} {A B : Option Addr} {c d : Nat} {ps : List Page} {l : List Rec} (hg : geo ps) (hok : ∀ k,k < l.length → D6 (rc l k) = true) (hl : l.length ≤ 150) (hb : Below w0.heap.size w0 w) (hr : Kd.C Dc w0 A ps.length ps) (hr2 : Kd.C Ca w0 B l.length l) : Calls Tryz.prog 81 #[.slice A ps.length c, .slice B l.length d] w (OG w (Cs ps l l.length)):=by
 have HR:=As (BF hr hb)
 have HR2:=As (BF hr2 hb)
 have HG:=As hg
 have HK:=As hok
 clear hr hr2 hb hok hg
 go_enter Tryz.func81,Tryz.ntmps81
 go_wp2_with (go_at_call 88;refine (Dw (FU HG.out) (by have:=HG.out.1;omega) (Below.refl _ _) HR.out).mono ?_;rintro e w1 ⟨v,rfl,hO,hb1⟩;obtain ⟨g,cap,rfl,hgb,hgl⟩:=Cy hO (by have:=HG.out.1;omega);have HO:=As hO;have HB:=As hb1;have HGB:=As (And.intro hgb hgl);clear hO hb1 hgb hgl)
 have h5:=HG.out.1
 rw [h5] at HO ⊢
 clear h5
 go_loopw [6] (fun i wr => ∃ k : Nat,k ≤ l.length ∧ i = .int .i64 (k : Int) ∧ Ac (EP wr w.heap.size (.slice (some ⟨g,0,none⟩) 5 cap) (Cs ps l k)) ∧ Ac (Below w.heap.size w wr)) (fun i _ => (l.length - intOf i).toNat)
 case atStart => exact ⟨0,Nat.zero_le _,rfl,HO,HB⟩
 case round =>
  obtain ⟨k,hk,rfl,HO,HW⟩:=hrel
  have HGk:=As (K8 HG.out HK.out k hk)
  by_cases hlt : k < l.length
  ·obtain ⟨ad,rfl,QR⟩:=Ci (BF HR2.out HW.out) k hlt
   obtain ⟨z0,z1,z2,z3,z4,z5,z6,z7⟩:=QR
   cases hc : CP (rc l k).kind
   ·have HC:=As hc
    clear hc
    go_wp2_with (first | (with_reducible refine CJ (rc l k) ?_;intro w3 hb2 hz2 hq2;have HW3:=As (bj HW.out hb2);have HO3:=As (Kd.BH HO.out hb2);have HQ3:=As hq2;obtain ⟨x0,x1,x2,x3,x4,x5,x6,x7⟩:=hq2;simp only [Nat.zero_add] at x1 x2 x3 x4 x5 x6 x7;clear hb2) | (go_at_call 143;refine (FP HC.out _).mono ?_;rintro e w4 ⟨rfl,rfl⟩))
    go_roundw
    case rel => exact ⟨k + 1,by omega,by go_num,⟨by rw [Cs,En,if_neg (by rw [HC.out];simp)];exact HO3.out⟩,HW3⟩
    case measure => simp [intOf];omega
   ·have HC:=As hc
    have hP:=Hz (HK.out k hlt) hc
    have hp0 : 0 ≤ (rc l k).page:=hP.1
    have hp5 : (rc l k).page < 5:=by omega
    have hpn : (rc l k).page.toNat < 5:=by omega
    have HP:=As hP
    clear hc hP
    rcases lts (pg (Cs ps l k) (rc l k).page.toNat).lsn (k + 1 : Int) with ⟨e1,b1,c1⟩ | ⟨e1,b1,c1⟩
    ·go_wp2_with (first | (with_reducible refine CJ (rc l k) ?_;intro w3 hb2 hz2 hq2;have HW3:=As (bj HW.out hb2);have HO3:=As (Kd.BH HO.out hb2);have HQ3:=As hq2;obtain ⟨x0,x1,x2,x3,x4,x5,x6,x7⟩:=hq2;simp only [Nat.zero_add] at x1 x2 x3 x4 x5 x6 x7;obtain ⟨A3,c3,p0,p1,p2,pC, -⟩:=DV HO3.out (rc l k).page.toNat hpn;have HPC:=As pC;clear pC;clear hb2) | (go_at_call 143;refine (FP HC.out _).mono ?_;rintro e w4 ⟨rfl,rfl⟩))
     obtain ⟨q,hq⟩ : ∃ q,doR (pg (Cs ps l k) (rc l k).page.toNat) (rc l k) ((k : Int) + 1) = q:=⟨_,rfl⟩
     have HQ:=As hq
     have hg3:=Gv HGk.out hpn
     have HG3:=As hg3
     have hcall : ∀ wx,Below w3.heap.size w3 wx → Calls Tryz.prog 144 #[(pg (Cs ps l k) (rc l k).page.toNat).val A3 c3,(rc l k).val, .int .i64 ((k : Int) + 1)] wx (P9 wx q):=fun wx hb => HQ.out ▸ Oo (rc l k) ((k : Int) + 1) (by rw [HG3.out];decide) (by rw [HG3.out];have:=HP.out;omega) hb HPC.out
     have hwr : IntKind.i64.wrap ((k : Int) + 1) = (k : Int) + 1:=by simp (disch:=omega) only [IntWalk.i64_in]
     clear hq hg3
     refine AY (fun lx a wx => (Below w.heap.size w wx ∧ Below w3.heap.size w3 wx) ∧ Sl 11 45 (fun v wx => ∃ u,v = q.own u ∧ AU wx w3.heap.size u q.vals) lx a wx) 13 rfl (by kernel_rfl) (⟨⟨Ak HW3.out,Ak (Below.refl _ _)⟩,Bb⟩) (fun HT => ?_)
     refine Ae (i:=0) (v:=?_) HT rfl (by kernel_rfl) rfl (kA Aa (Ab rfl rfl)) (by rfl) (fun _ _ _ h => h) (fun lx ax wx hS => ?_) ?_;rotate_left;(obtain ⟨⟨-,hbx⟩, -⟩:=hS;obtain ⟨x0,x1,x2,x3,x4,x5,x6,x7⟩:=HQ3.out.up hbx;simp only [Nat.zero_add] at x1 x2 x3 x4 x5 x6 x7;replace p0:=bc hbx p0;replace p1:=bc hbx p1;replace p2:=bc hbx p2;go_simp;with_reducible rfl);rotate_left;simp only [sc0,sc1]
     refine Ae (i:=1) (v:=?_) HT rfl (by kernel_rfl) rfl (kA Aa (Ab rfl rfl)) (by rfl) (fun _ _ _ h => h) (fun lx ax wx hS => ?_) ?_;rotate_left;(obtain ⟨⟨-,hbx⟩, -⟩:=hS;obtain ⟨x0,x1,x2,x3,x4,x5,x6,x7⟩:=HQ3.out.up hbx;simp only [Nat.zero_add] at x1 x2 x3 x4 x5 x6 x7;replace p0:=bc hbx p0;replace p1:=bc hbx p1;replace p2:=bc hbx p2;go_simp;with_reducible rfl);rotate_left;simp only [sc0,sc1]
     refine Ae (i:=2) (v:=?_) HT rfl (by kernel_rfl) rfl (kA Aa (Ab rfl rfl)) (by rfl) (fun _ _ _ h => h) (fun lx ax wx hS => ?_) ?_;rotate_left;(obtain ⟨⟨-,hbx⟩, -⟩:=hS;obtain ⟨x0,x1,x2,x3,x4,x5,x6,x7⟩:=HQ3.out.up hbx;simp only [Nat.zero_add] at x1 x2 x3 x4 x5 x6 x7;replace p0:=bc hbx p0;replace p1:=bc hbx p1;replace p2:=bc hbx p2;go_simp;with_reducible rfl);rotate_left;simp only [sc0,sc1]
     refine Ae (i:=3) (v:=?_) HT rfl (by kernel_rfl) rfl (kA Aa (Ab rfl rfl)) (by rfl) (fun _ _ _ h => h) (fun lx ax wx hS => ?_) ?_;rotate_left;(obtain ⟨⟨-,hbx⟩, -⟩:=hS;obtain ⟨x0,x1,x2,x3,x4,x5,x6,x7⟩:=HQ3.out.up hbx;simp only [Nat.zero_add] at x1 x2 x3 x4 x5 x6 x7;replace p0:=bc hbx p0;replace p1:=bc hbx p1;replace p2:=bc hbx p2;go_simp;with_reducible rfl);rotate_left;simp only [sc0,sc1]
     refine Ae (i:=4) (v:=?_) HT rfl (by kernel_rfl) rfl (kA Aa (Ab rfl rfl)) (by rfl) (fun _ _ _ h => h) (fun lx ax wx hS => ?_) ?_;rotate_left;(obtain ⟨⟨-,hbx⟩, -⟩:=hS;obtain ⟨x0,x1,x2,x3,x4,x5,x6,x7⟩:=HQ3.out.up hbx;simp only [Nat.zero_add] at x1 x2 x3 x4 x5 x6 x7;replace p0:=bc hbx p0;replace p1:=bc hbx p1;replace p2:=bc hbx p2;go_simp;with_reducible rfl);rotate_left;simp only [sc0,sc1]
     refine Ae (i:=5) (v:=?_) HT rfl (by kernel_rfl) rfl (kA Aa (Ab rfl rfl)) (by rfl) (fun _ _ _ h => h) (fun lx ax wx hS => ?_) ?_;rotate_left;(obtain ⟨⟨-,hbx⟩, -⟩:=hS;obtain ⟨x0,x1,x2,x3,x4,x5,x6,x7⟩:=HQ3.out.up hbx;simp only [Nat.zero_add] at x1 x2 x3 x4 x5 x6 x7;replace p0:=bc hbx p0;replace p1:=bc hbx p1;replace p2:=bc hbx p2;go_simp;with_reducible rfl);rotate_left;simp only [sc0,sc1]
     refine Ae (i:=6) (v:=?_) HT rfl (by kernel_rfl) rfl (kA Aa (Ab rfl rfl)) (by rfl) (fun _ _ _ h => h) (fun lx ax wx hS => ?_) ?_;rotate_left;(obtain ⟨⟨-,hbx⟩, -⟩:=hS;obtain ⟨x0,x1,x2,x3,x4,x5,x6,x7⟩:=HQ3.out.up hbx;simp only [Nat.zero_add] at x1 x2 x3 x4 x5 x6 x7;replace p0:=bc hbx p0;replace p1:=bc hbx p1;replace p2:=bc hbx p2;go_simp;with_reducible rfl);rotate_left;simp only [sc0,sc1]
     refine Ae (i:=7) (v:=?_) HT rfl (by kernel_rfl) rfl (kA Aa (Ab rfl rfl)) (by rfl) (fun _ _ _ h => h) (fun lx ax wx hS => ?_) ?_;rotate_left;(obtain ⟨⟨-,hbx⟩, -⟩:=hS;obtain ⟨x0,x1,x2,x3,x4,x5,x6,x7⟩:=HQ3.out.up hbx;simp only [Nat.zero_add] at x1 x2 x3 x4 x5 x6 x7;replace p0:=bc hbx p0;replace p1:=bc hbx p1;replace p2:=bc hbx p2;go_simp;with_reducible rfl);rotate_left;simp only [sc0,sc1]
     refine Ae (i:=8) (v:=?_) HT rfl (by kernel_rfl) rfl (kA Aa (Ab rfl rfl)) (by rfl) (fun _ _ _ h => h) (fun lx ax wx hS => ?_) ?_;rotate_left;(obtain ⟨⟨-,hbx⟩, -⟩:=hS;obtain ⟨x0,x1,x2,x3,x4,x5,x6,x7⟩:=HQ3.out.up hbx;simp only [Nat.zero_add] at x1 x2 x3 x4 x5 x6 x7;replace p0:=bc hbx p0;replace p1:=bc hbx p1;replace p2:=bc hbx p2;go_simp;with_reducible rfl);rotate_left;simp only [sc0,sc1]
     refine Ae (i:=9) (v:=?_) HT rfl (by kernel_rfl) rfl (kA Aa (Ab rfl rfl)) (by rfl) (fun _ _ _ h => h) (fun lx ax wx hS => ?_) ?_;rotate_left;(obtain ⟨⟨-,hbx⟩, -⟩:=hS;obtain ⟨x0,x1,x2,x3,x4,x5,x6,x7⟩:=HQ3.out.up hbx;simp only [Nat.zero_add] at x1 x2 x3 x4 x5 x6 x7;replace p0:=bc hbx p0;replace p1:=bc hbx p1;replace p2:=bc hbx p2;go_simp;with_reducible rfl);rotate_left;simp only [sc0,sc1]
     refine Ae (i:=10) (v:=?_) HT rfl (by kernel_rfl) rfl (kA Aa (Ab rfl rfl)) (by rfl) (fun _ _ _ h => h) (fun lx ax wx hS => ?_) ?_;rotate_left;(obtain ⟨⟨-,hbx⟩, -⟩:=hS;obtain ⟨x0,x1,x2,x3,x4,x5,x6,x7⟩:=HQ3.out.up hbx;simp only [Nat.zero_add] at x1 x2 x3 x4 x5 x6 x7;replace p0:=bc hbx p0;replace p1:=bc hbx p1;replace p2:=bc hbx p2;go_simp;with_reducible rfl);rotate_left;simp only [sc0,sc1]
     refine BL (i:=11) (f:=144) (args:=#[(pg (Cs ps l k) (rc l k).page.toNat).val A3 c3,(rc l k).val, .int .i64 ((k : Int) + 1)]) (fun v => ∃ u,v = q.own u) rfl (by kernel_rfl) rfl Tryz.func144 (by kernel_rfl) rfl rfl (by rfl) (by simp only [List.map_toArray,List.map_cons,List.map_nil];rfl) (fun wx hS => (hcall wx hS.1.2).mono (by rintro e w6 ⟨u,rfl,ho,hb⟩;exact ⟨_,rfl,⟨u,rfl⟩,⟨bj hS.1.1 hb,bj hS.1.2 hb⟩,fun _ => ⟨u,rfl,ho.lower hS.1.2.size⟩⟩)) (fun vx hg => ?_);simp only [sc0,sc1]
     obtain ⟨u,rfl⟩:=hg
     refine Ae (i:=12) (v:=?_) HT rfl (by kernel_rfl) rfl (kA Aa (Ab rfl rfl)) (by rfl) (fun _ _ _ h => h) (fun lx ax wx hS => ?_) ?_;rotate_left;(go_simp;with_reducible rfl);rotate_left;simp only [sc0,sc1]
     refine Cb (i:=13) (by kernel_rfl) rfl (fun wx hS => ?_)
     obtain ⟨⟨h1,h2⟩,h3⟩:=hS
     obtain ⟨u1,hu1,hown⟩:=h3 (by kernel_rfl)
     have hu1 : q.own u = q.own u1:=hu1
     obtain rfl : u = u1:=by simpa using hu1
     refine EI (ok:=fun _ => True) (w0:=w) (N:=w3.heap.size) (q:=q) (rc l k).page.toNat (M8 HGk.out) (.tmp 46) (.tmp 45) rfl (by rfl) rfl rfl rfl hown HW3.out.size (Kd.EG HO3.out h2) hpn h1 (fun w8 hO8 hB8 _ => ?_)
     have HO8:=As (Kd.Dx (ok':=fun _ => True) hO8 (fun _ _ => trivial))
     have HB8:=As hB8
     clear hO8 hB8 hown h1 h2 h3 hu1 hcall
     refine BP (by kernel_rfl) ?_
     go_wp2
     go_roundw
     case rel => exact ⟨k + 1,by omega,by go_num,⟨by rw [Cs,En,if_pos ⟨HC.out,by have:=e1.out;push_cast;omega⟩];push_cast;rw [HQ.out];exact HO8.out⟩,HB8⟩
     case measure => simp [intOf];omega
    ·go_wp2_with (first | (with_reducible refine CJ (rc l k) ?_;intro w3 hb2 hz2 hq2;have HW3:=As (bj HW.out hb2);have HO3:=As (Kd.BH HO.out hb2);have HQ3:=As hq2;obtain ⟨x0,x1,x2,x3,x4,x5,x6,x7⟩:=hq2;simp only [Nat.zero_add] at x1 x2 x3 x4 x5 x6 x7;obtain ⟨A3,c3,p0,p1,p2,pC, -⟩:=DV HO3.out (rc l k).page.toNat hpn;have HPC:=As pC;clear pC;clear hb2) | (go_at_call 143;refine (FP HC.out _).mono ?_;rintro e w4 ⟨rfl,rfl⟩))
     go_roundw
     case rel => exact ⟨k + 1,by omega,by go_num,⟨by rw [Cs,En,if_neg (by have:=e1.out;simp;intro _;omega)];exact HO3.out⟩,HW3⟩
     case measure => simp [intOf];omega
  ·have hke : k = l.length:=by omega
   have HE:=As hke
   clear hke
   go_wp2
   go_ret
   exact ⟨_,rfl,by rw [← HE.out];exact HO.out,HW.out⟩
def GN (l : List Rec) (n : Nat) (page : Int) : Bool:=(BM l n).any fun m => (rc l (m - 1)).page == page
theorem IX (l : List Rec) (p : Int) : GN l 0 p = false:=by simp [GN,Ct]
theorem PG {l : List Rec} {n : Nat} {p : Int} (h : BQ l (n + 1) ≤ n) : GN l (n + 1) p = ((rc l n).page == p || GN l (BQ l (n + 1)) p):=by
 simp [GN,Eb h]
set_option maxHeartbeats 1000000 in
theorem Rt {w0 w : World} {A : Option Addr} {c : Nat} {l : List Rec} {tx page : Int} {b : Bool} (hv : GN l (Ap l tx l.length) page = b) (hb : Below w0.heap.size w0 w) (hr : Kd.C Ca w0 A l.length l) (hl : AQ l = true) : Calls Tryz.prog 87 #[.slice A l.length c, .int .i64 tx, .int .i64 page] w fun e w' => e = .returned (.bool b) ∧ w = w':=by
 have HR:=As hr
 have HB:=As hb
 have HL:=As hl
 have HV:=As hv
 have hm:=(Co hr).2
 clear hr hb hl hv
 go_enter Tryz.func87,Tryz.ntmps87
 go_wp2_with (go_at_call 142;refine (Jk tx HB.out HR.out).mono ?_;rintro e w' ⟨rfl,rfl⟩)
 go_loop [7] (fun i => ∃ k : Nat,k ≤ l.length ∧ i = .int .i64 (k : Int) ∧ Ac (GN l k page = b)) (fun i => (intOf i).toNat)
 case atStart => exact ⟨Ap l tx l.length,Bf _ _ _,rfl,HV⟩
 case round =>
  obtain ⟨k,hk,rfl,HK⟩:=hrel
  rcases k with _ | k
  ·go_wp2
   go_ret
   exact ⟨AL (by rw [← HK.out,IX]),rfl⟩
  ·have F:=AJ HL.out (k:=k) (by omega)
   obtain ⟨ad,rfl,QR⟩:=Ci HR.out k (by omega)
   have QW:=QR.up HB.out
   obtain ⟨g0,g1,g2,g3,g4,g5,g6,g7⟩:=QW
   have hp:=PG (p:=page) F.prev_le
   have HP:=As hp
   have hle:=F.prev_le
   rw [F.prev] at g6
   clear hp F QR
   rcases BV (rc l k).page page with ⟨e1,b1,c1⟩ | ⟨e1,b1,c1⟩
   ·go_wp2
    go_ret
    exact ⟨AL (by rw [← HK.out,HP.out,b1];rfl),rfl⟩
   ·go_wp2
    go_round
    case rel => exact ⟨BQ l (k + 1),by omega,rfl,⟨by rw [← HK.out,HP.out,b1,Bool.false_or]⟩⟩
    case measure => simp [intOf];omega
theorem Ib {l : List Rec} {n : Nat} (hk : (rc l n).kind = 1 ∨ (rc l n).kind = 2) (h : BQ l (n + 1) ≤ n) : BG l (n + 1) = n + 1:=by
 rw [BG,LB hk h];rfl
theorem LC {l : List Rec} {n : Nat} (hk : (rc l n).kind = 6) (h : EW l (n + 1) ≤ n) : BG l (n + 1) = BG l (EW l (n + 1)):=by
 rw [BG,Mv hk h];rfl
theorem LD {l : List Rec} {n : Nat} (h1 : (rc l n).kind ≠ 1) (h2 : (rc l n).kind ≠ 2) (h6 : (rc l n).kind ≠ 6) (h : BQ l (n + 1) ≤ n) : BG l (n + 1) = BG l (BQ l (n + 1)):=by
 rw [BG,Mx h1 h2 h6 h];rfl
theorem Ps (l : List Rec) : BG l 0 = 0:=by rw [BG,D9];rfl
set_option maxHeartbeats 2000000 in
theorem Gi {w0 w : World} {A : Option Addr} {c n : Nat} {l : List Rec} (hn : n ≤ l.length) (hb : Below w0.heap.size w0 w) (hr : Kd.C Ca w0 A l.length l) (hl : AQ l = true) : Calls Tryz.prog 145 #[.slice A l.length c, .int .i64 n] w fun e w' => e = .returned (.int .i64 (BG l n)) ∧ Below w0.heap.size w0 w':=by
 have HR:=As hr
 have HB:=As hb
 have HL:=As hl
 have hm:=(Co hr).2
 clear hr hb hl
 go_enter Tryz.func145,Tryz.ntmps145
 go_wp2
 go_loopw [1] (fun i wr => ∃ k : Nat,k ≤ l.length ∧ i = .int .i64 (k : Int) ∧ Ac (BG l n = BG l k) ∧ Ac (Below w0.heap.size w0 wr)) (fun i _ => (intOf i).toNat)
 case atStart => exact ⟨n,hn,rfl,⟨rfl⟩,HB⟩
 case round =>
  obtain ⟨k,hk,rfl,HK,HW⟩:=hrel
  rcases k with _ | k
  ·go_wp2
   go_ret
   exact ⟨EC (by rw [HK.out,Ps];rfl),HW.out⟩
  ·have F:=AJ HL.out (k:=k) (by omega)
   obtain ⟨ad,rfl,QR⟩:=Ci HR.out k (by omega)
   have QW:=QR.up HW.out
   obtain ⟨g0,g1,g2,g3,g4,g5,g6,g7⟩:=QW
   have hle:=F.prev_le
   have hle2:=F.next_le
   rw [F.prev] at g6
   rw [F.next] at g7
   clear F QR
   rcases BV (rc l k).kind 1 with ⟨e1,b1,c1⟩ | ⟨e1,b1,c1⟩
   ·go_wp2
    go_ret
    exact ⟨EC (by rw [HK.out,Ib (.inl e1.out) hle]),DT HW.out _⟩
   ·rcases BV (rc l k).kind 2 with ⟨e2,b2,c2⟩ | ⟨e2,b2,c2⟩
    ·go_wp2
     go_ret
     exact ⟨EC (by rw [HK.out,Ib (.inr e2.out) hle]),DT HW.out _⟩
    ·rcases BV (rc l k).kind 6 with ⟨e3,b3,c3⟩ | ⟨e3,b3,c3⟩
     ·go_wp2
      go_roundw
      case rel => exact ⟨EW l (k + 1),by omega,rfl,⟨by rw [HK.out,LC e3.out hle2]⟩,⟨DT HW.out _⟩⟩
      case measure => simp [intOf];omega
     ·go_wp2
      go_roundw
      case rel => exact ⟨BQ l (k + 1),by omega,rfl,⟨by rw [HK.out,LD e1.out e2.out e3.out hle]⟩,⟨DT HW.out _⟩⟩
      case measure => simp [intOf];omega
def BN (l : List Rec) (page : Int) : Nat → Nat
 | 0 => 0
 | n + 1 => if (rc l n).page = page ∧ (CP (rc l n).kind = true ∨ (rc l n).kind = 3) then n + 1 else BN l page n
open Go.RowKit Go.Shelf Go.Proofs.YtklmhkglcfjclaaGreatW.PrintWords Go.Proofs.YtklmhkglcfjclaaGreatW.PrintLast Go.Proofs.YtklmhkglcfjclaaGreatW.PrintMore
attribute [local go_sem] Oper.semAt_some
def JE (n k : Nat) : List Nat:=(List.range k).map fun j => n - 1 - j
theorem Gg (n k : Nat) : JE n (k + 1) = JE n k ++ [n - 1 - k]:=by simp [JE,List.range_succ]
theorem FW (n k : Nat) : (JE n k).length = k:=by simp [JE]
abbrev Jy (n : Nat) : Type:={ k : Nat // k < n }
set_option maxRecDepth 100000 in
set_option maxHeartbeats 4000000 in
theorem VI (F : Fence) (n : Nat) (h7 : F.fn 185) (hro : F.round = none) (hn : 1 ≤ n) (l Bs n₀ cap : Nat) (A : Option Addr) (rs : List Rec) (w0 : World) (hC : Kd.C Ca w0 A rs.length rs) (J Jx : List (Jy rs.length) → World → Prop) (hw0 : w0.heap.size ≤ n₀) (hBn : Bs < n₀)
  (hY : ∀ pre x W,J pre W → pre.length < rs.length → YieldAt F (n - 1) Tryz.prog l #[.int .i64 (x.1 : Nat),(rc rs x.1).val] W fun e W' =>
   (e = .returned (.bool true) ∧ J (pre ++ [x]) W' ∧ Below n₀ W W') ∨ (e = .returned (.bool false) ∧ Jx (pre ++ [x]) W'))
  (W : World) (hBs : W.cell? ⟨Bs,0,none⟩ = some (.slice A rs.length cap)) (hW : Below w0.heap.size w0 W) (h0 : J [] W) :
  CallsIn F n Tryz.prog 185 #[.func (.yield l) #[] #[], .pointer (some ⟨Bs,0,none⟩)] W fun e W' => (∃ v,e = .returned v) ∧
   ((∃ ys : List (Jy rs.length),ys.map (·.1) = JE rs.length rs.length ∧ J ys W') ∨ (∃ pre : List (Jy rs.length),(∃ k,k ≤ rs.length ∧ pre.map (·.1) = JE rs.length k) ∧ Jx pre W')):=by
 have HC:=As hC
 have HW:=As hW
 have hm:=(Co hC).2
 clear hC hW
 refine callsIn_of_wp Tryz.func185 rfl h7 ?_ hro
 simp only [Tryz.ntmps185,List.size_toArray,List.length_cons,List.length_nil,Nat.reduceAdd,Nat.reduceSub,Array.replicate_succ,Array.replicate_zero,List.push_toArray,List.append_toArray,List.nil_append,List.cons_append]
 gi_wp2
 gi_loopw [3] (fun i wr => ∃ (k : Nat) (pre : List (Jy rs.length)),k ≤ rs.length ∧ i = .int .i64 (((rs.length - k : Nat) : Int) - 1) ∧ Ac (pre.map (·.1) = JE rs.length k) ∧ Ac (J pre wr) ∧ Ac (Below n₀ W wr))
  (fun i _ => (intOf i + 1).toNat)
 case atStart => exact ⟨0, [],Nat.zero_le _,by simp,⟨rfl⟩,⟨h0⟩,⟨Below.refl _ _⟩⟩
 case round =>
  obtain ⟨k,pre,hk,rfl,HP,HJ,HX⟩:=hrel
  have hbx : wr.cell? ⟨Bs,0,none⟩ = some (.slice A rs.length cap):=(HX.out.cell (p:=⟨Bs,0,none⟩) hBn).trans hBs
  obtain ⟨m,hm2⟩ : ∃ m,rs.length - k = m:=⟨_,rfl⟩
  rw [hm2]
  rcases m with _ | m
  ·have hkk : k = rs.length:=by omega
   gi_wp2
   go_end0
   exact ⟨⟨_,rfl⟩, .inl ⟨pre,by rw [HP.out,hkk],HJ.out⟩⟩
  ·obtain ⟨ad,rfl,QR⟩:=Ci HC.out m (by omega)
   have hWr : Below w0.heap.size w0 wr:=HW.out.trans (HX.out.mono hw0)
   obtain ⟨g0,g1,g2,g3,g4,g5,g6,g7⟩:=QR.up hWr
   have hpl : pre.length < rs.length:=by
    have:=congrArg List.length HP.out
    rw [List.length_map,FW] at this
    omega
   have HM:=As hm2
   have hml : m < rs.length:=by omega
   clear hm2
   obtain ⟨fn,tmps,assign,body,hy,hR⟩:=hY pre ⟨m,hml⟩ wr HJ.out hpl
   have HR:=As hR
   clear hWr hR
   gi_wp2
   refine HR.out.mono ?_
   rintro e W3 (⟨rfl,hJ3,hk3⟩ | ⟨rfl,hJx3⟩)
   ·have HJ3:=As hJ3
    have HK3:=As hk3
    clear hJ3 hk3
    gi_wp2
    go_roundw
    case rel => exact ⟨k + 1,pre ++ [⟨m,hml⟩],by have:=HM.out;omega,by have:=HM.out;rw [show rs.length - (k + 1) = m by omega],⟨by rw [List.map_append,HP.out,Gg];have:=HM.out;simp;omega⟩,HJ3,⟨HX.out.trans HK3.out⟩⟩
    case measure => simp [intOf]
   ·have HJ3:=As hJx3
    clear hJx3
    gi_wp2
    refine bodyPost_ret (results_none rfl _ _ _) rfl ?_
    exact ⟨⟨_,rfl⟩, .inr ⟨pre ++ [⟨m,hml⟩],⟨k + 1,by have:=HM.out;omega,by rw [List.map_append,HP.out,Gg];have:=HM.out;simp;omega⟩,HJ3.out⟩⟩
set_option maxHeartbeats 1000000 in
theorem TY (F : Fence) (n : Nat) (h5 : F.fn 152) (hro : F.round = none) (a : Option Addr) (len cap : Nat) (w : World) :
  CallsIn F n Tryz.prog 152 #[.slice a len cap] w fun e w' => e = .returned (.func (.func 185) #[] #[.pointer (some ⟨w.heap.size,0,none⟩)]) ∧ w' = w.alloc (.cells #[.slice a len cap] 28):=by
 refine callsIn_of_wp Tryz.func152 rfl h5 ?_ hro
 simp only [Tryz.ntmps152,List.size_toArray,List.length_cons,List.length_nil,Nat.reduceAdd,Nat.reduceSub,Array.replicate_succ,Array.replicate_zero,List.push_toArray,List.append_toArray,List.nil_append,List.cons_append]
 gi_wp2
 go_ret
 exact ⟨rfl,rfl⟩
theorem Oz (F : Fence) (n : Nat) (h7 : F.fn 185) (hro : F.round = none) (hn : 1 ≤ n) (Bs n₀ cap : Nat) (A : Option Addr) (rs : List Rec) (w0 w : World) (hC : Kd.C Ca w0 A rs.length rs) (hw0 : w0.heap.size ≤ n₀) (hBn : Bs < n₀) (hn₀ : n₀ ≤ w.heap.size)
  (hb : Below w0.heap.size w0 w) (hc : w.cell? ⟨Bs,0,none⟩ = some (.slice A rs.length cap)) :
  SeqStopsK F n Tryz.prog 185 #[.pointer (some ⟨Bs,0,none⟩)] (fun x : Jy rs.length => #[Value.int .i64 (x.1 : Nat),(rc rs x.1).val]) (Below n₀) (fun ys => ys.map (·.1) = JE rs.length rs.length) (fun pre => ∃ k,k ≤ rs.length ∧ pre.map (·.1) = JE rs.length k) rs.length w:=fun l J Jx W hW _ _ hY h0 => by
 have hc':=(hW.cell (p:=⟨Bs,0,none⟩) (by show Bs < _;omega)).trans hc
 have hW' : Below w0.heap.size w0 W:=hb.trans (hW.mono hb.size)
 refine (VI F n h7 hro hn l Bs n₀ cap A rs w0 hC J Jx hw0 hBn hY W hc' hW' h0).mono ?_
 rintro e W' ⟨he,⟨ys,h1,h2⟩ | ⟨pre,h1,h2⟩⟩
 ·exact ⟨he, .inl ⟨ys,h1,h2⟩⟩
 ·exact ⟨he, .inr ⟨pre,h1,h2⟩⟩
theorem Lh {l : List Rec} {tx : Int} {n : Nat} : ∀ {k : Nat},k ≤ n → (∀ x ∈ JE n k,(rc l x).tx ≠ tx) → Ap l tx n = Ap l tx (n - k)
 | 0,_,_ => rfl
 | k + 1,hk,h => by
  rw [Gg] at h
  rw [Lh (k:=k) (by omega) (fun x hx => h x (List.mem_append_left _ hx))]
  have h1:=h (n - 1 - k) (by simp)
  rw [show n - k = (n - (k + 1)) + 1 by omega]
  rw [Ap,show n - (k + 1) = n - 1 - k by omega,if_neg h1]
end Go.Proofs.YtklmhkglcfjclaaGreat
