/- A part of the proof: what the last text of the claim says leans on this one. -/
import Derived.Test.YtofgeajaajfiaaaGreatRows
import Derived.WalkKit
import Derived.ProofKit
import Derived.JoinedOf
import Derived.Test.YtofgeajaajfiaaaGreatProg
import Derived.Below
import Derived.Deep.Draws
import Derived.Deep.AppendLies
import Derived.Maps.AppendAt
import Derived.OwnWalk
import Derived.Laws.BytesArg
import Derived.Laws.MakeOwn
import Derived.Laws.OwnMore
import Derived.Deep.OwnRows
import Derived.Tactics
import Derived.Lib.ConvBytes
import Derived.Lib.Hide
import Derived.Laws.Slices
import Derived.KernelRfl
import Derived.RowKit3
import Derived.Deep.LoopGhost
import Derived.Deep.QuietTactic
import Derived.BigQuiet
import Derived.WideLaws
import Derived.Deep.DeepCutAuto
import Derived.Deep.CutBlock
import Derived.Deep.RegionHeld3
import Derived.Deep.RegionWith
import Derived.Laws.Rows
import Derived.Lib.AppendStr
import Derived.ArgAppend
import Derived.Laws.IdiomCopy
import Derived.OrdersHeld
import Derived.Laws.BitsLemmas
import Derived.RowKit
import Derived.Outline
import Derived.Test.YtofgeajaajfiaaaGreatXWWords
import Derived.Test.YtofgeajaajfiaaaGreatXWLast
import Derived.Test.YtofgeajaajfiaaaGreatXWApart
import Derived.Test.YtofgeajaajfiaaaGreatXWMore
import Derived.IntWalk
import Derived.Test.YtofgeajaajfiaaaGreatXShelf
import Derived.Lib.Bytes
import Derived.Handy
import Derived.RangeFuncNested
import Derived.RangeFuncBound
import Derived.RangeFuncCalls
import Derived.RangeFuncLeaves
import Derived.RangeFuncBox
import Derived.Shelf.Abstract
import Derived.Shelf.RegionOpen
import Derived.OwnWalkIn
import Derived.TacticsInMore
import Derived.LoopNIn
import Derived.LoopIn
set_option linter.unusedVariables false
set_option linter.unusedSimpArgs false
namespace Go.Proofs.YtofgeajaajfiaaaGreat
def KY : List Char:=([104,97,114,110,101,115,115] : List Nat).map Char.ofNat
def KX : List Char:=([51,49,101,52,54,101,102,98,98,100,49,48,50,52,54,50,50,48,97,101,50,100,57,57,99,52,57,55,51,57,57,100,53,48,48,102,97,52,98,99,101,51,97,50,55,98,50,102,48,56,49,98,53,57,55,100,99,101,102,56,52,100,53,55] : List Nat).map Char.ofNat
def EB : List Char:=([99,117,116] : List Nat).map Char.ofNat
def FY : List Char:=([97,116] : List Nat).map Char.ofNat
def Sw : List Char:=([108,111,111,112,46,101,120,97,109,112,108,101,47,116,97,98,117,108,97,114,105,117,109,47,108,97,119,115,46,70,110,80,108,97,121,68,111,110,101,32,108,111,111,112,46,101,120,97,109,112,108,101,47,116,97,98,117,108,97,114,105,117,109,47,108,97,119,115,46,70,110,80,108,97,121,65,112,97,114,116,32,108,111,111,112,46,101,120,97,109,112,108,101,47,116,97,98,117,108,97,114,105,117,109,47,108,97,119,115,46,70,110,80,108,97,121,77,111,114,101,32,108,111,111,112,46,101,120,97,109,112,108,101,47,116,97,98,117,108,97,114,105,117,109,47,108,97,119,115,46,70,110,80,108,97,121,83,117,109,32,108,111,111,112,46,101,120,97,109,112,108,101,47,116,97,98,117,108,97,114,105,117,109,47,108,97,119,115,46,70,110,84,114,117,101,32,108,111,111,112,46,101,120,97,109,112,108,101,47,116,97,98,117,108,97,114,105,117,109,47,108,97,119,115,46,70,110,84,114,117,101,85,110,100,111,32,108,111,111,112,46,101,120,97,109,112,108,101,47,116,97,98,117,108,97,114,105,117,109,47,108,97,119,115,46,70,110,84,114,117,101,83,116,97,121,115,32,108,111,111,112,46,101,120,97,109,112,108,101,47,116,97,98,117,108,97,114,105,117,109,47,108,97,119,115,46,70,110,84,114,117,101,78,111,110,101,32,108,111,111,112,46,101,120,97,109,112,108,101,47,116,97,98,117,108,97,114,105,117,109,47,108,97,119,115,46,70,110,84,114,117,101,83,97,109,101,32,108,111,111,112,46,101,120,97,109,112,108,101,47,116,97,98,117,108,97,114,105,117,109,47,108,97,119,115,46,70,110,80,108,97,121,83,117,109,115] : List Nat).map Char.ofNat
def gap : Char:=Char.ofNat 32
def NA : List Char:=KY ++ gap :: (KX ++ gap :: (EB ++ gap :: (FY ++ gap :: Sw)))
theorem Xu : Tryz.prog.initOrder = String.ofList NA:=by kernel_rfl
theorem Wd : Tryz.prog.initOrder.toList = NA:=by rw [Xu,String.toList_ofList]
theorem Hz : ∀ (w r : List Char),(w.all fun c => c != gap) = true → wordsSigns (w ++ gap :: r) = w :: wordsSigns r
 | [],r,_ => rfl
 | c :: w,r,h => by
  simp only [List.all_cons,Bool.and_eq_true,bne_iff_ne,ne_eq] at h
  have hne : c ≠ gap:=h.1
  have ih:=Hz w r (by simpa using h.2)
  show wordsSigns (c :: (w ++ gap :: r)) = _
  rw [wordsSigns.eq_3 _ _ (by intro e;exact hne e),ih]
theorem Ox : wordsSigns Tryz.prog.initOrder.toList = KY :: KX :: EB :: FY :: wordsSigns Sw:=by
 rw [Wd,NA,Hz _ _ (by kernel_rfl),Hz _ _ (by kernel_rfl),Hz _ _ (by kernel_rfl),Hz _ _ (by kernel_rfl)]
theorem Jq (ws : List (List Char)) : behindMainWord (KY :: KX :: EB :: FY :: ws) = EB :: FY :: ws:=by kernel_rfl
theorem Ow (ws : List (List Char)) : stripLifts liftWords (EB :: FY :: ws) = ([],EB :: FY :: ws):=by kernel_rfl
theorem OG : EB = "cut".toList:=by kernel_rfl
theorem QB {P : Program} {r : List (List Char)} (h : wordsSigns P.initOrder.toList = KY :: KX :: EB :: FY :: r) (h1 : P.laysLater = false) (h2 : P.bearsReflect = false) (h3 : P.doorFits [] = true) : P.mayEnter = true:=by
 unfold Program.mayEnter
 rw [h,Jq]
 simp only [Ow,h1,h2,h3]
 simp [OG]
theorem WA {P : Program} {r : List (List Char)} (h : wordsSigns P.initOrder.toList = KY :: KX :: EB :: FY :: r) : P.liftsFinal = false:=by
 unfold Program.liftsFinal Program.headLifts
 rw [h,Jq]
 simp only [Ow]
 simp [OG]
theorem Xp {P : Program} {r : List (List Char)} (h : wordsSigns P.initOrder.toList = KY :: KX :: EB :: FY :: r) : P.make = some Make.cut:=by
 unfold Program.make
 rw [h,Jq]
 simp [OG]
theorem TG : Tryz.prog.laysLater = false:=by kernel_rfl
theorem PW : Tryz.prog.bearsReflect = false:=by kernel_rfl
theorem VD : Tryz.prog.doorFits [] = true:=by kernel_rfl
theorem J9 : Tryz.prog.mayEnter = true:=QB Ox TG PW VD
theorem Gy : Tryz.prog.liftsFinal = false:=WA Ox
theorem KA : Tryz.prog.make = some Make.cut:=Xp Ox
open Go.RowKit Go.Proofs.YtofgeajaajfiaaaGreatW.PrintWords Go.Proofs.YtofgeajaajfiaaaGreatW.PrintLast Go.Proofs.YtofgeajaajfiaaaGreatW.PrintMore
theorem sc0 {α : Type _} {a b : α} {l : List α} : (a :: l).set 0 b = b :: l:=rfl
theorem sc1 {α : Type _} {a b : α} {l : List α} {n : Nat} : (a :: l).set (n + 1) b = a :: l.set n b:=rfl
theorem As {p : Prop} (h : p) : Aa p:=⟨h⟩
structure Page where
 lsn : Int
 owner : Int
 vals : List Int
structure Rec where
 kind : Int
 tx : Int
 page : Int
 slot : Int
 old : Int
 new : Int
 prev : Int
 next : Int
structure Eng where
 disk : List Page
 mem : List Page
 log : List Rec
 safe : Int
 down : Bool
structure Evt where
 kind : Int
 tx : Int
 page : Int
 slot : Int
 n : Int
 vals : List Int
def z0 : Page:=⟨0,0, []⟩
def r0 : Rec:=⟨0,0,0,0,0,0,0,0⟩
def v0 : Evt:=⟨0,0,0,0,0, []⟩
def Dw : Kd Page:=Kd.iso (Kd.pair (Kd.int .i64) (Kd.pair (Kd.int .i64) (Kd.slice 3 (Kd.int .i64)))) (fun x => (x.lsn,x.owner,x.vals))
def Ca : Kd Rec:=Kd.iso (Kd.pair (Kd.int .i64) (Kd.pair (Kd.int .i64) (Kd.pair (Kd.int .i64) (Kd.pair (Kd.int .i64) (Kd.pair (Kd.int .i64) (Kd.pair (Kd.int .i64) (Kd.pair (Kd.int .i64) (Kd.int .i64)))))))) (fun x => (x.kind,x.tx,x.page,x.slot,x.old,x.new,x.prev,x.next))
def kEvt : Kd Evt:=Kd.iso (Kd.pair (Kd.int .i64) (Kd.pair (Kd.int .i64) (Kd.pair (Kd.int .i64) (Kd.pair (Kd.int .i64) (Kd.pair (Kd.int .i64) (Kd.slice 3 (Kd.int .i64))))))) (fun x => (x.kind,x.tx,x.page,x.slot,x.n,x.vals))
abbrev Rec.cells (r : Rec) : List Value := [.int .i64 r.kind, .int .i64 r.tx, .int .i64 r.page, .int .i64 r.slot, .int .i64 r.old, .int .i64 r.new, .int .i64 r.prev, .int .i64 r.next]
theorem Qk {w : World} {x : Rec} {cs : List Value} (h : Ca.K w x cs) : cs = x.cells:=by
 obtain ⟨_,_,rfl,rfl,⟨_,_,rfl,rfl,⟨_,_,rfl,rfl,⟨_,_,rfl,rfl,⟨_,_,rfl,rfl,⟨_,_,rfl,rfl,⟨_,_,rfl,rfl,rfl⟩⟩⟩⟩⟩⟩⟩:=h
 exact rfl
theorem TK {w : World} {x : Page} {cs : List Value} (h : Dw.K w x cs) : ∃ A c,cs = [.int .i64 x.lsn, .int .i64 x.owner, .slice A x.vals.length c] ∧ x.vals.length ≤ c ∧ (Kd.int .i64).C w A x.vals.length x.vals:=by
 obtain ⟨_,_,rfl,rfl,⟨_,_,rfl,rfl,⟨A2,c2,rfl,l2,g2⟩⟩⟩:=h
 exact ⟨A2,c2,rfl,l2,g2⟩
theorem O4 {w : World} {base : Nat} {ok : Nat → Prop} {x : Page} {cs : List Value} (h : Dw.M w base ok x cs) : ∃ v,cs = [.int .i64 x.lsn, .int .i64 x.owner,v] ∧ (Kd.int .i64).R 3 w base ok v x.vals:=by
 obtain ⟨_,_,rfl,rfl,⟨_,_,rfl,rfl,⟨v2,rfl,g2⟩⟩⟩:=h
 exact ⟨v2,rfl,g2⟩
theorem Ji (w : World) (base : Nat) (ok : Nat → Prop) (x : Page) {v : Value} (g2 : (Kd.int .i64).R 3 w base ok v x.vals) : Dw.M w base ok x [.int .i64 x.lsn, .int .i64 x.owner,v]:=⟨[.int .i64 x.lsn], [.int .i64 x.owner,v],rfl,rfl,⟨[.int .i64 x.owner], [v],rfl,rfl,⟨v,rfl,g2⟩⟩⟩
theorem Vy {w : World} {x : Evt} {cs : List Value} (h : kEvt.K w x cs) : ∃ A c,cs = [.int .i64 x.kind, .int .i64 x.tx, .int .i64 x.page, .int .i64 x.slot, .int .i64 x.n, .slice A x.vals.length c] ∧ x.vals.length ≤ c ∧ (Kd.int .i64).C w A x.vals.length x.vals:=by
 obtain ⟨_,_,rfl,rfl,⟨_,_,rfl,rfl,⟨_,_,rfl,rfl,⟨_,_,rfl,rfl,⟨_,_,rfl,rfl,⟨A2,c2,rfl,l2,g2⟩⟩⟩⟩⟩⟩:=h
 exact ⟨A2,c2,rfl,l2,g2⟩
def rc (l : List Rec) (k : Nat) : Rec:=l.getD k r0
def pg (l : List Page) (k : Nat) : Page:=l.getD k z0
def iv (l : List Int) (k : Nat) : Int:=l.getD k 0
def ev (l : List Evt) (k : Nat) : Evt:=l.getD k v0
structure GA (w : World) (a : Addr) (r : Rec) : Prop where
 c0 : w.cell? a = some (.int .i64 r.kind)
 c1 : w.cell? ⟨a.block,a.off + 1,none⟩ = some (.int .i64 r.tx)
 c2 : w.cell? ⟨a.block,a.off + 2,none⟩ = some (.int .i64 r.page)
 c3 : w.cell? ⟨a.block,a.off + 3,none⟩ = some (.int .i64 r.slot)
 c4 : w.cell? ⟨a.block,a.off + 4,none⟩ = some (.int .i64 r.old)
 c5 : w.cell? ⟨a.block,a.off + 5,none⟩ = some (.int .i64 r.new)
 c6 : w.cell? ⟨a.block,a.off + 6,none⟩ = some (.int .i64 r.prev)
 c7 : w.cell? ⟨a.block,a.off + 7,none⟩ = some (.int .i64 r.next)
structure Ma (w : World) (a : Addr) (p : Page) (A : Option Addr) (c : Nat) : Prop where
 c0 : w.cell? a = some (.int .i64 p.lsn)
 c1 : w.cell? ⟨a.block,a.off + 1,none⟩ = some (.int .i64 p.owner)
 c2 : w.cell? ⟨a.block,a.off + 2,none⟩ = some (.slice A p.vals.length c)
theorem bc {w0 w : World} (h : Below w0.heap.size w0 w) {a : Addr} {v : Value} (hc : w0.cell? a = some v) : w.cell? a = some v:=CV h hc
theorem GA.up {w0 w : World} {a : Addr} {r : Rec} (h : GA w0 a r) (hb : Below w0.heap.size w0 w) : GA w a r:=
 ⟨bc hb h.c0,bc hb h.c1,bc hb h.c2,bc hb h.c3,bc hb h.c4,bc hb h.c5,bc hb h.c6,bc hb h.c7⟩
theorem Ma.up {w0 w : World} {a : Addr} {p : Page} {A : Option Addr} {c : Nat} (h : Ma w0 a p A c) (hb : Below w0.heap.size w0 w) : Ma w a p A c:=
 ⟨bc hb h.c0,bc hb h.c1,bc hb h.c2⟩
theorem CS {w : World} {A : Option Addr} {n : Nat} {xs : List Rec} (h : Kd.C Ca w A n xs) (i : Nat) (h1 : i < n) : ∃ ad,A = some ad ∧ GA w (ad.add (i * 8)) (rc xs i):=by
 obtain ⟨ad,c,e,_,hK,hc0⟩:=Kd.Ta h r0 (i : Int) (by omega) (by omega)
 have hc : ∀ j u,c[j]? = some u → w.cell? (ad.add (i * 8 + j)) = some u:=hc0
 obtain rfl:=Qk hK
 exact ⟨ad,e,hc 0 _ rfl,by rw [← Dq _ _ 1 (by omega)];exact hc 1 _ rfl,by rw [← Dq _ _ 2 (by omega)];exact hc 2 _ rfl,by rw [← Dq _ _ 3 (by omega)];exact hc 3 _ rfl,by rw [← Dq _ _ 4 (by omega)];exact hc 4 _ rfl,by rw [← Dq _ _ 5 (by omega)];exact hc 5 _ rfl,by rw [← Dq _ _ 6 (by omega)];exact hc 6 _ rfl,by rw [← Dq _ _ 7 (by omega)];exact hc 7 _ rfl⟩
theorem Di {w : World} {A : Option Addr} {n : Nat} {xs : List Page} (h : Kd.C Dw w A n xs) (i : Nat) (h1 : i < n) : ∃ ad A2 c2,A = some ad ∧ Ma w (ad.add (i * 3)) (pg xs i) A2 c2 ∧ (pg xs i).vals.length ≤ c2 ∧ (Kd.int .i64).C w A2 (pg xs i).vals.length (pg xs i).vals:=by
 obtain ⟨ad,c,e,_,hK,hc0⟩:=Kd.Ta h z0 (i : Int) (by omega) (by omega)
 have hc : ∀ j u,c[j]? = some u → w.cell? (ad.add (i * 3 + j)) = some u:=hc0
 obtain ⟨A2,c2,rfl,l2,g2⟩:=TK hK
 exact ⟨ad,A2,c2,e,⟨hc 0 _ rfl,by rw [← Dq _ _ 1 (by omega)];exact hc 1 _ rfl,by rw [← Dq _ _ 2 (by omega)];exact hc 2 _ rfl⟩,l2,g2⟩
theorem Dj {w : World} {A : Option Addr} {n : Nat} {xs : List Int} (h : Kd.C (Kd.int .i64) w A n xs) (i : Nat) (h1 : i < n) : ∃ ad,A = some ad ∧ w.cell? (ad.add i) = some (.int .i64 (iv xs i)):=by
 obtain ⟨ad,c,e,_,hK,hc0⟩:=Kd.Ta h 0 (i : Int) (by omega) (by omega)
 have hc : ∀ j u,c[j]? = some u → w.cell? (ad.add (i * 1 + j)) = some u:=hc0
 obtain rfl : c = [.int .i64 (iv xs i)]:=hK
 have:=hc 0 _ rfl
 rw [Nat.mul_one,Nat.add_zero] at this
 exact ⟨ad,e,this⟩
abbrev Rec.val (r : Rec) : Value:=.agg #[.int .i64 r.kind, .int .i64 r.tx, .int .i64 r.page, .int .i64 r.slot, .int .i64 r.old, .int .i64 r.new, .int .i64 r.prev, .int .i64 r.next]
theorem Cg {α : Type} {d : Kd α} {w : World} {A : Option Addr} {n : Nat} {xs : List α} (h : Kd.C d w A n xs) : xs.length = n ∧ n ≤ 9223372036854775807:=⟨h.1,h.2.1⟩
theorem Au {a b : Bool} (h : a = b) : Ending.returned (.bool a) = .returned (.bool b):=by rw [h]
theorem EF {k : IntKind} {a b : Int} (h : a = b) : Ending.returned (.int k a) = .returned (.int k b):=by rw [h]
theorem bj {w0 w w' : World} (h : Below w0.heap.size w0 w) (k : Below w.heap.size w w') : Below w0.heap.size w0 w':=TT h h.size k
theorem BA {α : Type} {d : Kd α} {w0 w : World} {A : Option Addr} {n : Nat} {xs : List α} (h : Kd.C d w0 A n xs) (hb : Below w0.heap.size w0 w) : Kd.C d w A n xs:=Kd.V5 h hb
theorem BQ (a b : Int) : (Aa (a = b) ∧ (a == b) = true ∧ (a != b) = false) ∨ (Aa (a ≠ b) ∧ (a == b) = false ∧ (a != b) = true):=by
 by_cases h : a = b
 ·exact .inl ⟨⟨h⟩,by simp [h],by simp [h]⟩
 ·exact .inr ⟨⟨h⟩,by simp [h],by simp [h]⟩
theorem lts (a b : Int) : (Aa (a < b) ∧ decide (a < b) = true ∧ decide (b ≤ a) = false) ∨ (Aa (b ≤ a) ∧ decide (a < b) = false ∧ decide (b ≤ a) = true):=by
 by_cases h : a < b
 ·exact .inl ⟨⟨h⟩,by simp [h],by simp;omega⟩
 ·exact .inr ⟨⟨by omega⟩,by simp;omega,by simp;omega⟩
def inB (a b c : Int) : Bool:=decide (b ≤ a) && decide (a ≤ c)
theorem DK {a b c : Int} : inB a b c = true ↔ b ≤ a ∧ a ≤ c:=by simp [inB]
theorem Cn (a b c : Int) (w : World) : Calls Tryz.prog 50 #[.int .i64 a, .int .i64 b, .int .i64 c] w fun e w' => e = .returned (.bool (inB a b c)) ∧ w = w':=by
 go_enter Tryz.func50,Tryz.ntmps50
 go_wp2 <;> (go_ret;exact ⟨by simp [inB];try omega,rfl⟩)
theorem EG (a b c : Int) (w : World) : Calls Tryz.prog 50 #[.int .i64 a, .int .i64 b, .int .i64 c] w fun e w' => e = .returned (.bool (inB a b c)) ∧ w' = w:=(Cn a b c w).mono fun _ _ h => ⟨h.1,h.2.symm⟩
theorem BS (a b c : Int) (w : World) : Calls Tryz.prog 67 #[.int .i64 a, .int .i64 b, .int .i64 c] w fun e w' => e = .returned (.bool (inB a b c)) ∧ w = w':=by
 go_enter Tryz.func67,Tryz.ntmps67
 go_wp2 <;> (go_ret;exact ⟨by simp [inB];try omega,rfl⟩)
theorem Bw (a : Int) (w : World) : Calls Tryz.prog 62 #[.int .i64 a] w fun e w' => e = .returned (.bool (inB a 0 4)) ∧ w = w':=by
 go_enter Tryz.func62,Tryz.ntmps62
 go_wp2_with (go_at_call 50;refine (Cn _ _ _ _).mono ?_;rintro e w' ⟨rfl,rfl⟩)
 go_ret
 exact ⟨rfl,rfl⟩
theorem Cc (a : Int) (w : World) : Calls Tryz.prog 119 #[.int .i64 a] w fun e w' => e = .returned (.bool (inB a 1 3)) ∧ w = w':=by
 go_enter Tryz.func119,Tryz.ntmps119
 go_wp2_with (go_at_call 50;refine (Cn _ _ _ _).mono ?_;rintro e w' ⟨rfl,rfl⟩)
 go_ret
 exact ⟨rfl,rfl⟩
def Cw (k : Int) : Bool:=k == 1 || k == 2 || k == 6
def EO (k : Int) : Bool:=k == 4 || k == 5
theorem PV (r : Rec) (w : World) : Calls Tryz.prog 125 #[r.val] w fun e w' => e = .returned (.bool (Cw r.kind)) ∧ Below w.heap.size w w':=by
 go_enter Tryz.func125,Tryz.ntmps125
 go_wp2 <;> (go_ret;exact ⟨by simp [Cw, *],(Below.refl _ _).alloc (Nat.le_refl _) _⟩)
theorem TQ (r : Rec) (w : World) : Calls Tryz.prog 81 #[r.val] w fun e w' => e = .returned (.bool (EO r.kind)) ∧ Below w.heap.size w w':=by
 go_enter Tryz.func81,Tryz.ntmps81
 go_wp2 <;> (go_ret;exact ⟨by simp [EO, *],(Below.refl _ _).alloc (Nat.le_refl _) _⟩)
theorem Og (k : Int) (w : World) : Calls Tryz.prog 142 #[.int .i64 k] w fun e w' => e = .returned (.bool (Cw k)) ∧ w = w':=by
 go_enter Tryz.func142,Tryz.ntmps142
 go_wp2 <;> (go_ret;exact ⟨by simp [Cw, *],rfl⟩)
theorem FW {k : Int} {b : Bool} (h : Cw k = b) (w : World) : Calls Tryz.prog 142 #[.int .i64 k] w fun e w' => e = .returned (.bool b) ∧ w = w':=(Og k w).mono fun _ _ x => ⟨h ▸ x.1,x.2⟩
theorem FE {r : Rec} {b : Bool} (h : Cw r.kind = b) (w : World) : Calls Tryz.prog 125 #[r.val] w fun e w' => e = .returned (.bool b) ∧ Below w.heap.size w w':=(PV r w).mono fun _ _ x => ⟨h ▸ x.1,x.2⟩
theorem MP {r : Rec} {b : Bool} (h : EO r.kind = b) (w : World) : Calls Tryz.prog 81 #[r.val] w fun e w' => e = .returned (.bool b) ∧ Below w.heap.size w w':=(TQ r w).mono fun _ _ x => ⟨h ▸ x.1,x.2⟩
theorem UG {a b c : Int} {t : Bool} (h : inB a b c = t) (w : World) : Calls Tryz.prog 50 #[.int .i64 a, .int .i64 b, .int .i64 c] w fun e w' => e = .returned (.bool t) ∧ w' = w:=(Cn a b c w).mono fun _ _ x => ⟨h ▸ x.1,x.2.symm⟩
def CZ (r : Rec) : Bool:=
  (if r.kind = 1 then inB r.page 0 4 && inB r.slot 0 2 && inB r.old 0 (if r.slot = -1 then 3 else 9) && inB r.new 0 (if r.slot = -1 then 3 else 9) && r.next == 0
   else if r.kind = 2 then inB r.page 0 4 && r.slot == -1 && inB r.old 0 (if r.slot = -1 then 3 else 9) && inB r.new 0 (if r.slot = -1 then 3 else 9) && r.next == 0
   else if r.kind = 3 then inB r.page 0 4 && r.slot == 0 && r.old == 0 && r.new == 0 && r.next == 0
   else if r.kind = 4 then r.page == 0 && r.slot == 0 && r.old == 0 && r.new == 0 && r.next == 0
   else if r.kind = 5 then r.page == 0 && r.slot == 0 && r.old == 0 && r.new == 0 && r.next == 0
   else if r.kind = 6 then inB r.page 0 4 && inB r.slot (-1) 2 && r.old == 0 && inB r.new 0 (if r.slot = -1 then 3 else 9) && inB r.next 0 150
   else false) && inB r.tx 1 3 && inB r.prev 0 150
theorem Dc {r : Rec} : CZ r = true ↔ ((r.kind = 1 ∧ 0 ≤ r.page ∧ r.page ≤ 4 ∧ 0 ≤ r.slot ∧ r.slot ≤ 2 ∧ 0 ≤ r.old ∧ r.old ≤ 9 ∧ 0 ≤ r.new ∧ r.new ≤ 9 ∧ r.next = 0) ∨
  (r.kind = 2 ∧ 0 ≤ r.page ∧ r.page ≤ 4 ∧ r.slot = -1 ∧ 0 ≤ r.old ∧ r.old ≤ 3 ∧ 0 ≤ r.new ∧ r.new ≤ 3 ∧ r.next = 0) ∨
  (r.kind = 3 ∧ 0 ≤ r.page ∧ r.page ≤ 4 ∧ r.slot = 0 ∧ r.old = 0 ∧ r.new = 0 ∧ r.next = 0) ∨
  ((r.kind = 4 ∨ r.kind = 5) ∧ r.page = 0 ∧ r.slot = 0 ∧ r.old = 0 ∧ r.new = 0 ∧ r.next = 0) ∨
  (r.kind = 6 ∧ 0 ≤ r.page ∧ r.page ≤ 4 ∧ -1 ≤ r.slot ∧ r.slot ≤ 2 ∧ r.old = 0 ∧ 0 ≤ r.new ∧ (r.slot = -1 → r.new ≤ 3) ∧ r.new ≤ 9 ∧ 0 ≤ r.next ∧ r.next ≤ 150)) ∧ 1 ≤ r.tx ∧ r.tx ≤ 3 ∧ 0 ≤ r.prev ∧ r.prev ≤ 150:=by
 unfold CZ
 by_cases hs : r.slot = -1
 ·rw [if_pos hs]
  by_cases k1 : r.kind = 1
  ·simp [inB,k1];omega
  by_cases k2 : r.kind = 2
  ·simp [inB,k2];omega
  by_cases k3 : r.kind = 3
  ·simp [inB,k3];omega
  by_cases k4 : r.kind = 4
  ·simp [inB,k4];omega
  by_cases k5 : r.kind = 5
  ·simp [inB,k5];omega
  by_cases k6 : r.kind = 6
  ·simp [inB,k6];omega
  simp [k1,k2,k3,k4,k5,k6]
 ·rw [if_neg hs]
  by_cases k1 : r.kind = 1
  ·simp [inB,k1];omega
  by_cases k2 : r.kind = 2
  ·simp [inB,k2];omega
  by_cases k3 : r.kind = 3
  ·simp [inB,k3];omega
  by_cases k4 : r.kind = 4
  ·simp [inB,k4];omega
  by_cases k5 : r.kind = 5
  ·simp [inB,k5];omega
  by_cases k6 : r.kind = 6
  ·simp [inB,k6];omega
  simp [k1,k2,k3,k4,k5,k6]
def Bz (r : Rec) (prev : Int) : Rec:=⟨6,r.tx,r.page,r.slot,0,r.old,prev,r.prev⟩
theorem Pn (r : Rec) (n : Int) (w : World) : Calls Tryz.prog 149 #[r.val, .int .i64 n] w fun e w' => e = .returned (Bz r n).val ∧ Below w.heap.size w w':=by
 go_enter Tryz.func149,Tryz.ntmps149
 go_wp2
 exact bodyPost_ret (v:=(Bz r n).val) (by simp [results,Tryz.results149,go_sem,Bz]) rfl ⟨rfl,(((Below.refl _ _).alloc (Nat.le_refl _) _).alloc (by simp) _)⟩
open Go.RowKit Go.Proofs.YtofgeajaajfiaaaGreatW.PrintWords Go.Proofs.YtofgeajaajfiaaaGreatW.PrintLast
section
variable {P : Program} {ops : Array Oper} {Q : Exit → Act → World → Prop} {md : Region.Mode} {S : World → Prop}
theorem Td {c : Code} {a : Act} {w : World} {r : Rec} {T : TypeId} (h : ∀ w1,Below w.heap.size w w1 → GA w1 ⟨w.heap.size,0,none⟩ r → c.wp P Q a w1) : c.wp P Q a (w.alloc (.cells #[.int .i64 r.kind, .int .i64 r.tx, .int .i64 r.page, .int .i64 r.slot, .int .i64 r.old, .int .i64 r.new, .int .i64 r.prev, .int .i64 r.next] T (0,0))):=
 h _ ((Below.refl _ _).alloc (Nat.le_refl _) _) ⟨by go_simp,by go_simp,by go_simp,by go_simp,by go_simp,by go_simp,by go_simp,by go_simp⟩
def Eff (P : Program) (S : World → Prop) (v : Value) : Result Next → Prop
 | .ok (.value u) w' => u = v ∧ S w'
 | .ok .skip w' => v = undef ∧ S w'
 | .ok (.enter f args) w' => Calls P f args w' fun e w'' => e = .returned v ∧ S w''
 | _ => False
def Ir (P : Program) (ops : Array Oper) (S : World → Prop) (o : Oper) (v : Value) (a : Act) : Prop:=
 (Region.wanted o (yielded ops a.tmps) = true ∧ ∀ w,S w → Eff P S v ((execOp a.eval o).run P w)) ∨
 (Region.wanted o (yielded ops a.tmps) = false ∧ v = undef)
theorem Ir.wpOp {i : Nat} {o : Oper} {v : Value} {a : Act} (hi : ops[i]? = some o) (hy : Ir P ops S o v a)
  {K : Act → World → Prop} {w : World} (hS : S w) (h : ∀ w',S w' → K (a.put o.dst v) w') : wpOp P ops Q i K a w:=by
 unfold Go.wpOp
 simp only [hi]
 rcases hy with ⟨hw,hv⟩ | ⟨hw,rfl⟩
 ·simp only [hw,if_true]
  refine .inl ?_
  have h1:=hv w hS
  unfold Oper.wp
  generalize (execOp a.eval o).run P w = r at h1 ⊢
  cases r with
  | ok n w' =>
   cases n <;> simp only [Eff] at h1 <;> try exact h1.elim
   case value u => obtain ⟨rfl,h2⟩:=h1;exact h _ h2
   case skip => obtain ⟨rfl,h2⟩:=h1;exact h _ h2
   case enter f args => exact Calls.mono h1 fun e w'' he => by obtain ⟨rfl,h2⟩:=he;exact h _ h2
  | halt x w' => simp only [Eff] at h1
 ·simp only [hw,Bool.false_eq_true,if_false];exact h _ hS
theorem Ir.of_same {o : Oper} {v : Value} {a a' : Act} (hy : Ir P ops S o v a) (he : execOp a'.eval o = execOp a.eval o)
  (hw : Region.wanted o (yielded ops a'.tmps) = Region.wanted o (yielded ops a.tmps)) : Ir P ops S o v a':=by
 unfold Ir at *
 rw [he,hw]
 exact hy
theorem V6 {j : Nat} {oi oj : Oper} {v : Value} (hj : ops[j]? = some oj) (hap : oi.apart ops oj = true)
  (hsi : ∀ cs b,oi.op ≠ .select cs b) (hsj : ∀ cs b,oj.op ≠ .select cs b)
  (hQ : ∀ c a w,Q (.panic c) (a.put oi.dst v) w → Q (.panic c) a w) {K : Act → World → Prop} {a : Act} {w : World}
  (hy : Ir P ops S oi v a) (h : wpOp P ops Q j K (a.put oi.dst v) w) :
  wpOp P ops Q j (fun a' w' => Ir P ops S oi v a' ∧ K (a'.put oi.dst v) w') a w:=by
 obtain ⟨h1,h2,h3⟩:=Oper.apart_spec hap
 have keep : ∀ (a : Act),Ir P ops S oi v a → ∀ u,Ir P ops S oi v (a.put oj.dst u):=fun a hy u =>
  hy.of_same (execOp_put oi hsi a oj.dst u h3) (wanted_put oi a oj.dst u h3)
 have keepD : ∀ d,Ir P ops S oi v { a with defers:=d :: a.defers }:=fun d => hy.of_same rfl rfl
 unfold wpOp at *
 simp only [hj] at *
 rw [wanted_put oj a oi.dst v h1] at h
 split
 ·rename_i hw
  simp only [hw,if_true] at h
  rcases h with h | ⟨hasks,hlets⟩
  case inr => exact .inr ⟨by unfold Oper.asks at *;rw [execOp_put oj hsj a oi.dst v h1] at hasks;exact hasks,hlets⟩
  refine .inl ?_
  unfold Oper.wp at *
  rw [execOp_put oj hsj a oi.dst v h1] at h
  generalize (execOp a.eval oj).run P w = r at *
  cases r with
  | ok n w' =>
   cases n <;> simp only [Oper.upon] at h ⊢
   case value u => exact ⟨keep a hy u,by rw [← Act.put_comm a v u h2];exact h⟩
   case skip => exact ⟨keep a hy _,by rw [← Act.put_comm a v undef h2];exact h⟩
   case defer d =>
    refine ⟨keep _ (keepD d) _,?_⟩
    rw [← Act.put_comm _ v undef h2, ← Act.put_defers]
    exact h
   case enter f args =>
    refine Calls.mono h fun e w'' he => ?_
    cases e with
    | returned u => exact ⟨keep a hy u,by rw [← Act.put_comm a v u h2];exact he⟩
    | panicked c => exact hQ _ _ _ he
    | outgrown => exact he
   case row row args => exact Rows.mono h fun u w'' he => ⟨keep a hy u,by rw [← Act.put_comm a v u h2];exact he⟩
  | halt x w' =>
   cases x <;> simp only [Oper.upon] at h ⊢
   case panic u => exact hQ _ _ _ h
 ·rename_i hw
  simp only [hw] at h
  exact ⟨keep a hy _,by rw [← Act.put_comm a v undef h2];exact h⟩
def wpAnyS (P : Program) (md : Region.Mode) (ops : Array Oper) (Q : Exit → Act → World → Prop) (S : World → Prop) : Nat → Array Bool → Act → Prop
 | 0,listed,a => Region.ready md ops listed = [] ∧ ∀ w,S w → Q .normal a w
 | fuel + 1,listed,a =>
  (Region.ready md ops listed = [] → ∀ w,S w → Q .normal a w) ∧
  ∀ i ∈ Region.ready md ops listed, ∀ w,S w → wpOp P ops Q i (fun a' w' => S w' ∧ wpAnyS P md ops Q S fuel (listed.setIfInBounds i true) a') a w
theorem Ov : ∀ (fuel : Nat) (listed : Array Bool) (a : Act) (w : World),S w → wpAnyS P md ops Q S fuel listed a → wpAny P md ops Q fuel listed a w
 | 0,_,_,w,hS,h => ⟨h.1,h.2 w hS⟩
 | fuel + 1,_,_,w,hS,h => ⟨fun hr => h.1 hr w hS,fun i hi => wpOp_mono (fun a' w' h' => Ov fuel _ a' w' h'.1 h'.2) (h.2 i hi w hS)⟩
theorem wpAnyS_first {i : Nat} {oi : Oper} {v : Value} (hi : ops[i]? = some oi) (hsel : ∀ (j : Nat) (o : Oper) cs b,ops[j]? = some o → o.op ≠ .select cs b)
  (hQ : ∀ c a w,Q (.panic c) (a.put oi.dst v) w → Q (.panic c) a w) :
  ∀ (fuel : Nat) (listed : Array Bool) (a : Act),
   (∀ j oj,ops[j]? = some oj → j ≠ i → listed.getD j true = false → (∀ e ∈ oj.after,Region.binds md e = true → e.on ≠ i) → oi.apart ops oj = true) →
   i ∈ Region.ready md ops listed → Ir P ops S oi v a →
   wpAnyS P md ops Q S fuel (listed.setIfInBounds i true) (a.put oi.dst v) → wpAnyS P md ops Q S (fuel + 1) listed a:=by
 intro fuel
 induction fuel with
 | zero =>
  intro listed a _ hr hy H
  refine ⟨fun h => (by rw [h] at hr;cases hr),fun j hj w hS => ?_⟩
  by_cases hji : j = i
  ·subst hji;exact hy.wpOp hi hS (fun w' h' => ⟨h',H⟩)
  ·have:=ready_mono hj hji
   rw [H.1] at this
   cases this
 | succ fuel ih =>
  intro listed a hfree hr hy H
  refine ⟨fun h => (by rw [h] at hr;cases hr),fun j hj w hS => ?_⟩
  by_cases hji : j = i
  ·subst hji;exact hy.wpOp hi hS (fun w' h' => ⟨h',H⟩)
  ·have h1:=H.2 j (ready_mono hj hji) w hS
   obtain ⟨hjun,oj,hoj,hall⟩:=mem_ready.1 hj
   have hnot : ∀ e ∈ oj.after,Region.binds md e = true → e.on ≠ i:=fun e he hb heq => by
    have h1:=hall e he hb
    have h0:=(mem_ready.1 hr).1
    rw [heq] at h1
    rcases Nat.lt_or_ge i listed.size with h' | h'
    ·simp [h'] at h0 h1;rw [h0] at h1;cases h1
    ·simp [Array.getElem?_eq_none h'] at h1
   have h2:=V6 hoj (hfree j oj hoj hji hjun hnot) (fun cs b => hsel i oi cs b hi) (fun cs b => hsel j oj cs b hoj) hQ hy h1
   have hfree' : ∀ k ok,ops[k]? = some ok → k ≠ i → (listed.setIfInBounds j true).getD k true = false →
     (∀ e ∈ ok.after,Region.binds md e = true → e.on ≠ i) → oi.apart ops ok = true:=fun k ok hk hki hun hno => by
    refine hfree k ok hk hki ?_ hno
    by_cases hjk : j = k
    ·subst hjk;exact hjun
    ·rw [getD_set_ne true hjk] at hun;exact hun
   refine wpOp_mono (fun a' w' h3 => ⟨h3.2.1,ih (listed.setIfInBounds j true) a' hfree' (ready_mono hr (Ne.symm hji)) h3.1 ?_⟩) h2
   rw [Array.setIfInBounds_comm _ _ hji]
   exact h3.2.2
def upTo (n k : Nat) : Array Bool:=((List.range n).map fun j => decide (j < k)).toArray
theorem V9 (n : Nat) : upTo n 0 = Array.replicate n false:=by
 apply Array.ext <;> simp [upTo]
theorem Va (n k : Nat) : (upTo n k).setIfInBounds k true = upTo n (k + 1):=by
 apply Array.ext
 ·simp [upTo]
 ·intro i h1 h2
  simp [upTo] at h1
  by_cases e : k = i
  ·subst e;simp [upTo]
  ·simp [upTo,e];omega
def Np (ops : Array Oper) : Bool:=Region.noSelect ops && (List.range ops.size).all fun k => Region.free .any ops (upTo ops.size k) k && (Region.ready .any ops (upTo ops.size k)).contains k
structure Text (P : Program) (ops : Array Oper) (Q : Exit → Act → World → Prop) (S : World → Prop) (k : Nat) (rest : List Oper) (a : Act) : Prop where
 out : ops.toList.drop k = rest → wpAnyS P .any ops Q S (ops.size - k) (upTo ops.size k) a
variable {k d : Nat} {o : Oper} {rest : List Oper} {v : Value} {L : List Value} {D : List Deferred}
theorem Nn {a : Act} (ht : Aa (Np ops = true))
  (hQ : ∀ c a w,Q (.panic c) (a.put o.dst v) w → Q (.panic c) a w) (he : Ir P ops S o v a) (h : Text P ops Q S (k + 1) rest (a.put o.dst v)) : Text P ops Q S k (o :: rest) a:=by
 refine ⟨fun hd => ?_⟩
 have hk : ops[k]? = some o:=by
  rw [← Array.getElem?_toList, ← List.head?_drop,hd,List.head?_cons]
 have hlt : k < ops.size:=(Array.getElem?_eq_some_iff.1 hk).1
 obtain ⟨hs,hall⟩:=Bool.and_eq_true_iff.1 ht.out
 have h1:=List.all_eq_true.1 hall k (by simpa using hlt)
 obtain ⟨hf,hr⟩:=Bool.and_eq_true_iff.1 h1
 rw [show ops.size - k = (ops.size - (k + 1)) + 1 by omega]
 refine wpAnyS_first hk (Region.noSelect_spec hs) hQ _ _ a (Region.free_spec hk hf) (by simpa using hr) he ?_
 rw [Va]
 exact h.out (by rw [← List.drop_drop,hd,List.drop_one,List.tail_cons])
theorem Cu : (⟨L.toArray,D⟩ : Act).put (some d) v = ⟨(L.set d v).toArray,D⟩:=by
 simp [Act.put]
theorem Bh {f : FuncId} {xs : Array Operand} {ts : Array TypeId} {a : Act} (_hop : o.op = .call { callee:=.value (.func f),args:=xs,argTypes:=ts }) (h : Text P ops Q S k (o :: rest) a) : Text P ops Q S k (o :: rest) a:=h
theorem Bq (ht : Aa (Np ops = true)) (hd : o.dst = some d) (hw : Region.wanted o (yielded ops L.toArray) = false)
  (hQ : ∀ c a w,Q (.panic c) (a.put o.dst undef) w → Q (.panic c) a w) (h : Text P ops Q S (k + 1) rest ⟨(L.set d undef).toArray,D⟩) : Text P ops Q S k (o :: rest) ⟨L.toArray,D⟩:=
 Nn ht hQ (.inr ⟨hw,rfl⟩) (by rw [hd,Cu];exact h)
theorem BN (ht : Aa (Np ops = true)) (hd : o.dst = some d) (hw : Region.wanted o (yielded ops L.toArray) = true)
  (hQ : ∀ c a w,Q (.panic c) (a.put o.dst v) w → Q (.panic c) a w) (hr : ∀ w,S w → (execOp (Act.eval ⟨L.toArray,D⟩) o).run P w = .ok (.value v) w) (h : Text P ops Q S (k + 1) rest ⟨(L.set d v).toArray,D⟩) : Text P ops Q S k (o :: rest) ⟨L.toArray,D⟩:=
 Nn ht hQ (.inl ⟨hw,fun w hS => by rw [hr w hS];exact ⟨rfl,hS⟩⟩) (by rw [hd,Cu];exact h)
theorem Bj {f : FuncId} {fn : Func} {xs : Array Operand} {ts : Array TypeId} {args : Array Value} (ht : Aa (Np ops = true))
    (hop : o.op = .call { callee:=.value (.func f),args:=xs,argTypes:=ts }) (hf : P.funcs[f]? = some fn) (hname : (fn.name == "runtime.NumGoroutine") = false) (hb : fn.body.isSome = true) (hd : o.dst = some d) (hw : Region.wanted o (yielded ops L.toArray) = true)
    (hQ : ∀ c a w,Q (.panic c) (a.put o.dst v) w → Q (.panic c) a w) (hargs : xs.map (Act.eval ⟨L.toArray,D⟩) = args)
    (hc : ∀ w,S w → Calls P f args w fun e w' => e = .returned v ∧ S w') (h : Text P ops Q S (k + 1) rest ⟨(L.set d v).toArray,D⟩) : Text P ops Q S k (o :: rest) ⟨L.toArray,D⟩:=by
  refine Nn (v:=v) ht hQ (.inl ⟨hw,fun w hS => ?_⟩) (by rw [hd,Cu];exact h)
  have he:=UI hf hname hb args w
  have hrun : (execOp (Act.eval ⟨L.toArray,D⟩) o).run P w = .ok (.enter f args) w:=by
    unfold execOp
    simp [hop,resolve,Deferred.ofValue,invoke,Act.eval,hargs,he]
  rw [hrun]
  exact hc w hS
theorem BO {a : Act} (h : ∀ w,S w → Q .normal a w) : Text P ops Q S k [] a:=by
 refine ⟨fun hd => ?_⟩
 have hk' : ops.size ≤ k:=by simpa using hd
 rw [show ops.size - k = 0 by omega]
 refine ⟨?_,h⟩
 simp only [Region.ready,List.filter_eq_nil_iff,List.mem_range]
 intro i hi
 have : (upTo ops.size k).getD i true = true:=by
  have : i < k:=by omega
  simp [upTo,hi,this]
 simp [this]
theorem Ba {id : Nat} {l : List Oper} {a : Act} {w : World} (S : World → Prop) (hm : P.follows .mixedOrders = true) (hl : ops.toList = l) (ht : Np ops = true) (hS : S w.drew)
  (h : Aa (Np ops = true) → Text P ops Q S 0 l a) : (Code.region id ops true).wp P Q a w:=by
 have h1:=(h ⟨ht⟩).out hl
 rw [V9] at h1
 exact wp_region_any hm (Ov _ _ _ _ hS h1)
end
end Go.Proofs.YtofgeajaajfiaaaGreat
namespace Go.Proofs.YtofgeajaajfiaaaGreat
open Go.RowKit Go.Proofs.YtofgeajaajfiaaaGreatW.PrintWords Go.Proofs.YtofgeajaajfiaaaGreatW.PrintLast Go.Proofs.YtofgeajaajfiaaaGreatW.PrintMore
theorem JI {xs : List Int} {k : Nat} (h : k < xs.length) : xs.drop k = iv xs k :: xs.drop (k + 1):=by
 rw [List.drop_eq_getElem_cons h]
 simp [iv,List.getD_eq_getElem?_getD,h]
def WZ (b : Bool) (w : World) (e : Ending) (w' : World) : Prop := ∃ i : Int,e = .returned (.int .i64 i) ∧ decide (0 ≤ i) = b ∧ w = w'
theorem NH (n : Int) (w : World) : Calls Tryz.prog 139 #[.int .i64 n] w fun e w' => e = .returned (.bool (n != 0)) ∧ w = w':=by
 go_enter Tryz.func139,Tryz.ntmps139
 go_wp2
 go_ret
 exact ⟨rfl,rfl⟩
theorem NK (n : Int) (w : World) : Calls Tryz.prog 151 #[.int .i64 n] w fun e w' => e = .returned (.bool (!inB n 0 9)) ∧ w = w':=by
 go_enter Tryz.func151,Tryz.ntmps151
 go_wp2_with (go_at_call 50;refine (Cn _ _ _ _).mono ?_;rintro e w' ⟨rfl,rfl⟩)
 go_ret
 exact ⟨rfl,rfl⟩
set_option maxHeartbeats 2000000 in
theorem TL {w0 w : World} {A : Option Addr} {c : Nat} {l : List Int} (hb : Below w0.heap.size w0 w) (hr : Kd.C (Kd.int .i64) w0 A l.length l) : Calls Tryz.prog 152 #[.slice A l.length c, .func (.func 139) #[] #[]] w (WZ (l.any fun x => x != 0) w):=by
 have HR:=As (BA hr hb)
 have hm:=(Cg hr).2
 clear hr hb
 go_enter Tryz.func152,Tryz.ntmps152
 go_wp2
 go_loop [8] (fun i => ∃ k : Nat,k ≤ l.length ∧ i = .int .i64 (k : Int) ∧ Aa ((l.any fun x => x != 0) = (l.drop k).any fun x => x != 0)) (fun i => (l.length - intOf i).toNat)
 case atStart => exact ⟨0,Nat.zero_le _,rfl,⟨rfl⟩⟩
 case round =>
  obtain ⟨k,hk,rfl,HK⟩:=hrel
  by_cases hlt : k < l.length
  ·obtain ⟨ad,rfl,g0⟩:=Dj HR.out k hlt
   have HD:=As (JI hlt)
   cases hp : (fun x => x != 0) (iv l k)
   ·have HP:=As hp
    clear hp
    go_wp2_with (go_at_call 139;refine (NH (iv l k) _).mono ?_;rintro e w' ⟨rfl,rfl⟩;(try rw [show (iv l k != 0) = false from HP.out]))
    go_round
    case rel => exact ⟨k + 1,by omega,by go_num,⟨by rw [HK.out,HD.out,List.any_cons,show (iv l k != 0) = false from HP.out,Bool.false_or]⟩⟩
    case measure => simp [intOf];omega
   ·have HP:=As hp
    clear hp
    go_wp2_with (go_at_call 139;refine (NH (iv l k) _).mono ?_;rintro e w' ⟨rfl,rfl⟩;(try rw [show (iv l k != 0) = true from HP.out]))
    go_ret
    exact ⟨k,rfl,by rw [HK.out,HD.out,List.any_cons,show (iv l k != 0) = true from HP.out];simp,rfl⟩
  ·have hke : k = l.length:=by omega
   go_wp2
   go_ret
   exact ⟨-1,rfl,by rw [HK.out,hke,List.drop_length];rfl,rfl⟩
theorem PO {w0 w : World} {A : Option Addr} {c : Nat} {l : List Int} (hb : Below w0.heap.size w0 w) (hr : Kd.C (Kd.int .i64) w0 A l.length l) : Calls Tryz.prog 133 #[.slice A l.length c, .func (.func 139) #[] #[]] w fun e w' => e = .returned (.bool (l.any fun x => x != 0)) ∧ w = w':=by
 have HR:=As (BA hr hb)
 clear hr hb
 go_enter Tryz.func133,Tryz.ntmps133
 go_wp2_with (go_at_call 152;refine (TL (Below.refl _ _) HR.out).mono ?_;rintro e w' ⟨i,rfl,hi,rfl⟩)
 go_ret
 exact ⟨by first | exact Au hi | rfl,rfl⟩
set_option maxHeartbeats 2000000 in
theorem TM {w0 w : World} {A : Option Addr} {c : Nat} {l : List Int} (hb : Below w0.heap.size w0 w) (hr : Kd.C (Kd.int .i64) w0 A l.length l) : Calls Tryz.prog 152 #[.slice A l.length c, .func (.func 151) #[] #[]] w (WZ (l.any fun x => !inB x 0 9) w):=by
 have HR:=As (BA hr hb)
 have hm:=(Cg hr).2
 clear hr hb
 go_enter Tryz.func152,Tryz.ntmps152
 go_wp2
 go_loop [8] (fun i => ∃ k : Nat,k ≤ l.length ∧ i = .int .i64 (k : Int) ∧ Aa ((l.any fun x => !inB x 0 9) = (l.drop k).any fun x => !inB x 0 9)) (fun i => (l.length - intOf i).toNat)
 case atStart => exact ⟨0,Nat.zero_le _,rfl,⟨rfl⟩⟩
 case round =>
  obtain ⟨k,hk,rfl,HK⟩:=hrel
  by_cases hlt : k < l.length
  ·obtain ⟨ad,rfl,g0⟩:=Dj HR.out k hlt
   have HD:=As (JI hlt)
   cases hp : (fun x => !inB x 0 9) (iv l k)
   ·have HP:=As hp
    clear hp
    go_wp2_with (go_at_call 151;refine (NK (iv l k) _).mono ?_;rintro e w' ⟨rfl,rfl⟩;(try rw [show (!inB (iv l k) 0 9) = false from HP.out]))
    go_round
    case rel => exact ⟨k + 1,by omega,by go_num,⟨by rw [HK.out,HD.out,List.any_cons,show (!inB (iv l k) 0 9) = false from HP.out,Bool.false_or]⟩⟩
    case measure => simp [intOf];omega
   ·have HP:=As hp
    clear hp
    go_wp2_with (go_at_call 151;refine (NK (iv l k) _).mono ?_;rintro e w' ⟨rfl,rfl⟩;(try rw [show (!inB (iv l k) 0 9) = true from HP.out]))
    go_ret
    exact ⟨k,rfl,by rw [HK.out,HD.out,List.any_cons,show (!inB (iv l k) 0 9) = true from HP.out];simp,rfl⟩
  ·have hke : k = l.length:=by omega
   go_wp2
   go_ret
   exact ⟨-1,rfl,by rw [HK.out,hke,List.drop_length];rfl,rfl⟩
theorem PS {w0 w : World} {A : Option Addr} {c : Nat} {l : List Int} (hb : Below w0.heap.size w0 w) (hr : Kd.C (Kd.int .i64) w0 A l.length l) : Calls Tryz.prog 133 #[.slice A l.length c, .func (.func 151) #[] #[]] w fun e w' => e = .returned (.bool (l.any fun x => !inB x 0 9)) ∧ w = w':=by
 have HR:=As (BA hr hb)
 clear hr hb
 go_enter Tryz.func133,Tryz.ntmps133
 go_wp2_with (go_at_call 152;refine (TM (Below.refl _ _) HR.out).mono ?_;rintro e w' ⟨i,rfl,hi,rfl⟩)
 go_ret
 exact ⟨by first | exact Au hi | rfl,rfl⟩
def F5 (l : List Int) : Bool := !(l.any fun x => x != 0)
def G8 (l : List Int) : Bool:=l.length == 3 && !(l.any fun x => !inB x 0 9)
theorem LB {w0 w : World} {A : Option Addr} {c : Nat} {l : List Int} {b : Bool} (hv : F5 l = b) (hb : Below w0.heap.size w0 w) (hr : Kd.C (Kd.int .i64) w0 A l.length l) : Calls Tryz.prog 102 #[.slice A l.length c] w fun e w' => e = .returned (.bool b) ∧ w' = w:=by
 have HR:=As (BA hr hb)
 subst hv
 clear hr hb
 go_enter Tryz.func102,Tryz.ntmps102
 go_wp2_with (go_at_call 133;refine (PO (Below.refl _ _) HR.out).mono ?_;rintro e w' ⟨rfl,rfl⟩)
 go_ret
 exact ⟨rfl,rfl⟩
theorem Jr {w0 w : World} {A : Option Addr} {c : Nat} {l : List Int} {b : Bool} (hv : G8 l = b) (hb : Below w0.heap.size w0 w) (hr : Kd.C (Kd.int .i64) w0 A l.length l) : Calls Tryz.prog 132 #[.slice A l.length c] w fun e w' => e = .returned (.bool b) ∧ w' = w:=by
 have HR:=As (BA hr hb)
 have HV:=As hv
 clear hr hb hv
 rcases BQ (l.length : Int) 3 with ⟨e1,b1,c1⟩ | ⟨e1,b1,c1⟩
 ·go_enter Tryz.func132,Tryz.ntmps132
  go_wp2_with (go_at_call 133;refine (PS (Below.refl _ _) HR.out).mono ?_;rintro e w' ⟨rfl,rfl⟩)
  go_ret
  exact ⟨Au (by rw [← HV.out,G8,show (l.length == 3) = true by have:=e1.out;simp;omega];rfl),rfl⟩
 ·go_enter Tryz.func132,Tryz.ntmps132
  go_wp2
  go_ret
  exact ⟨Au (by rw [← HV.out,G8,show (l.length == 3) = false by have:=e1.out;simp;omega];rfl),rfl⟩
def Bt (p : Page) : Bool:=inB p.lsn 0 150 && inB p.owner 0 3 && G8 p.vals && (p.owner != 0 || F5 p.vals)
abbrev Page.val (p : Page) (A : Option Addr) (c : Nat) : Value:=.agg #[.int .i64 p.lsn, .int .i64 p.owner, .slice A p.vals.length c]
set_option maxHeartbeats 4000000 in
theorem DZ {w0 w : World} {A : Option Addr} {c : Nat} {p : Page} {b : Bool} (hv : Bt p = b) (hb : Below w0.heap.size w0 w) (hr : Kd.C (Kd.int .i64) w0 A p.vals.length p.vals) : Calls Tryz.prog 101 #[p.val A c] w fun e w' => e = .returned (.bool b) ∧ Below w.heap.size w w':=by
 have HR:=As (BA hr hb)
 have HV:=As hv
 clear hr hb hv
 obtain ⟨v1,hv1⟩ : ∃ v1,G8 p.vals = v1:=⟨_,rfl⟩
 obtain ⟨z1,hz1⟩ : ∃ z1,F5 p.vals = z1:=⟨_,rfl⟩
 have HV1:=As hv1
 have HZ1:=As hz1
 clear hv1 hz1
 rcases BQ p.owner 0 with ⟨e1,b1,c1⟩ | ⟨e1,b1,c1⟩
 all_goals
  go_enter Tryz.func101,Tryz.ntmps101
  go_wp2_with (first | (go_at_call 50;refine (Cn _ _ _ _).mono ?_;rintro e w' ⟨rfl,rfl⟩) | (go_at_call 132;refine (Jr HV1.out ((Below.refl _ _).alloc (Nat.le_refl _) _) HR.out).mono ?_;rintro e w' ⟨rfl,rfl⟩) | (go_at_call 102;refine (LB HZ1.out ((Below.refl _ _).alloc (Nat.le_refl _) _) HR.out).mono ?_;rintro e w' ⟨rfl,rfl⟩))
  all_goals (go_ret;exact ⟨Au (by rw [← HV.out,Bt,HV1.out,HZ1.out];simp [c1, *]),(Below.refl _ _).alloc (Nat.le_refl _) _⟩)
theorem Cj {p : Page} : Bt p = true ↔ 0 ≤ p.lsn ∧ p.lsn ≤ 150 ∧ 0 ≤ p.owner ∧ p.owner ≤ 3 ∧ p.vals.length = 3 ∧ ∀ x ∈ p.vals,0 ≤ x ∧ x ≤ 9 ∧ (p.owner = 0 → x = 0):=by
 simp only [Bt,G8,F5,Bool.and_eq_true,DK,Bool.or_eq_true,bne_iff_ne,Bool.not_eq_true',List.any_eq_false,beq_iff_eq]
 constructor
 ·rintro ⟨⟨⟨⟨h1,h2⟩,h3,h4⟩,h5,h6⟩,h7⟩
  refine ⟨h1,h2,h3,h4,h5,fun x hx => ?_⟩
  have:=h6 x hx
  simp [inB] at this
  refine ⟨this.1,this.2,fun h0 => ?_⟩
  rcases h7 with h7 | h7
  ·exact absurd h0 h7
  ·have:=h7 x hx
   simpa using this
 ·rintro ⟨h1,h2,h3,h4,h5,h6⟩
  refine ⟨⟨⟨⟨h1,h2⟩,h3,h4⟩,h5,fun x hx => ?_⟩,?_⟩
  ·have:=h6 x hx
   simp [inB]
   omega
  ·by_cases h0 : p.owner = 0
   ·refine .inr fun x hx => ?_
    have:=(h6 x hx).2.2 h0
    simp [this]
   ·exact .inl h0
theorem Ya {l : List Int} {k : Nat} (h : k < l.length) : iv l k ∈ l:=by
 simp [iv,List.getD_eq_getElem?_getD,h]
def Ai (l : List Rec) (tx : Int) : Nat → Nat
 | 0 => 0
 | n + 1 => if (rc l n).tx = tx then (if EO (rc l n).kind = true then 0 else n + 1) else Ai l tx n
theorem JF {w0 w : World} {A : Option Addr} {n c : Nat} {l : List Rec} (tx : Int) (hb : Below w0.heap.size w0 w) (hr : Kd.C Ca w0 A n l) : Calls Tryz.prog 109 #[.slice A n c, .int .i64 tx] w fun e w' => e = .returned (.int .i64 (Ai l tx n)) ∧ w = w':=by
 have HR:=As (BA hr hb)
 have hm:=(Cg hr).2
 clear hr hb
 go_enter Tryz.func109,Tryz.ntmps109
 go_wp2
 go_loop [5] (fun i => ∃ k : Nat,k ≤ n ∧ i = .int .i64 ((k : Int) - 1) ∧ Aa (Ai l tx n = Ai l tx k)) (fun i => (intOf i + 1).toNat)
 case atStart => exact ⟨n,Nat.le_refl _,rfl,⟨rfl⟩⟩
 case round =>
  obtain ⟨k,hk,rfl,HL⟩:=hrel
  rcases k with _ | k
  ·go_wp2
   go_ret
   exact ⟨by rw [HL.out];rfl,rfl⟩
  ·obtain ⟨ad,rfl,⟨g0,g1,g2,g3,g4,g5,g6,g7⟩⟩:=CS HR.out k (by omega)
   rcases BQ (rc l k).tx tx with ⟨e1,b1,c1⟩ | ⟨e1,b1,c1⟩
   ·rcases BQ (rc l k).kind 4 with ⟨e2,b2,c2⟩ | ⟨e2,b2,c2⟩
    ·go_wp2
     go_ret
     exact ⟨by rw [HL.out];simp [Ai,EO,e1.out,e2.out],rfl⟩
    ·rcases BQ (rc l k).kind 5 with ⟨e3,b3,c3⟩ | ⟨e3,b3,c3⟩
     ·go_wp2
      go_ret
      exact ⟨by rw [HL.out];simp [Ai,EO,e1.out,e3.out],rfl⟩
     ·go_wp2
      go_ret
      exact ⟨by rw [HL.out];simp [Ai,EO,e1.out,e2.out,e3.out],rfl⟩
   ·go_wp2
    go_round
    case rel => exact ⟨k,by omega,by go_num,⟨by rw [HL.out];simp [Ai,e1.out]⟩⟩
    case measure => simp [intOf]
theorem DW {w0 w : World} {A : Option Addr} {n c m : Nat} {l : List Rec} {tx : Int} (h : Ai l tx n = m) (hb : Below w0.heap.size w0 w) (hr : Kd.C Ca w0 A n l) : Calls Tryz.prog 109 #[.slice A n c, .int .i64 tx] w fun e w' => e = .returned (.int .i64 m) ∧ w = w':=(JF tx hb hr).mono fun _ _ x => ⟨h ▸ x.1,x.2⟩
def atOk (l : List Rec) (k : Nat) : Bool:=CZ (rc l k) && (rc l k).prev == Ai l (rc l k).tx k && decide ((rc l k).next ≤ k) && (decide ((rc l k).next ≤ 0) || (rc l ((rc l k).next.toNat - 1)).tx == (rc l k).tx)
def EC (l : List Rec) : Nat → Bool
 | 0 => true
 | n + 1 => EC l n && atOk l n
def AB (l : List Rec) : Bool:=EC l l.length && decide (l.length ≤ 150)
theorem MB {l : List Rec} {k n : Nat} (h : atOk l k = false) (hk : k < n) : EC l n = false:=by
 induction n with
 | zero => omega
 | succ n ih =>
  by_cases e : k = n
  ·subst e;simp [EC,h]
  ·simp [EC,ih (by omega)]
theorem Qh {l : List Rec} {n k : Nat} (h : EC l n = true) (hk : k < n) : atOk l k = true:=by
 cases e : atOk l k
 ·rw [MB e hk] at h;cases h
 ·rfl
theorem Bc (l : List Rec) (tx : Int) (n : Nat) : Ai l tx n ≤ n:=by
 induction n with
 | zero => simp [Ai]
 | succ n ih =>
  unfold Ai
  split
  ·split <;> omega
  ·omega
def BP (l : List Rec) (n : Nat) : Nat:=(rc l (n - 1)).prev.toNat
def F6 (l : List Rec) (n : Nat) : Nat:=(rc l (n - 1)).next.toNat
structure X3 (l : List Rec) (k : Nat) : Prop where
 ok : CZ (rc l k) = true
 prev : (rc l k).prev = BP l (k + 1)
 prev_le : BP l (k + 1) ≤ k
 next : (rc l k).next = F6 l (k + 1)
 next_le : F6 l (k + 1) ≤ k
 last : BP l (k + 1) = Ai l (rc l k).tx k
 tx1 : 1 ≤ (rc l k).tx
 tx3 : (rc l k).tx ≤ 3
theorem Ry {r : Rec} (h : CZ r = true) : 1 ≤ r.tx ∧ r.tx ≤ 3 ∧ 0 ≤ r.prev ∧ r.prev ≤ 150:=by
 simp only [CZ,Bool.and_eq_true,DK] at h
 omega
theorem Tp {r : Rec} (h : CZ r = true) : 0 ≤ r.next ∧ r.next ≤ 150:=by
 rw [Dc] at h
 omega
theorem Aq {l : List Rec} (h : AB l = true) {k : Nat} (hk : k < l.length) : X3 l k:=by
 simp only [AB,Bool.and_eq_true] at h
 have ha:=Qh h.1 hk
 simp only [atOk,Bool.and_eq_true,beq_iff_eq,decide_eq_true_eq] at ha
 obtain ⟨⟨⟨h1,h2⟩,h3⟩,h4⟩:=ha
 have h5:=Ry h1
 have h6:=Tp h1
 have hl:=Bc l (rc l k).tx k
 refine ⟨h1,?_,?_,?_,?_,?_,h5.1,h5.2.1⟩ <;> simp only [BP,F6,Nat.add_sub_cancel] <;> omega
theorem Bo {l : List Rec} (h : AB l = true) : l.length ≤ 150:=by
 simp only [AB,Bool.and_eq_true,decide_eq_true_eq] at h
 exact h.2
def BD (l : List Rec) : Nat → List Nat
 | 0 => []
 | n + 1 => (n + 1) :: if h : BP l (n + 1) ≤ n then BD l (BP l (n + 1)) else []
 termination_by n => n
theorem Eh {l : List Rec} {n : Nat} (h : BP l (n + 1) ≤ n) : BD l (n + 1) = (n + 1) :: BD l (BP l (n + 1)):=by
 rw [BD,dif_pos h]
theorem Cs (l : List Rec) : BD l 0 = []:=by rw [BD]
def D8 (l : List Rec) : Nat → List Nat
 | 0 => []
 | n + 1 =>
  if (rc l n).kind = 1 ∨ (rc l n).kind = 2 then (n + 1) :: (if h : BP l (n + 1) ≤ n then D8 l (BP l (n + 1)) else [])
  else if (rc l n).kind = 6 then (if h : F6 l (n + 1) ≤ n then D8 l (F6 l (n + 1)) else [])
  else if h : BP l (n + 1) ≤ n then D8 l (BP l (n + 1)) else []
 termination_by n => n
theorem Db (l : List Rec) : D8 l 0 = []:=by rw [D8]
theorem Mf {l : List Rec} {n : Nat} (hk : (rc l n).kind = 1 ∨ (rc l n).kind = 2) (h : BP l (n + 1) ≤ n) : D8 l (n + 1) = (n + 1) :: D8 l (BP l (n + 1)):=by
 rw [D8,if_pos hk,dif_pos h]
theorem Ni {l : List Rec} {n : Nat} (hk : (rc l n).kind = 6) (h : F6 l (n + 1) ≤ n) : D8 l (n + 1) = D8 l (F6 l (n + 1)):=by
 rw [D8,if_neg (by omega),if_pos hk,dif_pos h]
theorem Nk {l : List Rec} {n : Nat} (h1 : (rc l n).kind ≠ 1) (h2 : (rc l n).kind ≠ 2) (h6 : (rc l n).kind ≠ 6) (h : BP l (n + 1) ≤ n) : D8 l (n + 1) = D8 l (BP l (n + 1)):=by
 rw [D8,if_neg (by omega),if_neg h6,dif_pos h]
def Br (l : List Rec) (n : Nat) : Nat:=(D8 l n).headD 0
theorem Gf {l : List Rec} (n m : Nat) (ms : List Nat) (h : D8 l n = m :: ms) : 0 < m ∧ m ≤ n ∧ ((rc l (m - 1)).kind = 1 ∨ (rc l (m - 1)).kind = 2) ∧ (BP l m < m → ms = D8 l (BP l m) ∧ D8 l m = m :: ms):=by
 induction n using Nat.strongRecOn with
 | _ n ih =>
  match n with
  | 0 => rw [Db] at h;cases h
  | n + 1 =>
   rw [D8] at h
   split at h
   ·rename_i hk
    obtain ⟨rfl,h2⟩:=List.cons.inj h
    refine ⟨by omega,by omega,by simpa using hk,fun hp => ?_⟩
    rw [dif_pos (by omega)] at h2
    exact ⟨h2.symm,by rw [Mf hk (by omega),h2]⟩
   ·split at h
    ·split at h
     ·rename_i hle
      obtain ⟨h1,h2,h3,h4⟩:=ih _ (by omega) h
      exact ⟨h1,by omega,h3,h4⟩
     ·cases h
    ·split at h
     ·rename_i hle
      obtain ⟨h1,h2,h3,h4⟩:=ih _ (by omega) h
      exact ⟨h1,by omega,h3,h4⟩
     ·cases h
theorem GN {l : List Rec} {n : Nat} (h : Br l n = 0) : D8 l n = []:=by
 cases e : D8 l n with
 | nil => rfl
 | cons m ms =>
  have:=(Gf n m ms e).1
  simp [Br,e] at h
  omega
theorem NR {l : List Rec} {n m : Nat} (h : Br l n = m) (hm : 0 < m) : ∃ ms,D8 l n = m :: ms:=by
 cases e : D8 l n with
 | nil => simp [Br,e] at h;omega
 | cons a ms => simp [Br,e] at h;subst h;exact ⟨ms,rfl⟩
theorem Nj {l : List Rec} {n m : Nat} (hl : AB l = true) (hn : n ≤ l.length) (h : Br l n = m + 1) : D8 l n = (m + 1) :: D8 l (BP l (m + 1)) ∧ m < l.length ∧ BP l (m + 1) ≤ m ∧ ((rc l m).kind = 1 ∨ (rc l m).kind = 2):=by
 obtain ⟨ms,e⟩:=NR h (by omega)
 obtain ⟨h1,h2,h3,h4⟩:=Gf n _ ms e
 have F:=Aq hl (k:=m) (by omega)
 exact ⟨by rw [e,(h4 (by have:=F.prev_le;omega)).1],by omega,F.prev_le,by simpa using h3⟩
theorem I5 {l : List Rec} {n : Nat} : Br l n ≤ n:=by
 cases e : D8 l n with
 | nil => simp [Br,e]
 | cons m ms =>
  have:=(Gf n m ms e).2.1
  simp only [Br,e,List.headD_cons]
  exact this
def Fg (l : List Rec) (n : Nat) (page : Int) : Bool:=(BD l n).any fun m => (rc l (m - 1)).kind == 3 && (rc l (m - 1)).page == page
theorem LY (l : List Rec) (p : Int) : Fg l 0 p = false:=by simp [Fg,Cs]
theorem TD {l : List Rec} {n : Nat} {p : Int} (h : BP l (n + 1) ≤ n) : Fg l (n + 1) p = (((rc l n).kind == 3 && (rc l n).page == p) || Fg l (BP l (n + 1)) p):=by
 simp [Fg,Eh h]
def Jb (l : List Rec) (page : Int) : Nat → Bool
 | 0 => false
 | j + 1 => Fg l (Ai l (3 - j : Int) l.length) page || Jb l page j
def J8 (l : List Rec) : Nat → Nat
 | 0 => 0
 | j + 1 => (D8 l (Ai l (3 - j : Int) l.length)).length + (if Ai l (3 - j : Int) l.length = 0 then 0 else 1) + J8 l j
def need (l : List Rec) : Nat:=J8 l 3
def AL (w : World) (base : Nat) (v : Value) (xs : List Int) : Prop:=w.ownsRow base 3 1 v xs.length (nums .i64 xs)
theorem Yw {w : World} {A : Option Addr} {n : Nat} {xs : List Int} (h : ReadsInt w .i64 A n xs) : Kd.C (Kd.int .i64) w A n xs:=Kd.U8 (enc:=Value.int .i64) (d:=(0 : Int)) (h1:=fun _ => rfl) h
theorem AL.reads {w : World} {base : Nat} {v : Value} {xs : List Int} (h : AL w base v xs) : ∃ A c,v = .slice A xs.length c ∧ xs.length ≤ c ∧ Kd.C (Kd.int .i64) w A xs.length xs:=by
 obtain ⟨A,c,he,hr⟩:=Vm h
 refine ⟨A,c,he,?_,Yw hr⟩
 rcases h.2 with ⟨h1,h2⟩ | ⟨g,cap,cur,h1,_,_,h2,_⟩
 ·omega
 ·rw [h1] at he
  cases he
  exact h2
theorem AL.below {w w1 : World} {base : Nat} {v : Value} {xs : List Int} (h : AL w base v xs) (hb : Below w.heap.size w w1) : AL w1 base v xs:=Ml h hb
theorem AL.nil (w : World) (base : Nat) : AL w base (.slice none 0 0) []:=Uu w base _ _
theorem AL.lower {w : World} {b b' : Nat} {v : Value} {xs : List Int} (h : AL w b v xs) (hb : b' ≤ b) : AL w b' v xs:=En h hb
def VK (w : World) (xs : List Int) (e : Ending) (w' : World) : Prop := ∃ v,e = .returned v ∧ AL w' w.heap.size v xs ∧ Below w.heap.size w w'
theorem FX : (Tryz.prog.info? 3).map (fun i => (i.zero,i.size,i.bytes)) = some (some (.int .i64 0),1,8):=by kernel_rfl
theorem Ei : Tryz.prog.underlying 32 = some (.slice 3):=Tryz.underlying32
theorem Ot {w : World} {A : Option Addr} {n : Nat} {l : List Int} (h : Kd.C (Kd.int .i64) w A n l) (hn : 0 < n) : ∃ b off,A = some ⟨b,off,none⟩ ∧ ∀ j,j < l.length → w.cell? ⟨b,off + j,none⟩ = some (.int .i64 (l.getD j 0)):=by
 obtain ⟨ad,rfl,h0⟩:=Dj h 0 hn
 have hs : ad.spot = none:=by
  have h1 : w.cell? ad = some (.int .i64 (iv l 0)):=h0
  unfold World.cell? at h1
  split at h1
  ·cases e : ad.spot with
   | none => rfl
   | some s => rw [e] at h1;simp at h1
  ·cases h1
 obtain ⟨b,off,s⟩:=ad
 obtain rfl : s = none:=hs
 refine ⟨b,off,rfl,fun j hj => ?_⟩
 obtain ⟨ad,e,h2⟩:=Dj h j (by rw [h.1] at hj;exact hj)
 obtain rfl:=Option.some.inj e
 have : (⟨b,off,none⟩ : Addr).add j = ⟨b,off + j,none⟩:=by
  unfold Addr.add
  split
  ·rename_i h;subst h;rfl
  ·rfl
 rw [this] at h2
 exact h2
theorem O9 {w0 w : World} {A : Option Addr} {c : Nat} {l : List Int} (hl : l.length ≤ 17592186044416) (hb : Below w0.heap.size w0 w) (hr : Kd.C (Kd.int .i64) w0 A l.length l) : Calls Tryz.prog 107 #[.slice A l.length c] w (VK w l):=by
 have h:=BA hr hb
 rcases Nat.eq_zero_or_pos l.length with h0 | h0
 ·obtain rfl:=List.eq_nil_of_length_eq_zero h0
  cases A with
  | none => exact (Tryz.slices_Clone_int_nil 0 c w).mono fun e w' ⟨he,hw⟩ => ⟨_,he,AL.nil _ _,hw ▸ Below.refl _ _⟩
  | some a => exact (Tryz.slices_Clone_int_zero a c w).mono fun e w' ⟨v,he,ho,_,hb⟩ => ⟨v,he,ho,hb⟩
 ·obtain ⟨b,off,rfl,hc⟩:=Ot h h0
  refine (Tryz.slices_Clone_int b off l.length c l w (Nat.le_refl _) (by omega) hc).mono fun e w' ⟨v,he,ho,_,hb⟩ => ⟨v,he,?_,hb⟩
  rw [List.take_length] at ho
  exact ho
theorem KJ {w0 w : World} {A : Option Addr} {c : Nat} {l : List Int} (x : Int) (hb : Below w0.heap.size w0 w) (hr : Kd.C (Kd.int .i64) w0 A l.length l) : Calls Tryz.prog 105 #[.slice A l.length c, .int .i64 x] w fun e w' => e = .returned (.bool (l.contains x)) ∧ w' = w:=by
 have h:=BA hr hb
 rcases Nat.eq_zero_or_pos l.length with h0 | h0
 ·obtain rfl:=List.eq_nil_of_length_eq_zero h0
  exact Tryz.slices_Contains_int_empty A c x w
 ·obtain ⟨b,off,rfl,hc⟩:=Ot h h0
  have:=Tryz.slices_Contains_int b off l.length c l x w (Nat.le_refl _) (Cg h).2 hc
  rwa [List.take_length] at this
theorem SA {w0 w : World} {A B : Option Addr} {c d : Nat} {l m : List Int} {b : Bool} (hv : (l == m) = b) (hb : Below w0.heap.size w0 w) (hr : Kd.C (Kd.int .i64) w0 A l.length l) (hr2 : Kd.C (Kd.int .i64) w0 B m.length m) : Calls Tryz.prog 127 #[.slice A l.length c, .slice B m.length d] w fun e w' => e = .returned (.bool b) ∧ Below w.heap.size w w':=by
 have h:=BA hr hb
 have h2:=BA hr2 hb
 subst hv
 by_cases hn : l.length = m.length
 ·rcases Nat.eq_zero_or_pos l.length with h0 | h0
  ·obtain rfl:=List.eq_nil_of_length_eq_zero h0
   obtain rfl:=List.eq_nil_of_length_eq_zero (hn ▸ h0 : m.length = 0)
   exact (Tryz.slices_Equal_int_empty A B c 0 d w (by omega)).mono fun e w' ⟨he,hw⟩ => ⟨he,hw ▸ Below.refl _ _⟩
  ·obtain ⟨b1,o1,rfl,hc1⟩:=Ot h h0
   obtain ⟨b2,o2,rfl,hc2⟩:=Ot h2 (by omega)
   refine (Tryz.slices_Equal_int b1 o1 l.length c b2 o2 m.length d l m w (Nat.le_refl _) (Nat.le_refl _) (Cg h).2 (Cg h2).2 hc1 hc2).mono fun e w' ⟨he,q,hw⟩ => ⟨?_,hw ▸ BL (Below.refl _ _) q⟩
   rw [List.take_length,List.take_length] at he
   exact he
 ·refine (Tryz.slices_Equal_int_lens A B l.length c m.length d w hn).mono fun e w' ⟨he,hw⟩ => ⟨?_,hw ▸ Below.refl _ _⟩
  rw [he]
  exact Au (by symm;rw [beq_eq_false_iff_ne];intro e;exact hn (by rw [e]))
def Gh (p q : Page) : Bool:=p.lsn == q.lsn && p.owner == q.owner && p.vals == q.vals
set_option maxHeartbeats 2000000 in
theorem FC {w0 w : World} {A B : Option Addr} {c d : Nat} {p q : Page} {b : Bool} (hv : Gh p q = b) (hb : Below w0.heap.size w0 w) (hr : Kd.C (Kd.int .i64) w0 A p.vals.length p.vals) (hr2 : Kd.C (Kd.int .i64) w0 B q.vals.length q.vals) : Calls Tryz.prog 87 #[p.val A c,q.val B d] w fun e w' => e = .returned (.bool b) ∧ Below w.heap.size w w':=by
 have HR:=As (BA hr hb)
 have HR2:=As (BA hr2 hb)
 have HV:=As hv
 clear hr hr2 hb hv
 obtain ⟨v1,hv1⟩ : ∃ v1,(p.vals == q.vals) = v1:=⟨_,rfl⟩
 have HV1:=As hv1
 clear hv1
 rcases BQ p.lsn q.lsn with ⟨e1,b1,c1⟩ | ⟨e1,b1,c1⟩
 all_goals rcases BQ p.owner q.owner with ⟨e2,b2,c2⟩ | ⟨e2,b2,c2⟩
 all_goals
  go_enter Tryz.func87,Tryz.ntmps87
  go_wp2_with (go_at_call 127;refine (SA HV1.out (((Below.refl _ _).alloc (Nat.le_refl _) _).alloc (by simp) _) HR.out HR2.out).mono ?_;rintro e w1 ⟨rfl,hb1⟩;have HX:=As (bj (((Below.refl _ _).alloc (Nat.le_refl _) _).alloc (by simp) _ : Below w.heap.size w _) hb1);clear hb1)
  all_goals (go_ret;first | exact ⟨Au (by rw [← HV.out,Gh,HV1.out,b1,b2];simp),HX.out⟩ | exact ⟨Au (by rw [← HV.out,Gh];simp [b1,b2]),(((Below.refl _ _).alloc (Nat.le_refl _) _).alloc (by simp) _)⟩)
abbrev Page.box (p : Page) (A : Option Addr) (c : Nat) : Obj:=.cells #[.int .i64 p.lsn, .int .i64 p.owner, .slice A p.vals.length c] 41
theorem Yc (w : World) (p : Page) (A : Option Addr) (c : Nat) : Ma (w.alloc (p.box A c)) ⟨w.heap.size,0,none⟩ p A c:=⟨by go_simp,by go_simp,by go_simp⟩
theorem Om (w : World) (p : Page) (A : Option Addr) (c : Nat) : Below w.heap.size w (w.alloc (p.box A c)):=(Below.refl _ _).alloc (Nat.le_refl _) _
open Go.RowKit Go.Proofs.YtofgeajaajfiaaaGreatW.PrintWords Go.Proofs.YtofgeajaajfiaaaGreatW.PrintLast
section
variable {P : Program} {ops : Array Oper} {Q : Exit → Act → World → Prop} {md : Region.Mode} {S : Array Bool → Act → World → Prop} {m : Nat}
def Keeps (S : Array Bool → Act → World → Prop) (i : Nat) (d : Option Nat) : Prop := ∀ l a v w,S (l.setIfInBounds i true) (a.put d v) w ↔ S l a w
def Sl (i s : Nat) (p : Value → World → Prop) (l : Array Bool) (a : Act) (w : World) : Prop:=l.getD i false = true → p (a.tmps.getD s undef) w
theorem Ae {p : World → Prop} {i : Nat} {d : Option Nat} : Keeps (fun _ _ w => p w) i d:=fun _ _ _ _ => Iff.rfl
theorem kA {S T : Array Bool → Act → World → Prop} {i : Nat} {d : Option Nat} (h : Keeps S i d) (k : Keeps T i d) : Keeps (fun l a w => S l a w ∧ T l a w) i d:=fun l a v w => and_congr (h l a v w) (k l a v w)
theorem Aj {j i s d : Nat} {p : Value → World → Prop} (h : (d == s) = false) (hi : (j == i) = false) : Keeps (Sl i s p) j (some d):=fun l a v w => by
 have h : d ≠ s:=by simpa using h
 have hi : j ≠ i:=by simpa using hi
 have h1 : (a.put (some d) v).tmps.getD s undef = a.tmps.getD s undef:=by simp [Act.put,h]
 have h2 : (l.setIfInBounds j true).getD i false = l.getD i false:=getD_set_ne false hi
 rw [Sl,Sl,h1,h2]
def Nc (P : Program) (ops : Array Oper) (S : Array Bool → Act → World → Prop) (o : Oper) (v : Value) (a : Act) : Prop:=
 (Region.wanted o (yielded ops a.tmps) = true ∧ ∀ l a' w,S l a' w → Eff P (S l a') v ((execOp a.eval o).run P w)) ∨
 (Region.wanted o (yielded ops a.tmps) = false ∧ v = undef)
theorem Nc.wpOp {i : Nat} {o : Oper} {v : Value} {a : Act} (hi : ops[i]? = some o) (hy : Nc P ops S o v a)
  {K : Act → World → Prop} {w : World} {l : Array Bool} (hS : S l a w) (h : ∀ w',S l a w' → K (a.put o.dst v) w') : wpOp P ops Q i K a w:=by
 rcases hy with ⟨hw,hv⟩ | ⟨hw,rfl⟩
 ·exact Ir.wpOp (S:=S l a) hi (.inl ⟨hw,fun w hS => hv l a w hS⟩) hS h
 ·exact Ir.wpOp (S:=S l a) hi (.inr ⟨hw,rfl⟩) hS h
theorem Nc.of_same {o : Oper} {v : Value} {a a' : Act} (hy : Nc P ops S o v a) (he : execOp a'.eval o = execOp a.eval o)
  (hw : Region.wanted o (yielded ops a'.tmps) = Region.wanted o (yielded ops a.tmps)) : Nc P ops S o v a':=by
 unfold Nc at *
 rw [he,hw]
 exact hy
theorem Q6 {j : Nat} {oi oj : Oper} {v : Value} (hj : ops[j]? = some oj) (hap : oi.apart ops oj = true)
  (hsi : ∀ cs b,oi.op ≠ .select cs b) (hsj : ∀ cs b,oj.op ≠ .select cs b)
  (hQ : ∀ c a w,Q (.panic c) (a.put oi.dst v) w → Q (.panic c) a w) {K : Act → World → Prop} {a : Act} {w : World}
  (hy : Nc P ops S oi v a) (h : wpOp P ops Q j K (a.put oi.dst v) w) :
  wpOp P ops Q j (fun a' w' => Nc P ops S oi v a' ∧ K (a'.put oi.dst v) w') a w:=by
 obtain ⟨h1,h2,h3⟩:=Oper.apart_spec hap
 have keep : ∀ (a : Act),Nc P ops S oi v a → ∀ u,Nc P ops S oi v (a.put oj.dst u):=fun a hy u =>
  hy.of_same (execOp_put oi hsi a oj.dst u h3) (wanted_put oi a oj.dst u h3)
 have keepD : ∀ d,Nc P ops S oi v { a with defers:=d :: a.defers }:=fun d => hy.of_same rfl rfl
 unfold wpOp at *
 simp only [hj] at *
 rw [wanted_put oj a oi.dst v h1] at h
 split
 ·rename_i hw
  simp only [hw,if_true] at h
  rcases h with h | ⟨hasks,hlets⟩
  case inr => exact .inr ⟨by unfold Oper.asks at *;rw [execOp_put oj hsj a oi.dst v h1] at hasks;exact hasks,hlets⟩
  refine .inl ?_
  unfold Oper.wp at *
  rw [execOp_put oj hsj a oi.dst v h1] at h
  generalize (execOp a.eval oj).run P w = r at *
  cases r with
  | ok n w' =>
   cases n <;> simp only [Oper.upon] at h ⊢
   case value u => exact ⟨keep a hy u,by rw [← Act.put_comm a v u h2];exact h⟩
   case skip => exact ⟨keep a hy _,by rw [← Act.put_comm a v undef h2];exact h⟩
   case defer d =>
    refine ⟨keep _ (keepD d) _,?_⟩
    rw [← Act.put_comm _ v undef h2, ← Act.put_defers]
    exact h
   case enter f args =>
    refine Calls.mono h fun e w'' he => ?_
    cases e with
    | returned u => exact ⟨keep a hy u,by rw [← Act.put_comm a v u h2];exact he⟩
    | panicked c => exact hQ _ _ _ he
    | outgrown => exact he
   case row row args => exact Rows.mono h fun u w'' he => ⟨keep a hy u,by rw [← Act.put_comm a v u h2];exact he⟩
  | halt x w' =>
   cases x <;> simp only [Oper.upon] at h ⊢
   case panic u => exact hQ _ _ _ h
 ·rename_i hw
  simp only [hw] at h
  exact ⟨keep a hy _,by rw [← Act.put_comm a v undef h2];exact h⟩
def LG (P : Program) (md : Region.Mode) (ops : Array Oper) (Q : Exit → Act → World → Prop) (S : Array Bool → Act → World → Prop) (m : Nat) : Nat → Array Bool → Act → Prop
 | 0,listed,a => Region.ready md ops listed = [] ∧ ∀ w,S listed a w → Q .normal a w
 | fuel + 1,listed,a =>
  (Region.ready md ops listed = [] → ∀ w,S listed a w → Q .normal a w) ∧
  ∀ i ∈ Region.ready md ops listed, ∀ w,S listed a w → wpOp P ops Q i (fun a' w' => (S (listed.setIfInBounds i true) a' w' ∧ LG P md ops Q S m fuel (listed.setIfInBounds i true) a') ∨ (m ≤ i ∧ wpAny P md ops Q fuel (listed.setIfInBounds i true) a' w')) a w
theorem Ou : ∀ (fuel : Nat) (listed : Array Bool) (a : Act) (w : World),S listed a w → LG P md ops Q S m fuel listed a → wpAny P md ops Q fuel listed a w
 | 0,_,_,w,hS,h => ⟨h.1,h.2 w hS⟩
 | fuel + 1,_,_,w,hS,h => ⟨fun hr => h.1 hr w hS,fun i hi => wpOp_mono (fun a' w' h' => h'.elim (fun h' => Ou fuel _ a' w' h'.1 h'.2) (fun h' => h'.2)) (h.2 i hi w hS)⟩
def Tail (md : Region.Mode) (ops : Array Oper) (m : Nat) : Prop := ∀ (listed : Array Bool) j,m ≤ j → j ∈ Region.ready md ops listed → ∀ i,i ∈ Region.ready md ops listed → i < m → False
theorem Qq {i : Nat} {oi : Oper} {v : Value} (hm : Tail md ops m) (him : i < m) (hi : ops[i]? = some oi) (hk : Keeps S i oi.dst) (hsel : ∀ (j : Nat) (o : Oper) cs b,ops[j]? = some o → o.op ≠ .select cs b)
  (hQ : ∀ c a w,Q (.panic c) (a.put oi.dst v) w → Q (.panic c) a w) :
  ∀ (fuel : Nat) (listed : Array Bool) (a : Act),
   (∀ j oj,ops[j]? = some oj → j ≠ i → listed.getD j true = false → (∀ e ∈ oj.after,Region.binds md e = true → e.on ≠ i) → oi.apart ops oj = true) →
   i ∈ Region.ready md ops listed → Nc P ops S oi v a →
   LG P md ops Q S m fuel (listed.setIfInBounds i true) (a.put oi.dst v) → LG P md ops Q S m (fuel + 1) listed a:=by
 intro fuel
 induction fuel with
 | zero =>
  intro listed a _ hr hy H
  refine ⟨fun h => (by rw [h] at hr;cases hr),fun j hj w hS => ?_⟩
  by_cases hji : j = i
  ·subst hji;exact hy.wpOp hi hS (fun w' h' => .inl ⟨(hk _ a v w').2 h',H⟩)
  ·have:=ready_mono hj hji
   rw [H.1] at this
   cases this
 | succ fuel ih =>
  intro listed a hfree hr hy H
  refine ⟨fun h => (by rw [h] at hr;cases hr),fun j hj w hS => ?_⟩
  by_cases hji : j = i
  ·subst hji;exact hy.wpOp hi hS (fun w' h' => .inl ⟨(hk _ a v w').2 h',H⟩)
  ·have hjm : j < m:=Nat.lt_of_not_le fun e => hm listed j e hj i hr him
   have h1:=H.2 j (ready_mono hj hji) w ((hk _ a v w).2 hS)
   obtain ⟨hjun,oj,hoj,hall⟩:=mem_ready.1 hj
   have hnot : ∀ e ∈ oj.after,Region.binds md e = true → e.on ≠ i:=fun e he hb heq => by
    have h1:=hall e he hb
    have h0:=(mem_ready.1 hr).1
    rw [heq] at h1
    rcases Nat.lt_or_ge i listed.size with h' | h'
    ·simp [h'] at h0 h1;rw [h0] at h1;cases h1
    ·simp [Array.getElem?_eq_none h'] at h1
   have h2:=Q6 hoj (hfree j oj hoj hji hjun hnot) (fun cs b => hsel i oi cs b hi) (fun cs b => hsel j oj cs b hoj) hQ hy h1
   have hfree' : ∀ k ok,ops[k]? = some ok → k ≠ i → (listed.setIfInBounds j true).getD k true = false →
     (∀ e ∈ ok.after,Region.binds md e = true → e.on ≠ i) → oi.apart ops ok = true:=fun k ok hk hki hun hno => by
    refine hfree k ok hk hki ?_ hno
    by_cases hjk : j = k
    ·subst hjk;exact hjun
    ·rw [getD_set_ne true hjk] at hun;exact hun
   refine wpOp_mono (fun a' w' h3 => ?_) h2
   rcases h3.2 with h4 | h4
   ·rw [Array.setIfInBounds_comm _ _ (Ne.symm hji)] at h4
    exact .inl ⟨(hk _ a' v w').1 h4.1,ih (listed.setIfInBounds j true) a' hfree' (ready_mono hr (Ne.symm hji)) h3.1 h4.2⟩
   ·exact absurd h4.1 (by omega)
def lsd (n : Nat) (done : List Nat) : Array Bool:=((List.range n).map fun j => done.contains j).toArray
theorem KV (n : Nat) : lsd n [] = Array.replicate n false:=by
 apply Array.ext <;> simp [lsd]
theorem Ja (n i : Nat) (done : List Nat) : (lsd n done).setIfInBounds i true = lsd n (i :: done):=by
 apply Array.ext
 ·simp [lsd]
 ·intro j h1 h2
  simp [lsd] at h1
  by_cases e : i = j
  ·subst e;simp [lsd]
  ·simp [lsd,e,Ne.symm e]
theorem Bb {n i s : Nat} {p : Value → World → Prop} {a : Act} {w : World} : Sl i s p (lsd n []) a w:=fun h => by
 rw [KV] at h
 simp [Array.getD] at h
def IU (ops : Array Oper) (m : Nat) : Bool:=Region.noSelect ops && (List.range ops.size).all fun j => decide (j < m) || match ops[j]? with
 | none => true
 | some o => (List.range m).all fun i => o.after.any fun e => e.on == i && Region.binds .any e
theorem OH {m : Nat} (h : IU ops m = true) : Tail .any ops m:=by
 intro listed j hmj hj i hi him
 obtain ⟨_,o,ho,hall⟩:=mem_ready.1 hj
 obtain ⟨hiu,oi,hoi,_⟩:=mem_ready.1 hi
 have hjl : j < ops.size:=(Array.getElem?_eq_some_iff.1 ho).1
 have h1:=List.all_eq_true.1 (Bool.and_eq_true_iff.1 h).2 j (by simpa using hjl)
 rw [ho] at h1
 simp only [Bool.or_eq_true,decide_eq_true_eq] at h1
 rcases h1 with h1 | h1
 ·omega
 have h1:=List.all_eq_true.1 h1 i (by simpa using him)
 obtain ⟨e0,he0,h2⟩:=Array.any_eq_true'.1 h1
 simp only [Bool.and_eq_true,beq_iff_eq] at h2
 have h3:=hall e0 he0 h2.2
 rw [h2.1] at h3
 rcases Nat.lt_or_ge i listed.size with h' | h'
 ·simp [h'] at hiu h3;rw [hiu] at h3;cases h3
 ·simp [Array.getElem?_eq_none h'] at h3
def Fy (ops : Array Oper) (m : Nat) (done : List Nat) (i : Nat) : Bool:=Region.free .any ops (lsd ops.size done) i && (Region.ready .any ops (lsd ops.size done)).contains i && decide (done.length < ops.size) && decide (i < m)
def Nv (ops : Array Oper) (done : List Nat) (i : Nat) : Bool:=(Region.ready .any ops (lsd ops.size done) == [i]) && decide (done.length < ops.size)
structure Reg (P : Program) (ops : Array Oper) (Q : Exit → Act → World → Prop) (S : Array Bool → Act → World → Prop) (m : Nat) (done : List Nat) (a : Act) : Prop where
 out : LG P .any ops Q S m (ops.size - done.length) (lsd ops.size done) a
structure UX (P : Program) (ops : Array Oper) (Q : Exit → Act → World → Prop) (done : List Nat) (a : Act) (w : World) : Prop where
 out : wpAny P .any ops Q (ops.size - done.length) (lsd ops.size done) a w
variable {i d : Nat} {o : Oper} {v : Value} {L : List Value} {D : List Deferred} {done : List Nat}
theorem OO {a : Act} (ht : Aa (IU ops m = true)) (hi : ops.toList[i]? = some o) (hok : Fy ops m done i = true) (hk : Keeps S i o.dst)
  (hQ : ∀ c a w,Q (.panic c) (a.put o.dst v) w → Q (.panic c) a w) (he : Nc P ops S o v a) (h : Reg P ops Q S m (i :: done) (a.put o.dst v)) : Reg P ops Q S m done a:=by
 refine ⟨?_⟩
 have hi' : ops[i]? = some o:=by rw [← Array.getElem?_toList];exact hi
 simp only [Fy,Bool.and_eq_true,decide_eq_true_eq] at hok
 obtain ⟨⟨⟨hf,hr⟩,hl⟩,hm⟩:=hok
 have hs:=(Bool.and_eq_true_iff.1 ht.out).1
 have h1:=h.out
 rw [List.length_cons, ← Ja] at h1
 rw [show ops.size - done.length = (ops.size - (done.length + 1)) + 1 by omega]
 exact Qq (OH ht.out) hm hi' hk (Region.noSelect_spec hs) hQ _ _ a (Region.free_spec hi' hf) (by simpa using hr) he h1
theorem Fb (ht : Aa (IU ops m = true)) (hi : ops.toList[i]? = some o) (hok : Fy ops m done i = true) (hd : o.dst = some d) (hk : Keeps S i (some d)) (hw : Region.wanted o (yielded ops L.toArray) = false)
  (hQ : ∀ c a w,Q (.panic c) (a.put o.dst undef) w → Q (.panic c) a w) (h : Reg P ops Q S m (i :: done) ⟨(L.set d undef).toArray,D⟩) : Reg P ops Q S m done ⟨L.toArray,D⟩:=
 OO ht hi hok (hd ▸ hk) hQ (.inr ⟨hw,rfl⟩) (by rw [hd,Cu];exact h)
theorem CR (ht : Aa (IU ops m = true)) (hi : ops.toList[i]? = some o) (hok : Fy ops m done i = true) (hd : o.dst = some d) (hk : Keeps S i (some d)) (hw : Region.wanted o (yielded ops L.toArray) = true)
  (hQ : ∀ c a w,Q (.panic c) (a.put o.dst v) w → Q (.panic c) a w) (hr : ∀ l a w,S l a w → (execOp (Act.eval ⟨L.toArray,D⟩) o).run P w = .ok (.value v) w) (h : Reg P ops Q S m (i :: done) ⟨(L.set d v).toArray,D⟩) : Reg P ops Q S m done ⟨L.toArray,D⟩:=
 OO ht hi hok (hd ▸ hk) hQ (.inl ⟨hw,fun l a w hS => by rw [hr l a w hS];exact ⟨rfl,hS⟩⟩) (by rw [hd,Cu];exact h)
def VL (_ : List Nat) (p : Prop) : Prop:=p
theorem AX (is : List Nat) {p : Prop} (h : VL is p) : p:=h
theorem AV {p : Prop} (h : p) : VL [] p:=h
theorem AR {is : List Nat} (ht : Aa (IU ops m = true)) (hi : ops.toList[i]? = some o) (hok : Fy ops m done i = true) (hd : o.dst = some d) (hk : Keeps S i (some d)) (hw : Region.wanted o (yielded ops L.toArray) = true)
  (hQ : ∀ c a w,Q (.panic c) (a.put o.dst v) w → Q (.panic c) a w) (hr : ∀ l a w,S l a w → (execOp (Act.eval ⟨L.toArray,D⟩) o).run P w = .ok (.value v) w) (h : VL is (Reg P ops Q S m (i :: done) ⟨(L.set d v).toArray,D⟩)) : VL (i :: is) (Reg P ops Q S m done ⟨L.toArray,D⟩):=
 CR ht hi hok hd hk hw hQ hr h
theorem Ru {f : FuncId} {fn : Func} {xs : Array Operand} {ts : Array TypeId} {args : Array Value} {a : Act} (hop : o.op = .call { callee:=.value (.func f),args:=xs,argTypes:=ts }) (hf : P.funcs[f]? = some fn) (hname : (fn.name == "runtime.NumGoroutine") = false) (hb : fn.body.isSome = true)
    (hargs : xs.map a.eval = args) (w : World) : (execOp a.eval o).run P w = .ok (.enter f args) w:=by
  have he:=UI hf hname hb args w
  have hv : a.eval (.func f) = .func (.func f) #[] #[]:=rfl
  unfold execOp
  simp [hop,resolve,Deferred.ofValue,invoke,hv,hargs,he]
theorem Kn {f : FuncId} {fn : Func} {xs : Array Operand} {ts : Array TypeId} {args : Array Value} (ht : Aa (IU ops m = true)) (hi : ops.toList[i]? = some o) (hok : Fy ops m done i = true)
    (hop : o.op = .call { callee:=.value (.func f),args:=xs,argTypes:=ts }) (hf : P.funcs[f]? = some fn) (hname : (fn.name == "runtime.NumGoroutine") = false) (hb : fn.body.isSome = true) (hd : o.dst = some d) (hk : Keeps S i (some d)) (hw : Region.wanted o (yielded ops L.toArray) = true)
    (hQ : ∀ c a w,Q (.panic c) (a.put o.dst v) w → Q (.panic c) a w) (hargs : xs.map (Act.eval ⟨L.toArray,D⟩) = args)
    (hc : ∀ l a w,S l a w → Calls P f args w fun e w' => e = .returned v ∧ S l a w') (h : Reg P ops Q S m (i :: done) ⟨(L.set d v).toArray,D⟩) : Reg P ops Q S m done ⟨L.toArray,D⟩:=by
  refine OO (v:=v) ht hi hok (hd ▸ hk) hQ (.inl ⟨hw,fun l a w hS => ?_⟩) (by rw [hd,Cu];exact h)
  rw [Ru hop hf hname hb hargs]
  exact hc l a w hS
theorem Q7 {f : FuncId} {fn : Func} {xs : Array Operand} {ts : Array TypeId} {args : Array Value} {a : Act} {w : World} {K : Act → World → Prop} (hi : ops[i]? = some o)
    (hop : o.op = .call { callee:=.value (.func f),args:=xs,argTypes:=ts }) (hf : P.funcs[f]? = some fn) (hname : (fn.name == "runtime.NumGoroutine") = false) (hb : fn.body.isSome = true) (hw : Region.wanted o (yielded ops a.tmps) = true)
    (hargs : xs.map a.eval = args) (hc : Calls P f args w fun e w' => ∃ v,e = .returned v ∧ K (a.put o.dst v) w') : wpOp P ops Q i K a w:=by
  unfold Go.wpOp
  simp only [hi,hw,if_true]
  refine .inl ?_
  unfold Oper.wp
  rw [Ru hop hf hname hb hargs]
  exact Calls.mono hc fun e w' ⟨v,he,h⟩ => by subst he;exact h
theorem Bv {a : Act} {w w1 : World} {K : Act → World → Prop} (hi : ops.toList[i]? = some o) (hw : Region.wanted o (yielded ops a.tmps) = true) (hr : (execOp a.eval o).run P w = .ok .skip w1) (h : K (a.put o.dst undef) w1) : wpOp P ops Q i K a w:=by
 have hi' : ops[i]? = some o:=by rw [← Array.getElem?_toList];exact hi
 unfold Go.wpOp
 simp only [hi',hw,if_true]
 refine .inl ?_
 unfold Oper.wp
 rw [hr]
 exact h
theorem C8 {f : FuncId} {fn : Func} {xs : Array Operand} {ts : Array TypeId} {args : Array Value} (G : Value → Prop) (hi : ops.toList[i]? = some o) (hok : Nv ops done i = true)
    (hop : o.op = .call { callee:=.value (.func f),args:=xs,argTypes:=ts }) (hf : P.funcs[f]? = some fn) (hname : (fn.name == "runtime.NumGoroutine") = false) (hb : fn.body.isSome = true) (hd : o.dst = some d) (hw : Region.wanted o (yielded ops L.toArray) = true)
    (hargs : xs.map (Act.eval ⟨L.toArray,D⟩) = args)
    (hc : ∀ w,S (lsd ops.size done) ⟨L.toArray,D⟩ w → Calls P f args w fun e w' => ∃ v,e = .returned v ∧ G v ∧ S (lsd ops.size (i :: done)) ⟨(L.set d v).toArray,D⟩ w') (h : ∀ v,G v → Reg P ops Q S m (i :: done) ⟨(L.set d v).toArray,D⟩) : Reg P ops Q S m done ⟨L.toArray,D⟩:=by
  refine ⟨?_⟩
  have hi' : ops[i]? = some o:=by rw [← Array.getElem?_toList];exact hi
  simp only [Nv,Bool.and_eq_true,decide_eq_true_eq,beq_iff_eq] at hok
  rw [show ops.size - done.length = (ops.size - (done.length + 1)) + 1 by omega]
  refine ⟨fun h0 => (by rw [hok.1] at h0;cases h0),fun j hj w hS => ?_⟩
  rw [hok.1,List.mem_singleton] at hj
  subst hj
  refine Q7 hi' hop hf hname hb hw hargs ((hc w hS).mono fun e w' ⟨v,he,hg,hS'⟩ => ⟨v,he, .inl ?_⟩)
  rw [hd,Cu,Ja]
  exact ⟨hS',(h v hg).out⟩
theorem Ke {a : Act} {w w1 : World} {K : Act → World → Prop} (v : Value) (hi : ops.toList[i]? = some o) (hw : Region.wanted o (yielded ops a.tmps) = true) (hr : (execOp a.eval o).run P w = .ok (.value v) w1) (h : K (a.put o.dst v) w1) : wpOp P ops Q i K a w:=by
 have hi' : ops[i]? = some o:=by rw [← Array.getElem?_toList];exact hi
 unfold Go.wpOp
 simp only [hi',hw,if_true]
 refine .inl ?_
 unfold Oper.wp
 rw [hr]
 exact h
theorem BH {w w1 : World} {K : Act → World → Prop} (v : Value) (hi : ops.toList[i]? = some o) (hd : o.dst = some d) (hw : Region.wanted o (yielded ops L.toArray) = true) (hr : (execOp (Act.eval ⟨L.toArray,D⟩) o).run P w = .ok (.value v) w1) (h : K ⟨(L.set d v).toArray,D⟩ w1) : wpOp P ops Q i K ⟨L.toArray,D⟩ w:=
 Ke v hi hw hr (by rw [hd,Cu];exact h)
theorem Da {f : FuncId} {fn : Func} {xs : Array Operand} {ts : Array TypeId} {args : Array Value} {w : World} {K : Act → World → Prop} (hi : ops.toList[i]? = some o)
    (hop : o.op = .call { callee:=.value (.func f),args:=xs,argTypes:=ts }) (hf : P.funcs[f]? = some fn) (hname : (fn.name == "runtime.NumGoroutine") = false) (hb : fn.body.isSome = true) (hd : o.dst = some d) (hw : Region.wanted o (yielded ops L.toArray) = true)
    (hargs : xs.map (Act.eval ⟨L.toArray,D⟩) = args) (hc : Calls P f args w fun e w' => ∃ v,e = .returned v ∧ K ⟨(L.set d v).toArray,D⟩ w') : wpOp P ops Q i K ⟨L.toArray,D⟩ w:=by
  have hi' : ops[i]? = some o:=by rw [← Array.getElem?_toList];exact hi
  refine Q7 hi' hop hf hname hb hw hargs (hc.mono fun e w' ⟨v,he,h⟩ => ⟨v,he,?_⟩)
  rw [hd,Cu]
  exact h
theorem AJ {a : Act} (l : List Nat) (hok : (Region.ready .any ops (lsd ops.size done) == l && !l.isEmpty && decide (done.length < ops.size)) = true) (h : ∀ i ∈ l, ∀ w,S (lsd ops.size done) a w → wpOp P ops Q i (fun a' w' => S (lsd ops.size (i :: done)) a' w' ∧ Reg P ops Q S m (i :: done) a') a w) : Reg P ops Q S m done a:=by
 refine ⟨?_⟩
 simp only [Bool.and_eq_true,decide_eq_true_eq,beq_iff_eq,Bool.not_eq_true'] at hok
 rw [show ops.size - done.length = (ops.size - (done.length + 1)) + 1 by omega]
 refine ⟨fun h0 => (by rw [hok.1.1] at h0;rw [h0] at hok;simp at hok),fun j hj w hS => ?_⟩
 rw [hok.1.1] at hj
 refine wpOp_mono (fun a' w' h' => .inl ?_) (h j hj w hS)
 rw [Ja]
 exact ⟨h'.1,h'.2.out⟩
theorem BZ {a : Act} (hok : Nv ops done i = true) (hm : decide (m ≤ i) = true) (h : ∀ w,S (lsd ops.size done) a w → wpOp P ops Q i (fun a' w' => UX P ops Q (i :: done) a' w') a w) : Reg P ops Q S m done a:=by
 refine ⟨?_⟩
 simp only [Nv,Bool.and_eq_true,decide_eq_true_eq,beq_iff_eq] at hok hm
 rw [show ops.size - done.length = (ops.size - (done.length + 1)) + 1 by omega]
 refine ⟨fun h0 => (by rw [hok.1] at h0;cases h0),fun j hj w hS => ?_⟩
 rw [hok.1,List.mem_singleton] at hj
 subst hj
 refine wpOp_mono (fun a' w' h' => .inr ⟨hm,?_⟩) (h w hS)
 rw [Ja]
 exact h'.out
theorem LQ {a : Act} {w : World} (hok : Nv ops done i = true) (h : wpOp P ops Q i (fun a' w' => UX P ops Q (i :: done) a' w') a w) : UX P ops Q done a w:=by
 refine ⟨?_⟩
 simp only [Nv,Bool.and_eq_true,decide_eq_true_eq,beq_iff_eq] at hok
 rw [show ops.size - done.length = (ops.size - (done.length + 1)) + 1 by omega]
 refine ⟨fun h0 => (by rw [hok.1] at h0;cases h0),fun j hj => ?_⟩
 rw [hok.1,List.mem_singleton] at hj
 subst hj
 refine wpOp_mono (fun a' w' h' => ?_) h
 rw [Ja]
 exact h'.out
def XG (ops : Array Oper) (done : List Nat) : Bool:=Region.ready .any ops (lsd ops.size done) == []
theorem BM {a : Act} {w : World} (hok : XG ops done = true) (h : Q .normal a w) : UX P ops Q done a w:=by
 refine ⟨?_⟩
 have hr:=beq_iff_eq.1 hok
 generalize ops.size - done.length = n
 cases n with
 | zero => exact ⟨hr,h⟩
 | succ n => exact ⟨fun _ => h,fun i hi => by rw [hr] at hi;cases hi⟩
theorem AQ {id : Nat} {a : Act} {w : World} (S : Array Bool → Act → World → Prop) (m : Nat) (hm : P.follows .mixedOrders = true) (ht : IU ops m = true) (hS : S (lsd ops.size []) a w.drew)
  (h : Aa (IU ops m = true) → Reg P ops Q S m [] a) : (Code.region id ops true).wp P Q a w:=by
 have h1:=(h ⟨ht⟩).out
 rw [KV] at h1 hS
 exact wp_region_any hm (Ou _ _ _ _ hS h1)
end
end Go.Proofs.YtofgeajaajfiaaaGreat
namespace Go.Proofs.YtofgeajaajfiaaaGreat
open Go.RowKit Go.Proofs.YtofgeajaajfiaaaGreatW.PrintWords Go.Proofs.YtofgeajaajfiaaaGreatW.PrintLast Go.Proofs.YtofgeajaajfiaaaGreatW.PrintMore
abbrev Page.own (p : Page) (v : Value) : Value:=.agg #[.int .i64 p.lsn, .int .i64 p.owner,v]
def PX (w : World) (p : Page) (e : Ending) (w' : World) : Prop := ∃ v,e = .returned (p.own v) ∧ AL w' w.heap.size v p.vals ∧ Below w.heap.size w w'
abbrev CO : Obj:=.cells #[.int .i64 0, .int .i64 0, .slice none 0 0] 41
theorem Xv (w : World) (p : Page) (A : Option Addr) (c : Nat) : Ma ((w.alloc (p.box A c)).alloc CO) ⟨w.heap.size,0,none⟩ p A c:=(Yc w p A c).up ((Below.refl _ _).alloc (Nat.le_refl _) _)
def AU (w : World) (g : Nat) (p : Page) (v : Value) : Prop:=w.heap[g]? = some (.cells #[.int .i64 p.lsn, .int .i64 p.owner,v] 41 (0,0))
theorem AU.c0 {w : World} {g : Nat} {p : Page} {v : Value} (h : AU w g p v) : w.cell? ⟨g,0,none⟩ = some (.int .i64 p.lsn):=by unfold AU at h;simp [World.cell?,h]
theorem AU.c1 {w : World} {g : Nat} {p : Page} {v : Value} (h : AU w g p v) : w.cell? ⟨g,1,none⟩ = some (.int .i64 p.owner):=by unfold AU at h;simp [World.cell?,h]
theorem AU.c2 {w : World} {g : Nat} {p : Page} {v : Value} (h : AU w g p v) : w.cell? ⟨g,2,none⟩ = some v:=by unfold AU at h;simp [World.cell?,h]
theorem AU.frz {w : World} {g : Nat} {p : Page} {v : Value} (h : AU w g p v) (k : Nat) : w.frozen? ⟨g,k,none⟩ = false:=by unfold AU at h;simp [World.frozen?,h]
theorem AU.up {w w1 : World} {g : Nat} {p : Page} {v : Value} (h : AU w g p v) (hb : Below w.heap.size w w1) : AU w1 g p v:=by
 have hg : g < w.heap.size:=(Array.getElem?_eq_some_iff.1 h).1
 exact (hb.block g hg).trans h
theorem AU.mk1 (w : World) (p : Page) (v : Value) : AU (w.alloc (.cells #[.int .i64 p.lsn, .int .i64 p.owner,v] 41)) w.heap.size p v:=by
 show (w.heap.push _)[w.heap.size]? = _
 simp
theorem heap_setCell_same {w : World} {g j : Nat} {cs : Array Value} {t : TypeId} {f : Nat × Nat} (h : w.heap[g]? = some (.cells cs t f)) (u : Value) : (w.setCell ⟨g,j,none⟩ u).heap[g]? = some (.cells (cs.setIfInBounds j u) t f):=by
 simp only [World.setCell,Array.getElem?_modify,h]
 simp
theorem AU.set0 {w : World} {g : Nat} {p : Page} {v : Value} (h : AU w g p v) (x : Int) : AU (w.setCell ⟨g,0,none⟩ (.int .i64 x)) g ⟨x,p.owner,p.vals⟩ v:=heap_setCell_same h _
theorem AU.set1 {w : World} {g : Nat} {p : Page} {v : Value} (h : AU w g p v) (x : Int) : AU (w.setCell ⟨g,1,none⟩ (.int .i64 x)) g ⟨p.lsn,x,p.vals⟩ v:=heap_setCell_same h _
theorem AU.set2 {w : World} {g : Nat} {p : Page} {v : Value} (h : AU w g p v) (x : Value) : AU (w.setCell ⟨g,2,none⟩ x) g p x:=heap_setCell_same h _
def zp : Page:=⟨0,0, []⟩
theorem SF (w : World) (p : Page) (A : Option Addr) (c : Nat) : AU ((w.alloc (p.box A c)).alloc CO) (w.heap.size + 1) zp (.slice none 0 0):=by
 have:=AU.mk1 (w.alloc (p.box A c)) zp (.slice none 0 0)
 rwa [show (w.alloc (p.box A c)).heap.size = w.heap.size + 1 by simp] at this
theorem AL.set {w : World} {b g : Nat} {v : Value} {xs : List Int} (h : AL w b v xs) (hg : g < b) (u : Value) (j : Nat) : AL (w.setCell ⟨g,j,none⟩ u) b v xs:=ownsRow_setCell_below h hg u
abbrev CK (w : World) (g : Nat) (p : Page) (v : Value) : World:=((w.setCell ⟨g,0,none⟩ (.int .i64 p.lsn)).setCell ⟨g,1,none⟩ (.int .i64 p.owner)).setCell ⟨g,2,none⟩ v
theorem AU.CK {w : World} {g : Nat} {q : Page} {u : Value} (h : AU w g q u) (p : Page) (v : Value) : AU (CK w g p v) g p v:=((h.set0 p.lsn).set1 p.owner).set2 v
theorem AL.CK {w : World} {b g : Nat} {v : Value} {xs : List Int} (h : AL w b v xs) (hg : g < b) (p : Page) (u : Value) : AL (CK w g p u) b v xs:=((h.set hg _ _).set hg _ _).set hg _ _
theorem Cx {w0 w : World} {g : Nat} (h : Below w0.heap.size w0 w) (hg : w0.heap.size ≤ g) (p : Page) (u : Value) : Below w0.heap.size w0 (CK w g p u):=((h.setCell (p:=⟨g,0,none⟩) hg _).setCell (p:=⟨g,1,none⟩) hg _).setCell (p:=⟨g,2,none⟩) hg _
theorem Yy (w : World) (p : Page) (A : Option Addr) (c : Nat) : w.heap.size + 2 ≤ ((w.alloc (p.box A c)).alloc CO).drew.heap.size:=by simp
theorem SE (w : World) (p : Page) (A : Option Addr) (c : Nat) : Below w.heap.size w ((w.alloc (p.box A c)).alloc CO):=bj (Om w p A c) ((Below.refl _ _).alloc (Nat.le_refl _) _)
set_option maxRecDepth 100000 in
set_option maxHeartbeats 4000000 in
theorem F4 {w0 w : World} {A : Option Addr} {c : Nat} {p : Page} (hl : p.vals.length ≤ 17592186044416) (hb : Below w0.heap.size w0 w) (hr : Kd.C (Kd.int .i64) w0 A p.vals.length p.vals) : Calls Tryz.prog 65 #[p.val A c] w (PX w p):=by
 have HR:=As (BA hr hb)
 have HL:=As hl
 have HA:=As (Xv w p A c)
 have HB:=As (SE w p A c)
 have HA2:=As (SF w p A c)
 clear hr hb hl
 go_enter Tryz.func65,Tryz.ntmps65
 go_wp2
 refine AQ (fun lx a wx => (Below w.heap.size w wx ∧ w.heap.size + 2 ≤ wx.heap.size ∧ Ma wx ⟨w.heap.size,0,none⟩ p A c ∧ AU wx (w.heap.size + 1) zp (.slice none 0 0)) ∧ Sl 6 9 (fun v wx => AL wx (w.heap.size + 2) v p.vals) lx a wx) 8 rfl (by kernel_rfl) (⟨⟨Af HB.out,Yy w p A c,HA.out.up (Af (Below.refl _ _)),HA2.out.up (Af (Below.refl _ _))⟩,Bb⟩) (fun HT => ?_)
 refine AX [0,1,2,3,4,5] ?_
 iterate 6 (refine AR (v:=?_) HT rfl (by kernel_rfl) rfl (kA Ae (Aj rfl rfl)) (by rfl) (fun _ _ _ h => h) (fun lx ax wx hS => ?_) ?_;rotate_left;(obtain ⟨⟨-, -,⟨x0,x1,x2⟩, -⟩, -⟩:=hS;go_simp;with_reducible rfl);rotate_left;simp only [sc0,sc1])
 refine AV ?_
 refine C8 (i:=6) (f:=107) (args:=#[.slice A p.vals.length c]) (fun v => ∃ A1 c1,v = .slice A1 p.vals.length c1) rfl (by kernel_rfl) rfl Tryz.func107 (by kernel_rfl) rfl rfl (by rfl) (by simp only [List.map_toArray,List.map_cons,List.map_nil];rfl) (fun wx hS => (O9 HL.out hS.1.1 HR.out).mono (by rintro e w1 ⟨v,rfl,ho,hb⟩;obtain ⟨A1,c1,rfl, -, -⟩:=ho.reads;exact ⟨_,rfl,⟨A1,c1,rfl⟩,⟨bj hS.1.1 hb,by have:=hS.1.2.1;have:=hb.size;omega,hS.1.2.2.1.up hb,hS.1.2.2.2.up hb⟩,fun _ => ho.lower hS.1.2.1⟩)) (fun vx hg => ?_);simp only [sc0,sc1]
 obtain ⟨A1,c1,rfl⟩:=hg
 refine CR (i:=7) (v:=?_) HT rfl (by kernel_rfl) rfl (kA Ae (Aj rfl rfl)) (by rfl) (fun _ _ _ h => h) (fun lx ax wx hS => ?_) ?_;rotate_left;(go_simp;with_reducible rfl);rotate_left;simp only [sc0,sc1]
 refine BZ (i:=8) (by kernel_rfl) rfl (fun wx hS => ?_)
 obtain ⟨⟨h1,h2, -,hy⟩,hs⟩:=hS
 have ho : AL wx (w.heap.size + 2) (.slice A1 p.vals.length c1) p.vals:=hs (by kernel_rfl)
 clear hs
 have y0:=hy.c0
 have y1:=hy.c1
 have y2:=hy.c2
 have f0:=hy.frz 0
 have f1:=hy.frz 1
 have f2:=hy.frz 2
 refine Bv (w1:=?_) rfl (by rfl) ?_ ?_
 rotate_left
 ·go_simp
  with_reducible rfl
 have hy2:=((hy.set0 p.lsn).set1 p.owner).set2 (.slice A1 p.vals.length c1)
 have ho2:=(((ho.set (g:=w.heap.size + 1) (by omega) (Value.int .i64 p.lsn) 0).set (g:=w.heap.size + 1) (by omega) (Value.int .i64 p.owner) 1).set (g:=w.heap.size + 1) (by omega) (.slice A1 p.vals.length c1) 2)
 have h3:=((h1.setCell (p:=⟨w.heap.size + 1,0,none⟩) (by simp) (Value.int .i64 p.lsn)).setCell (p:=⟨w.heap.size + 1,1,none⟩) (by simp) (Value.int .i64 p.owner)).setCell (p:=⟨w.heap.size + 1,2,none⟩) (by simp) (.slice A1 p.vals.length c1)
 have z0:=hy2.c0
 have z1:=hy2.c1
 have z2:=hy2.c2
 refine BM (by kernel_rfl) ?_
 go_wp2
 exact bodyPost_ret (v:=p.own (.slice A1 p.vals.length c1)) (by simp [results,Tryz.results65,go_sem,z0,z1,z2]) rfl ⟨_,rfl,ho2.lower (by omega),h3⟩
abbrev LD (w : World) (base : Nat) (v : Value) (ps : List Page) : Prop:=Kd.R Dw 41 w base (fun _ => True) v ps
abbrev CB (w : World) (base : Nat) (ok : Nat → Prop) (v : Value) (ps : List Page) : Prop:=Kd.S Dw 41 w base ok v ps
abbrev EH (w : World) (base : Nat) (v : Value) (ps : List Page) : Prop:=CB w base (fun _ => True) v ps
def N7 (w : World) (ps : List Page) (e : Ending) (w' : World) : Prop := ∃ v,e = .returned v ∧ EH w' w.heap.size v ps ∧ Below w.heap.size w w'
theorem Vz : (Tryz.prog.info? 41).map (fun i => (i.zero,i.size,i.bytes)) = some (some (.agg #[.int .i64 0, .int .i64 0, .slice none 0 0]),3,40):=by kernel_rfl
theorem Rq : Tryz.prog.underlying 25 = some (.slice 41):=Tryz.underlying25
theorem Xj {xs : List Page} {k : Nat} (h : k < xs.length) : xs.drop k = pg xs k :: xs.drop (k + 1):=by
 rw [List.drop_eq_getElem_cons h]
 simp [pg,List.getD_eq_getElem?_getD,h]
theorem Us {xs : List Page} {k : Nat} (h : k < xs.length) : xs.take (k + 1) = xs.take k ++ [pg xs k]:=by
 rw [List.take_add_one]
 simp [pg,List.getD_eq_getElem?_getD,h]
theorem YC {w : World} {base : Nat} {v : Value} {ps : List Page} (h : LD w base v ps) : ∀ k,v.ownBlock = some k → k < w.heap.size:=by
 obtain ⟨inner,ho⟩:=Kd.LC h
 exact fun k hk => OX ho k hk
theorem XZ {w : World} {base : Nat} {ok : Nat → Prop} {v : Value} {ps : List Page} (h : CB w base ok v ps) : ∀ k,v.ownBlock = some k → k < w.heap.size:=Kd.YW h
theorem Mr {w : World} {base : Nat} {ok : Nat → Prop} {v : Value} {ps : List Page} (h : CB w base ok v ps) : ∀ k,v.ownBlock = some k → ok k:=by
 obtain ⟨f,h0,_⟩:=h
 exact h0
section
variable {ops : Array Oper} {rest : List Oper} {o : Oper} {a : Act} {Q : Exit → Act → World → Prop}
theorem GV {w0 W : World} {N : Nat} {v u : Value} {ps : List Page} {p : Page} (hgd : o.guard = none) (s x : Operand)
  (ho : o.op = .call { callee:=.builtin .append,args:=#[s,x],argTypes:=#[25,25] }) (hs : a.eval s = v) (hx : a.eval x = .slice (some ⟨W.heap.size,0,none⟩) 1 1)
  (hp : AL W N u p.vals) (HO : CB W w0.heap.size (fun k => True ∧ k < N) v ps) (HB : Below w0.heap.size w0 W) (hl : ps.length + 1 ≤ 1000) (hN : w0.heap.size ≤ N)
  (h : ∀ v1 w1,EH w1 w0.heap.size v1 (ps ++ [p]) → Below w0.heap.size w0 w1 → wpList Tryz.prog ops Q rest (a.put o.dst v1) w1) :
  wpList Tryz.prog ops Q (o :: rest) a (W.alloc (.cells #[.int .i64 p.lsn, .int .i64 p.owner,u] 41)):=by
 have hv:=Mr HO
 refine Kd.SQ Dw w0.heap.size hgd s x 25 41 _ 40 ho Rq Vz rfl (by decide) (by decide) v ps p [.int .i64 p.lsn, .int .i64 p.owner,u] (fun _ => True) (fun k => some k = u.ownBlock) hs hx ?_ (fun k hk => ⟨trivial,fun e => ?_⟩) (fun _ _ => trivial) (Kd.Dl HO (fun k hk => ⟨trivial,fun e => ?_⟩)) HB HB.size (by omega) (fun v1 w1 h1 h2 _ _ => h v1 w1 h1 h2)
 ·exact Ji W _ _ p (Kd.EQ (En hp hN) (fun k hk => hk.symm))
 ·have h1:=Ck hp k hk.symm
  have h2:=(hv k e.symm).2
  omega
 ·have h1:=Ck hp k e.symm
  have h2:=hk.2
  omega
end
def Ol (ps : List Page) : Prop := ∀ p ∈ ps,p.vals.length ≤ 17592186044416
theorem WO {ps : List Page} (h : Ol ps) {k : Nat} (hk : k < ps.length) : (pg ps k).vals.length ≤ 17592186044416:=h _ (by simp [pg,List.getD_eq_getElem?_getD,hk])
set_option maxHeartbeats 4000000 in
theorem EZ {w0 w : World} {A : Option Addr} {c : Nat} {ps : List Page} (hf : Ol ps) (hn : ps.length ≤ 150) (hb : Below w0.heap.size w0 w) (hr : Kd.C Dw w0 A ps.length ps) : Calls Tryz.prog 95 #[.slice A ps.length c] w (N7 w ps):=by
 have HR:=As (BA hr hb)
 have HF:=As hf
 clear hr hb hf
 go_enter Tryz.func95,Tryz.ntmps95
 go_wp2
 go_loopw [3,8] (fun v i wr => ∃ k : Nat,k ≤ ps.length ∧ i = .int .i64 (k : Int) ∧ Aa (EH wr w.heap.size v (ps.take k)) ∧ Aa (Below w.heap.size w wr)) (fun _ i _ => (ps.length - intOf i).toNat)
 case atStart => exact ⟨0,Nat.zero_le _,rfl,⟨Kd.SN _ _ _ _ _⟩,⟨Below.refl _ _⟩⟩
 case round =>
  obtain ⟨k,hk,rfl,HO,HW⟩:=hrel
  have hm : ps.length ≤ 9223372036854775807:=(Cg HR.out).2
  by_cases hlt : k < ps.length
  ·obtain ⟨ad,A2,c2,rfl,QP, -,g2⟩:=Di (BA HR.out HW.out) k hlt
   obtain ⟨x0,x1,x2⟩:=QP
   have HG:=As g2
   have HFk:=As (WO HF.out hlt)
   have HN:=As hn
   clear g2 hn
   go_wp2_with (first | (go_at_call 65;refine (F4 (w0:=wr) HFk.out (by go_grown) HG.out).mono ?_;rintro e w2 ⟨v,rfl,ho,hb2⟩;have HOv:=As (ho.lower (b':=wr.heap.size) (by simp));have HW2:=As (bj ((Below.refl _ wr).alloc (Nat.le_refl _) _) hb2);have HO2:=As (Kd.Ee HO.out HW2.out);clear ho hb2) | (at_builtin;refine GV (p:=pg ps k) rfl (.tmp 12) (.tmp 15) rfl rfl rfl HOv.out HO2.out (bj HW.out HW2.out) (by have:=HN.out;simp;omega) HW.out.size ?_;intro v1 w3 hR hb3;have HR3:=As hR;have HW3:=As hb3;clear hR hb3))
   go_roundw
   case rel => exact ⟨k + 1,by omega,by go_num,⟨by rw [Us hlt];exact HR3.out⟩,HW3⟩
   case measure => simp [intOf];omega
  ·have HE:=As (show k = ps.length by omega)
   go_wp2
   go_ret
   exact ⟨_,rfl,by have:=HO.out;rwa [HE.out,List.take_length] at this,HW.out⟩
end Go.Proofs.YtofgeajaajfiaaaGreat
namespace Go.Proofs.YtofgeajaajfiaaaGreat
open Go.RowKit Go.Proofs.YtofgeajaajfiaaaGreatW.PrintWords Go.Proofs.YtofgeajaajfiaaaGreatW.PrintLast Go.Proofs.YtofgeajaajfiaaaGreatW.PrintMore
theorem Wt (W : World) (base : Nat) (e : TypeId) (size : Nat) (hb : base ≤ W.heap.size) : (W.alloc (.cells #[] e)).ownsRow base e size (.slice (some ⟨W.heap.size,0,none⟩) 0 0) 0 []:=by
 refine ⟨by simp, .inr ⟨W.heap.size,0,#[],rfl,hb,?_,?_⟩⟩
 ·show (W.heap.push _)[W.heap.size]? = _
  simp
 ·simp
theorem own_none' {W : World} {g base : Nat} (e : TypeId) (size : Nat) (hg : g = W.heap.size) (hb : base ≤ W.heap.size) : (W.alloc (.cells #[] e)).ownsRow base e size (.slice (some ⟨g,0,none⟩) 0 0) 0 []:=hg ▸ Wt W base e size hb
theorem Yb (w : World) (p : Page) (A : Option Addr) (c : Nat) : AU ((w.alloc (p.box A c)).alloc CO) w.heap.size p (.slice A p.vals.length c):=(AU.mk1 w p _).up ((Below.refl _ _).alloc (Nat.le_refl _) _)
theorem XV (w : World) (p : Page) (A : Option Addr) (c : Nat) : ((w.alloc (p.box A c)).alloc CO).heap.size = w.heap.size + 2:=by simp
theorem AU.far {w : World} {g h : Nat} {p : Page} {v : Value} (hy : AU w g p v) (hne : h ≠ g) (j : Nat) (u : Value) : AU (w.setCell ⟨h,j,none⟩ u) g p v:=(Below.heap_setCell w ⟨h,j,none⟩ u g (Ne.symm hne)).trans hy
set_option maxRecDepth 100000 in
set_option maxHeartbeats 4000000 in
theorem EU {w0 w : World} {A : Option Addr} {c : Nat} {p : Page} (hl : p.vals.length ≤ 17592186044416) (hb : Below w0.heap.size w0 w) (hr : Kd.C (Kd.int .i64) w0 A p.vals.length p.vals) : Calls Tryz.prog 69 #[p.val A c] w (PX w p):=by
 have HR:=As (BA hr hb)
 have HL:=As hl
 have HA:=As (Yb w p A c)
 have HB:=As (SE w p A c)
 have HA2:=As (SF w p A c)
 have HZ:=As (XV w p A c)
 clear hr hb hl
 obtain ⟨W2,hW2⟩ : ∃ W2,(w.alloc (p.box A c)).alloc CO = W2:=⟨_,rfl⟩
 have HW2:=As hW2
 rw [hW2] at HA HB HA2 HZ
 clear hW2
 go_enter Tryz.func69,Tryz.ntmps69
 go_wp2_with (at_builtin;go_loud (rw [HW2.out]);go_loud (refine Nt (w0:=W2) W2.heap.size rfl (.tmp 3) (.tmp 5) 32 3 .i64 8 rfl Ei FX (by omega) _ [] p.vals A p.vals.length c rfl rfl (own_none' 3 1 HZ.out.symm (Nat.le_refl _)) (Kd.OQ (enc:=Value.int .i64) (d:=(0 : Int)) (h1:=fun _ => rfl) (BA HR.out (bj HB.out ((Below.refl _ _).alloc (Nat.le_refl _) _)))) ((Below.refl _ _).alloc (Nat.le_refl _) _) (by simp) (by have:=HL.out;simp;omega) ?_);intro v1 w1 hown hb1 _ _;have hown : AL w1 W2.heap.size v1 p.vals:=hown;obtain ⟨A1,c1,rfl, -, -⟩:=hown.reads;have HO:=As hown;have HA1:=As (HA.out.up hb1);have HA3:=As (HA2.out.up hb1);have HB1:=As (bj HB.out hb1);have x0:=HA1.out.c0;have x1:=HA1.out.c1;have x2:=HA1.out.c2;have x3:=HA1.out.frz 2;have y0:=HA3.out.c0;have y1:=HA3.out.c1;have y2:=HA3.out.c2;have f0:=HA3.out.frz 0;have f1:=HA3.out.frz 1;have f2:=HA3.out.frz 2;clear hown hb1)
 have HA5:=As (HA1.out.set2 (.slice A1 p.vals.length c1))
 have ho1:=HO.out
 rw [HZ.out] at ho1
 have ho2:=ho1.set (g:=w.heap.size) (by omega) (.slice A1 p.vals.length c1) 2
 have h2:=HB1.out.setCell (p:=⟨w.heap.size,2,none⟩) (by simp) (.slice A1 p.vals.length c1)
 have ho3:=ho2.CK (g:=w.heap.size + 1) (by omega) p (.slice A1 p.vals.length c1)
 have h3:=Cx (g:=w.heap.size + 1) h2 (by omega) p (.slice A1 p.vals.length c1)
 have hy:=AU.CK (show AU (w1.setCell ⟨w.heap.size,2,none⟩ (.slice A1 p.vals.length c1)) (w.heap.size + 1) zp (.slice none 0 0) from HA3.out.far (by omega) _ _) p (.slice A1 p.vals.length c1)
 have z0:=hy.c0
 have z1:=hy.c1
 have z2:=hy.c2
 exact bodyPost_ret (v:=p.own (.slice A1 p.vals.length c1)) (by simp [results,Tryz.results69,go_sem,z0,z1,z2]) rfl ⟨_,rfl,ho3.lower (by omega),h3⟩
theorem OU {W : World} {g base : Nat} (hg : g = W.heap.size) (hb : base ≤ W.heap.size) : EH (W.alloc (.cells #[] 41)) base (.slice (some ⟨g,0,none⟩) 0 0) []:=⟨fun _ => 0,fun _ _ => trivial, [],own_none' _ 3 hg hb,Reps.none _ _⟩
set_option maxHeartbeats 4000000 in
theorem DJ {w0 w : World} {A : Option Addr} {c : Nat} {ps : List Page} (hf : Ol ps) (hn : ps.length ≤ 150) (hb : Below w0.heap.size w0 w) (hr : Kd.C Dw w0 A ps.length ps) : Calls Tryz.prog 111 #[.slice A ps.length c] w (N7 w ps):=by
 have HR:=As (BA hr hb)
 have HF:=As hf
 clear hr hb hf
 go_enter Tryz.func111,Tryz.ntmps111
 go_wp2
 go_loopw [3,4] (fun v i wr => ∃ k : Nat,k ≤ ps.length ∧ i = .int .i64 (k : Int) ∧ Aa (EH wr w.heap.size v (ps.take k)) ∧ Aa (Below w.heap.size w wr)) (fun _ i _ => (ps.length - intOf i).toNat)
 case atStart => exact ⟨0,Nat.zero_le _,rfl,⟨OU rfl (Nat.le_refl _)⟩,⟨(Below.refl _ _).alloc (Nat.le_refl _) _⟩⟩
 case round =>
  obtain ⟨k,hk,rfl,HO,HW⟩:=hrel
  have hm : ps.length ≤ 9223372036854775807:=(Cg HR.out).2
  by_cases hlt : k < ps.length
  ·obtain ⟨ad,A2,c2,rfl,QP, -,g2⟩:=Di (BA HR.out HW.out) k hlt
   obtain ⟨x0,x1,x2⟩:=QP
   have HG:=As g2
   have HFk:=As (WO HF.out hlt)
   have HN:=As hn
   clear g2 hn
   go_wp2_with (first | (go_at_call 69;refine (EU (w0:=wr) HFk.out (Below.refl _ _) HG.out).mono ?_;rintro e w2 ⟨v,rfl,ho,hb2⟩;have HOv:=As ho;have HW2:=As hb2;have HO2:=As (Kd.Ee HO.out HW2.out);clear ho hb2) | (at_builtin;refine GV (p:=pg ps k) rfl (.tmp 12) (.tmp 18) rfl rfl rfl HOv.out HO2.out (bj HW.out HW2.out) (by have:=HN.out;simp;omega) HW.out.size ?_;intro v1 w3 hR hb3;have HR3:=As hR;have HW3:=As hb3;clear hR hb3))
   go_roundw
   case rel => exact ⟨k + 1,by omega,by go_num,⟨by rw [Us hlt];exact HR3.out⟩,HW3⟩
   case measure => simp [intOf];omega
  ·have HE:=As (show k = ps.length by omega)
   go_wp2
   go_ret
   exact ⟨_,rfl,by have:=HO.out;rwa [HE.out,List.take_length] at this,HW.out⟩
def Bg (p : Page) (r : Rec) : Page:=if 0 ≤ r.slot then ⟨p.lsn,p.owner,p.vals.set r.slot.toNat r.new⟩ else if r.new = 0 then ⟨p.lsn,0, [0,0,0]⟩ else ⟨p.lsn,r.new,p.vals⟩
abbrev Rec.box (r : Rec) : Obj:=.cells #[.int .i64 r.kind, .int .i64 r.tx, .int .i64 r.page, .int .i64 r.slot, .int .i64 r.old, .int .i64 r.new, .int .i64 r.prev, .int .i64 r.next] 73
theorem GR (w : World) (r : Rec) : GA (w.alloc r.box) ⟨w.heap.size,0,none⟩ r:=⟨by go_simp,by go_simp,by go_simp,by go_simp,by go_simp,by go_simp,by go_simp,by go_simp⟩
theorem Ab {w0 w : World} (h : Below w0.heap.size w0 w) (o : Obj) : Below w0.heap.size w0 (w.alloc o):=h.alloc h.size o
theorem BJ (w : World) (o : Obj) : (w.alloc o).heap.size = w.heap.size + 1:=by simp
theorem AL.lt {w : World} {b k : Nat} {v : Value} {xs : List Int} (h : AL w b v xs) (hk : v.ownBlock = some k) : k < w.heap.size:=OX h k hk
theorem AL.base {w : World} {b k : Nat} {v : Value} {xs : List Int} (h : AL w b v xs) (hk : v.ownBlock = some k) : b ≤ k:=Ck h k hk
theorem AL.at {w : World} {b g cap : Nat} {xs : List Int} (h : AL w b (.slice (some ⟨g,0,none⟩) xs.length cap) xs) (i : Int) (h0 : 0 ≤ i) (h1 : i < xs.length) : w.cell? ⟨g,i.toNat,none⟩ = some (.int .i64 (rd xs i)) ∧ w.frozen? ⟨g,i.toNat,none⟩ = false:=Y6 h i h0 h1
theorem AL.far {w : World} {b g : Nat} {v : Value} {xs : List Int} (h : AL w b v xs) (hg : ∀ k,v.ownBlock = some k → k ≠ g) (u : Value) (j : Nat) : AL (w.setCell ⟨g,j,none⟩ u) b v xs:=RG h (fun e => hg g e.symm rfl) u
theorem AL.put {w : World} {b g cap : Nat} {xs : List Int} (h : AL w b (.slice (some ⟨g,0,none⟩) xs.length cap) xs) (i x : Int) : AL (w.setCell ⟨g,i.toNat,none⟩ (.int .i64 x)) b (.slice (some ⟨g,0,none⟩) xs.length cap) (xs.set i.toNat x):=Xk h i x
theorem Gb {P : Program} {ops : Array Oper} {l : List Oper} {Q : Exit → Act → World → Prop} {a : Act} {w : World} (p : Page) {v : Value} (h : ∀ w1,Below w.heap.size w w1 → w1.heap.size = w.heap.size + 1 → AU w1 w.heap.size p v → wpList P ops Q l a w1) : wpList P ops Q l a (w.alloc (.cells #[.int .i64 p.lsn, .int .i64 p.owner,v] 41)):=
 h _ ((Below.refl _ _).alloc (Nat.le_refl _) _) (BJ _ _) (AU.mk1 w p v)
theorem Uw : ∀ W : World,(Instr.makeSlice 32 (.int .i64 3) (.int .i64 3)).run Tryz.prog W = .ok (.slice (some ⟨W.heap.size,0,none⟩) 3 3) (W.alloc (.cells (madeCells #[.int .i64 0] 3) 3)):=Tv 32 3 .i64 8 Ei FX (by decide) 3 (by decide)
set_option maxRecDepth 100000 in
set_option maxHeartbeats 4000000 in
theorem LH {w0 w : World} {A : Option Addr} {c : Nat} {p : Page} (r : Rec) (hl : p.vals.length ≤ 17592186044416) (hs : r.slot < p.vals.length) (hb : Below w0.heap.size w0 w) (hr : Kd.C (Kd.int .i64) w0 A p.vals.length p.vals) : Calls Tryz.prog 126 #[p.val A c,r.val] w (PX w (Bg p r)):=by
 have HR:=As (BA hr hb)
 have HL:=As hl
 have HS:=As hs
 clear hr hb hl hs
 obtain ⟨W1,hW1⟩ : ∃ W1,w.alloc (p.box A c) = W1:=⟨_,rfl⟩
 obtain ⟨W2,hW2⟩ : ∃ W2,W1.alloc r.box = W2:=⟨_,rfl⟩
 obtain ⟨W3,hW3⟩ : ∃ W3,W2.alloc CO = W3:=⟨_,rfl⟩
 have Z1 : W1.heap.size = w.heap.size + 1:=by rw [← hW1,BJ]
 have Z2 : W2.heap.size = w.heap.size + 2:=by rw [← hW2,BJ,Z1]
 have Z3 : W3.heap.size = w.heap.size + 3:=by rw [← hW3,BJ,Z2]
 have hR3 : GA W3 ⟨w.heap.size + 1,0,none⟩ r:=by
  have:=GR W1 r
  rw [Z1,hW2] at this
  rw [← hW3]
  exact this.up (Ab (Below.refl _ _) _)
 have hP3 : AU W3 (w.heap.size + 2) zp (.slice none 0 0):=by
  have:=AU.mk1 W2 zp (.slice none 0 0)
  rw [Z2] at this
  rw [← hW3]
  exact this
 have hB3 : Below w.heap.size w W3:=by
  rw [← hW3, ← hW2, ← hW1]
  exact Ab (Ab (Ab (Below.refl _ _) _) _) _
 have HW3 : Aa (((w.alloc (p.box A c)).alloc r.box).alloc CO = W3):=⟨by rw [hW1,hW2,hW3]⟩
 have HR3:=As hR3
 have HP3:=As hP3
 have HB3:=As hB3
 have HZ3:=As Z3
 clear hW1 hW2 hW3 Z1 Z2 Z3 hR3 hP3 hB3
 rcases lts r.slot 0 with ⟨e1,b1,c1⟩ | ⟨e1,b1,c1⟩
 ·rcases BQ r.new 0 with ⟨e2,b2,c2⟩ | ⟨e2,b2,c2⟩
  ·go_enter Tryz.func126,Tryz.ntmps126
   go_wp2_with (first | (go_at_call 65;rw [HW3.out];refine (F4 (w0:=w) HL.out HB3.out HR.out).mono ?_;rintro e w1 ⟨v,rfl,ho,hb1⟩;obtain ⟨A1,c1,rfl, -, -⟩:=ho.reads;have HO:=As ho;have HB1:=As hb1;clear ho hb1) | (with_reducible refine Gb p ?_;intro w2 hb2 hz2 hq2;have HB2:=As (bj HB1.out hb2);have HW2:=As (bj HB3.out HB2.out);have HR2:=As (HR3.out.up HB2.out);have HP2:=As (HP3.out.up HB2.out);have HO2:=As (HO.out.below hb2);have HQ2:=As hq2;have hlt : w.heap.size + 3 ≤ w1.heap.size:=(by have:=HB1.out.size;have:=HZ3.out;omega);have hn1 : w.heap.size + 1 ≠ w1.heap.size:=(by omega);have hn2 : w.heap.size + 2 ≠ w1.heap.size:=(by omega);obtain ⟨-, -, -,x3, -,x5, -, -⟩:=HR2.out;simp only [Nat.zero_add] at x3 x5;have y0:=HP2.out.c0;have y1:=HP2.out.c1;have y2:=HP2.out.c2;have f0:=HP2.out.frz 0;have f1:=HP2.out.frz 1;have f2:=HP2.out.frz 2;have q0:=hq2.c0;have q1:=hq2.c1;have q2:=hq2.c2;have g1:=hq2.frz 1;have g2:=hq2.frz 2;clear hb2 hq2))
   have hmk:=Uw
   go_region
   obtain ⟨W5,hW5⟩ : ∃ W5,(((w2.setCell ⟨w1.heap.size,1,none⟩ (.int .i64 0)).setCell ⟨w1.heap.size,2,none⟩ (.slice (some ⟨w1.heap.size + 1,0,none⟩) 3 3)).alloc (.cells (madeCells #[.int .i64 0] 3) 3)).drew = W5:=⟨_,rfl⟩
   have hs : ((w2.setCell ⟨w1.heap.size,1,none⟩ (.int .i64 0)).setCell ⟨w1.heap.size,2,none⟩ (.slice (some ⟨w1.heap.size + 1,0,none⟩) 3 3)).heap.size = w1.heap.size + 1:=by simp [hz2]
   have hup : Below (w1.heap.size + 1) ((w2.setCell ⟨w1.heap.size,1,none⟩ (.int .i64 0)).setCell ⟨w1.heap.size,2,none⟩ (.slice (some ⟨w1.heap.size + 1,0,none⟩) 3 3)) W5:=by
    rw [← hW5]
    exact ((Below.refl _ _).alloc (by omega) _).drew
   have hup : Below ((w2.setCell ⟨w1.heap.size,1,none⟩ (.int .i64 0)).setCell ⟨w1.heap.size,2,none⟩ (.slice (some ⟨w1.heap.size + 1,0,none⟩) 3 3)).heap.size ((w2.setCell ⟨w1.heap.size,1,none⟩ (.int .i64 0)).setCell ⟨w1.heap.size,2,none⟩ (.slice (some ⟨w1.heap.size + 1,0,none⟩) 3 3)) W5:=(congrArg (fun n => Below n _ W5) hs).mpr hup
   have hQ5 : AU W5 w1.heap.size ⟨p.lsn,0,p.vals⟩ (.slice (some ⟨w1.heap.size + 1,0,none⟩) 3 3):=((HQ2.out.set1 0).set2 _).up hup
   have hP5 : AU W5 (w.heap.size + 2) zp (.slice none 0 0):=((HP2.out.far (h:=w1.heap.size) (by omega) 1 _).far (h:=w1.heap.size) (by omega) 2 _).up hup
   have hB5 : Below w.heap.size w W5:=bj ((HW2.out.setCell (p:=⟨w1.heap.size,1,none⟩) (by simp;omega) _).setCell (p:=⟨w1.heap.size,2,none⟩) (by simp;omega) _) hup
   have hO5 : AL W5 W3.heap.size (.slice (some ⟨w1.heap.size + 1,0,none⟩) 3 3) [0,0,0]:=by
    rw [← hW5]
    have:=KS ((w2.setCell ⟨w1.heap.size,1,none⟩ (.int .i64 0)).setCell ⟨w1.heap.size,2,none⟩ (.slice (some ⟨w1.heap.size + 1,0,none⟩) 3 3)) W3.heap.size 3 .i64 3 (by have:=HZ3.out;omega) (by decide)
    rw [hs] at this
    exact this
   rw [hW5]
   have q0:=hQ5.c0
   have q1:=hQ5.c1
   have q2:=hQ5.c2
   have y0:=hP5.c0
   have y1:=hP5.c1
   have y2:=hP5.c2
   have f0:=hP5.frz 0
   have f1:=hP5.frz 1
   have f2:=hP5.frz 2
   have HO5:=As hO5
   have HB5:=As hB5
   have HP5:=As hP5
   clear hO5 hB5 hP5 hQ5 hup hs hW5
   go_wp2
   have h1:=HO5.out.CK (g:=w.heap.size + 2) (by have:=HZ3.out;omega) ⟨p.lsn,0, [0,0,0]⟩ (.slice (some ⟨w1.heap.size + 1,0,none⟩) 3 3)
   have h2:=Cx (g:=w.heap.size + 2) HB5.out (by omega) ⟨p.lsn,0, [0,0,0]⟩ (.slice (some ⟨w1.heap.size + 1,0,none⟩) 3 3)
   have hy:=HP5.out.CK ⟨p.lsn,0, [0,0,0]⟩ (.slice (some ⟨w1.heap.size + 1,0,none⟩) 3 3)
   have z0:=hy.c0
   have z1:=hy.c1
   have z2:=hy.c2
   have hw : Bg p r = ⟨p.lsn,0, [0,0,0]⟩:=by rw [Bg,if_neg (by have:=e1.out;omega),if_pos e2.out]
   rw [hw]
   exact bodyPost_ret (v:=(⟨p.lsn,0, [0,0,0]⟩ : Page).own (.slice (some ⟨w1.heap.size + 1,0,none⟩) 3 3)) (by simp [results,Tryz.results126,go_sem,z0,z1,z2]) rfl ⟨_,rfl,h1.lower (by have:=HZ3.out;omega),h2⟩
  ·go_enter Tryz.func126,Tryz.ntmps126
   go_wp2_with (first | (go_at_call 65;rw [HW3.out];refine (F4 (w0:=w) HL.out HB3.out HR.out).mono ?_;rintro e w1 ⟨v,rfl,ho,hb1⟩;obtain ⟨A1,c1,rfl, -, -⟩:=ho.reads;have HO:=As ho;have HB1:=As hb1;clear ho hb1) | (with_reducible refine Gb p ?_;intro w2 hb2 hz2 hq2;have HB2:=As (bj HB1.out hb2);have HW2:=As (bj HB3.out HB2.out);have HR2:=As (HR3.out.up HB2.out);have HP2:=As (HP3.out.up HB2.out);have HO2:=As (HO.out.below hb2);have HQ2:=As hq2;have hlt : w.heap.size + 3 ≤ w1.heap.size:=(by have:=HB1.out.size;have:=HZ3.out;omega);have hn1 : w.heap.size + 1 ≠ w1.heap.size:=(by omega);have hn2 : w.heap.size + 2 ≠ w1.heap.size:=(by omega);obtain ⟨-, -, -,x3, -,x5, -, -⟩:=HR2.out;simp only [Nat.zero_add] at x3 x5;have y0:=HP2.out.c0;have y1:=HP2.out.c1;have y2:=HP2.out.c2;have f0:=HP2.out.frz 0;have f1:=HP2.out.frz 1;have f2:=HP2.out.frz 2;have q0:=hq2.c0;have q1:=hq2.c1;have q2:=hq2.c2;have g1:=hq2.frz 1;have g2:=hq2.frz 2;clear hb2 hq2))
   have h1:=(HO2.out.far (g:=w1.heap.size) (fun k hk => by have:=HO.out.lt hk;omega) (Value.int .i64 r.new) 1).CK (g:=w.heap.size + 2) (by have:=HZ3.out;omega) ⟨p.lsn,r.new,p.vals⟩ (.slice A1 p.vals.length c1)
   have h2:=Cx (g:=w.heap.size + 2) (HW2.out.setCell (p:=⟨w1.heap.size,1,none⟩) (by simp;omega) (Value.int .i64 r.new)) (by omega) ⟨p.lsn,r.new,p.vals⟩ (.slice A1 p.vals.length c1)
   have hy:=(HP2.out.far (h:=w1.heap.size) (by omega) 1 (Value.int .i64 r.new)).CK ⟨p.lsn,r.new,p.vals⟩ (.slice A1 p.vals.length c1)
   have z0:=hy.c0
   have z1:=hy.c1
   have z2:=hy.c2
   have hw : Bg p r = ⟨p.lsn,r.new,p.vals⟩:=by rw [Bg,if_neg (by have:=e1.out;omega),if_neg e2.out]
   rw [hw]
   exact bodyPost_ret (v:=(⟨p.lsn,r.new,p.vals⟩ : Page).own (.slice A1 p.vals.length c1)) (by simp [results,Tryz.results126,go_sem,z0,z1,z2]) rfl ⟨_,rfl,h1.lower (by have:=HZ3.out;omega),h2⟩
 ·have hs2:=HS.out
  have hs1:=e1.out
  go_enter Tryz.func126,Tryz.ntmps126
  go_wp2_with (first | (go_at_call 65;rw [HW3.out];refine (F4 (w0:=w) HL.out HB3.out HR.out).mono ?_;rintro e w1 ⟨v,rfl,ho,hb1⟩;obtain ⟨g,cap,rfl,hgb,hgl⟩:=ho.form (by have:=HS.out;have:=e1.out;omega);have HG:=As (And.intro hgb hgl);clear hgb hgl;have HO:=As ho;have HB1:=As hb1;clear ho hb1) | (with_reducible refine Gb p ?_;(intro w2 hb2 hz2 hq2;have HB2:=As (bj HB1.out hb2);have HW2:=As (bj HB3.out HB2.out);have HR2:=As (HR3.out.up HB2.out);have HP2:=As (HP3.out.up HB2.out);have HO2:=As (HO.out.below hb2);have HQ2:=As hq2;have hlt : w.heap.size + 3 ≤ w1.heap.size:=(by have:=HB1.out.size;have:=HZ3.out;omega);have hn1 : w.heap.size + 1 ≠ w1.heap.size:=(by omega);have hn2 : w.heap.size + 2 ≠ w1.heap.size:=(by omega);obtain ⟨-, -, -,x3, -,x5, -, -⟩:=HR2.out;simp only [Nat.zero_add] at x3 x5;have y0:=HP2.out.c0;have y1:=HP2.out.c1;have y2:=HP2.out.c2;have f0:=HP2.out.frz 0;have f1:=HP2.out.frz 1;have f2:=HP2.out.frz 2;have q0:=hq2.c0;have q1:=hq2.c1;have q2:=hq2.c2;have g1:=hq2.frz 1;have g2:=hq2.frz 2;have hgw : g < w1.heap.size:=HO.out.lt (k:=g) rfl;have hgb : w.heap.size + 3 ≤ g:=(by have:=HO.out.base (k:=g) rfl;have:=HZ3.out;omega);have hg1 : w1.heap.size ≠ g:=(by omega);have hg2 : w.heap.size + 1 ≠ g:=(by omega);have hg3 : w.heap.size + 2 ≠ g:=(by omega);obtain ⟨p1,p2⟩:=HO2.out.at r.slot e1.out (by have:=HS.out;omega);clear hb2 hq2)))
  have h1:=(HO2.out.put r.slot r.new).CK (g:=w.heap.size + 2) (by have:=HZ3.out;omega) p (.slice (some ⟨g,0,none⟩) p.vals.length cap)
  have h2:=Cx (g:=w.heap.size + 2) (HW2.out.setCell (p:=⟨g,r.slot.toNat,none⟩) (by simp;omega) (Value.int .i64 r.new)) (by omega) p (.slice (some ⟨g,0,none⟩) p.vals.length cap)
  have hy:=(HP2.out.far (h:=g) (by omega) r.slot.toNat (Value.int .i64 r.new)).CK p (.slice (some ⟨g,0,none⟩) p.vals.length cap)
  have z0:=hy.c0
  have z1:=hy.c1
  have z2:=hy.c2
  have hw : Bg p r = ⟨p.lsn,p.owner,p.vals.set r.slot.toNat r.new⟩:=by rw [Bg,if_pos e1.out]
  rw [hw]
  exact bodyPost_ret (v:=(⟨p.lsn,p.owner,p.vals.set r.slot.toNat r.new⟩ : Page).own (.slice (some ⟨g,0,none⟩) p.vals.length cap)) (by simp [results,Tryz.results126,go_sem,z0,z1,z2]) rfl ⟨_,rfl,h1.lower (by have:=HZ3.out;omega),h2⟩
def doR (p : Page) (r : Rec) (n : Int) : Page:=⟨n,(Bg p r).owner,(Bg p r).vals⟩
theorem VR {P : Program} {ops : Array Oper} {l : List Oper} {Q : Exit → Act → World → Prop} {a : Act} {W : World} (h : ∀ w1,Below W.heap.size W w1 → AL w1 W.heap.size (.slice (some ⟨W.heap.size,0,none⟩) 3 3) [0,0,0] → wpList P ops Q l a w1) : wpList P ops Q l a (W.alloc (.cells (madeCells #[.int .i64 0] 3) 3)):=
 h _ ((Below.refl _ _).alloc (Nat.le_refl _) _) (KS W W.heap.size 3 .i64 3 (Nat.le_refl _) (by decide))
set_option maxRecDepth 100000 in
set_option maxHeartbeats 4000000 in
theorem P9 {w0 w : World} {A : Option Addr} {c : Nat} {p : Page} (r : Rec) (n : Int) (hl : p.vals.length ≤ 17592186044416) (hs : r.slot < p.vals.length) (hb : Below w0.heap.size w0 w) (hr : Kd.C (Kd.int .i64) w0 A p.vals.length p.vals) : Calls Tryz.prog 143 #[p.val A c,r.val, .int .i64 n] w (PX w (doR p r n)):=by
 have HR:=As (BA hr hb)
 have HL:=As hl
 have HS:=As hs
 clear hr hb hl hs
 obtain ⟨W1,hW1⟩ : ∃ W1,w.alloc (p.box A c) = W1:=⟨_,rfl⟩
 obtain ⟨W2,hW2⟩ : ∃ W2,W1.alloc r.box = W2:=⟨_,rfl⟩
 obtain ⟨W3,hW3⟩ : ∃ W3,W2.alloc CO = W3:=⟨_,rfl⟩
 have Z1 : W1.heap.size = w.heap.size + 1:=by rw [← hW1,BJ]
 have Z2 : W2.heap.size = w.heap.size + 2:=by rw [← hW2,BJ,Z1]
 have Z3 : W3.heap.size = w.heap.size + 3:=by rw [← hW3,BJ,Z2]
 have hR3 : GA W3 ⟨w.heap.size + 1,0,none⟩ r:=by
  have:=GR W1 r
  rw [Z1,hW2] at this
  rw [← hW3]
  exact this.up (Ab (Below.refl _ _) _)
 have hP3 : AU W3 (w.heap.size + 2) zp (.slice none 0 0):=by
  have:=AU.mk1 W2 zp (.slice none 0 0)
  rw [Z2] at this
  rw [← hW3]
  exact this
 have hB3 : Below w.heap.size w W3:=by
  rw [← hW3, ← hW2, ← hW1]
  exact Ab (Ab (Ab (Below.refl _ _) _) _) _
 have HW3 : Aa (((w.alloc (p.box A c)).alloc r.box).alloc CO = W3):=⟨by rw [hW1,hW2,hW3]⟩
 have HR3:=As hR3
 have HP3:=As hP3
 have HB3:=As hB3
 have HZ3:=As Z3
 clear hW1 hW2 hW3 Z1 Z2 Z3 hR3 hP3 hB3
 rcases lts r.slot 0 with ⟨e1,b1,c1⟩ | ⟨e1,b1,c1⟩
 ·rcases BQ r.new 0 with ⟨e2,b2,c2⟩ | ⟨e2,b2,c2⟩
  ·have hmk:=Uw
   go_enter Tryz.func143,Tryz.ntmps143
   go_wp2_with (first | (go_at_call 69;rw [HW3.out];refine (EU (w0:=w) HL.out HB3.out HR.out).mono ?_;rintro e w1 ⟨v,rfl,ho,hb1⟩;obtain ⟨A1,c1,rfl, -, -⟩:=ho.reads;have HO:=As ho;have HB1:=As hb1;clear ho hb1) | (with_reducible refine Gb p ?_;intro w2 hb2 hz2 hq2;have HB2:=As (bj HB1.out hb2);have HW2:=As (bj HB3.out HB2.out);have HR2:=As (HR3.out.up HB2.out);have HP2:=As (HP3.out.up HB2.out);have HO2:=As (HO.out.below hb2);have HQ2:=As hq2;have hlt : w.heap.size + 3 ≤ w1.heap.size:=(by have:=HB1.out.size;have:=HZ3.out;omega);have hn1 : w.heap.size + 1 ≠ w1.heap.size:=(by omega);have hn2 : w.heap.size + 2 ≠ w1.heap.size:=(by omega);obtain ⟨-, -, -,x3, -,x5, -, -⟩:=HR2.out;simp only [Nat.zero_add] at x3 x5;have y0:=HP2.out.c0;have y1:=HP2.out.c1;have y2:=HP2.out.c2;have f0:=HP2.out.frz 0;have f1:=HP2.out.frz 1;have f2:=HP2.out.frz 2;have q0:=hq2.c0;have q1:=hq2.c1;have q2:=hq2.c2;have g0:=hq2.frz 0;have g1:=hq2.frz 1;have g2:=hq2.frz 2;clear hb2 hq2) | (with_reducible refine VR ?_;intro w4 hb4 ho4;have hQ4:=((HQ2.out.set0 n).set1 r.new).up hb4;have hP4:=((HP2.out.far (h:=w1.heap.size) (by omega) 0 (Value.int .i64 n)).far (h:=w1.heap.size) (by omega) 1 (Value.int .i64 r.new)).up hb4;have HB4:=As (bj ((HW2.out.setCell (p:=⟨w1.heap.size,0,none⟩) (by simp;omega) (Value.int .i64 n)).setCell (p:=⟨w1.heap.size,1,none⟩) (by simp;omega) (Value.int .i64 r.new)) hb4);simp only [World.size_setCell,hz2] at ho4;have HO4:=As ho4;have HQ4:=As hQ4;have HP4:=As hP4;have q0':=hQ4.c0;have q1':=hQ4.c1;have q2':=hQ4.c2;have g2':=hQ4.frz 2;have y0':=hP4.c0;have y1':=hP4.c1;have y2':=hP4.c2;have f0':=hP4.frz 0;have f1':=hP4.frz 1;have f2':=hP4.frz 2;clear hb4 ho4 hQ4 hP4))
   have h1:=(HO4.out.set (g:=w1.heap.size) (by omega) (.slice (some ⟨w1.heap.size + 1,0,none⟩) 3 3) 2).CK (g:=w.heap.size + 2) (by omega) ⟨n,r.new, []⟩ (.slice (some ⟨w1.heap.size + 1,0,none⟩) 3 3)
   have h2:=Cx (g:=w.heap.size + 2) (HB4.out.setCell (p:=⟨w1.heap.size,2,none⟩) (by simp;omega) (.slice (some ⟨w1.heap.size + 1,0,none⟩) 3 3)) (by omega) ⟨n,r.new, []⟩ (.slice (some ⟨w1.heap.size + 1,0,none⟩) 3 3)
   have hy:=(HP4.out.far (h:=w1.heap.size) (by omega) 2 (.slice (some ⟨w1.heap.size + 1,0,none⟩) 3 3)).CK ⟨n,r.new, []⟩ (.slice (some ⟨w1.heap.size + 1,0,none⟩) 3 3)
   have z0:=hy.c0
   have z1:=hy.c1
   have z2:=hy.c2
   have hw : doR p r n = ⟨n,r.new, [0,0,0]⟩:=by rw [doR,Bg,if_neg (by have:=e1.out;omega),if_pos e2.out,e2.out]
   rw [hw]
   exact bodyPost_ret (v:=(⟨n,r.new, [0,0,0]⟩ : Page).own (.slice (some ⟨w1.heap.size + 1,0,none⟩) 3 3)) (by simp [results,Tryz.results143,go_sem,z0,z1,z2]) rfl ⟨_,rfl,h1.lower (by omega),h2⟩
  ·go_enter Tryz.func143,Tryz.ntmps143
   go_wp2_with (first | (go_at_call 69;rw [HW3.out];refine (EU (w0:=w) HL.out HB3.out HR.out).mono ?_;rintro e w1 ⟨v,rfl,ho,hb1⟩;obtain ⟨A1,c1,rfl, -, -⟩:=ho.reads;have HO:=As ho;have HB1:=As hb1;clear ho hb1) | (with_reducible refine Gb p ?_;intro w2 hb2 hz2 hq2;have HB2:=As (bj HB1.out hb2);have HW2:=As (bj HB3.out HB2.out);have HR2:=As (HR3.out.up HB2.out);have HP2:=As (HP3.out.up HB2.out);have HO2:=As (HO.out.below hb2);have HQ2:=As hq2;have hlt : w.heap.size + 3 ≤ w1.heap.size:=(by have:=HB1.out.size;have:=HZ3.out;omega);have hn1 : w.heap.size + 1 ≠ w1.heap.size:=(by omega);have hn2 : w.heap.size + 2 ≠ w1.heap.size:=(by omega);obtain ⟨-, -, -,x3, -,x5, -, -⟩:=HR2.out;simp only [Nat.zero_add] at x3 x5;have y0:=HP2.out.c0;have y1:=HP2.out.c1;have y2:=HP2.out.c2;have f0:=HP2.out.frz 0;have f1:=HP2.out.frz 1;have f2:=HP2.out.frz 2;have q0:=hq2.c0;have q1:=hq2.c1;have q2:=hq2.c2;have g0:=hq2.frz 0;have g1:=hq2.frz 1;have g2:=hq2.frz 2;clear hb2 hq2))
   have h1:=((HO2.out.far (g:=w1.heap.size) (fun k hk => by have:=HO.out.lt hk;omega) (Value.int .i64 n) 0).far (g:=w1.heap.size) (fun k hk => by have:=HO.out.lt hk;omega) (Value.int .i64 r.new) 1).CK (g:=w.heap.size + 2) (by have:=HZ3.out;omega) ⟨n,r.new,p.vals⟩ (.slice A1 p.vals.length c1)
   have h2:=Cx (g:=w.heap.size + 2) ((HW2.out.setCell (p:=⟨w1.heap.size,0,none⟩) (by simp;omega) (Value.int .i64 n)).setCell (p:=⟨w1.heap.size,1,none⟩) (by simp;omega) (Value.int .i64 r.new)) (by omega) ⟨n,r.new,p.vals⟩ (.slice A1 p.vals.length c1)
   have hy:=((HP2.out.far (h:=w1.heap.size) (by omega) 0 (Value.int .i64 n)).far (h:=w1.heap.size) (by omega) 1 (Value.int .i64 r.new)).CK ⟨n,r.new,p.vals⟩ (.slice A1 p.vals.length c1)
   have z0:=hy.c0
   have z1:=hy.c1
   have z2:=hy.c2
   have hw : doR p r n = ⟨n,r.new,p.vals⟩:=by rw [doR,Bg,if_neg (by have:=e1.out;omega),if_neg e2.out]
   rw [hw]
   exact bodyPost_ret (v:=(⟨n,r.new,p.vals⟩ : Page).own (.slice A1 p.vals.length c1)) (by simp [results,Tryz.results143,go_sem,z0,z1,z2]) rfl ⟨_,rfl,h1.lower (by have:=HZ3.out;omega),h2⟩
 ·have hs2:=HS.out
  have hs1:=e1.out
  go_enter Tryz.func143,Tryz.ntmps143
  go_wp2_with (first | (go_at_call 69;rw [HW3.out];refine (EU (w0:=w) HL.out HB3.out HR.out).mono ?_;rintro e w1 ⟨v,rfl,ho,hb1⟩;obtain ⟨g,cap,rfl,hgb,hgl⟩:=ho.form (by have:=HS.out;have:=e1.out;omega);have HG:=As (And.intro hgb hgl);clear hgb hgl;have HO:=As ho;have HB1:=As hb1;clear ho hb1) | (with_reducible refine Gb p ?_;(intro w2 hb2 hz2 hq2;have HB2:=As (bj HB1.out hb2);have HW2:=As (bj HB3.out HB2.out);have HR2:=As (HR3.out.up HB2.out);have HP2:=As (HP3.out.up HB2.out);have HO2:=As (HO.out.below hb2);have HQ2:=As hq2;have hlt : w.heap.size + 3 ≤ w1.heap.size:=(by have:=HB1.out.size;have:=HZ3.out;omega);have hn1 : w.heap.size + 1 ≠ w1.heap.size:=(by omega);have hn2 : w.heap.size + 2 ≠ w1.heap.size:=(by omega);obtain ⟨-, -, -,x3, -,x5, -, -⟩:=HR2.out;simp only [Nat.zero_add] at x3 x5;have y0:=HP2.out.c0;have y1:=HP2.out.c1;have y2:=HP2.out.c2;have f0:=HP2.out.frz 0;have f1:=HP2.out.frz 1;have f2:=HP2.out.frz 2;have q0:=hq2.c0;have q1:=hq2.c1;have q2:=hq2.c2;have g0:=hq2.frz 0;have g1:=hq2.frz 1;have g2:=hq2.frz 2;have hgw : g < w1.heap.size:=HO.out.lt (k:=g) rfl;have hgb : w.heap.size + 3 ≤ g:=(by have:=HO.out.base (k:=g) rfl;have:=HZ3.out;omega);have hg1 : w1.heap.size ≠ g:=(by omega);have hg2 : w.heap.size + 1 ≠ g:=(by omega);have hg3 : w.heap.size + 2 ≠ g:=(by omega);obtain ⟨p1,p2⟩:=HO2.out.at r.slot e1.out (by have:=HS.out;omega);clear hb2 hq2)))
  have h1:=((HO2.out.far (g:=w1.heap.size) (fun k hk => by have:=HO.out.lt hk;omega) (Value.int .i64 n) 0).put r.slot r.new).CK (g:=w.heap.size + 2) (by have:=HZ3.out;omega) ⟨n,p.owner, []⟩ (.slice (some ⟨g,0,none⟩) p.vals.length cap)
  have h2:=Cx (g:=w.heap.size + 2) ((HW2.out.setCell (p:=⟨w1.heap.size,0,none⟩) (by simp;omega) (Value.int .i64 n)).setCell (p:=⟨g,r.slot.toNat,none⟩) (by simp;omega) (Value.int .i64 r.new)) (by omega) ⟨n,p.owner, []⟩ (.slice (some ⟨g,0,none⟩) p.vals.length cap)
  have hy:=((HP2.out.far (h:=w1.heap.size) (by omega) 0 (Value.int .i64 n)).far (h:=g) (by omega) r.slot.toNat (Value.int .i64 r.new)).CK ⟨n,p.owner, []⟩ (.slice (some ⟨g,0,none⟩) p.vals.length cap)
  have z0:=hy.c0
  have z1:=hy.c1
  have z2:=hy.c2
  have hw : doR p r n = ⟨n,p.owner,p.vals.set r.slot.toNat r.new⟩:=by rw [doR,Bg,if_pos e1.out]
  rw [hw]
  exact bodyPost_ret (v:=(⟨n,p.owner,p.vals.set r.slot.toNat r.new⟩ : Page).own (.slice (some ⟨g,0,none⟩) p.vals.length cap)) (by simp [results,Tryz.results143,go_sem,z0,z1,z2]) rfl ⟨_,rfl,h1.lower (by have:=HZ3.out;omega),h2⟩
def WY (b : Bool) (w : World) (e : Ending) (w' : World) : Prop := ∃ i : Int,e = .returned (.int .i64 i) ∧ decide (0 ≤ i) = b ∧ Below w.heap.size w w'
theorem Vv {w0 w : World} {A : Option Addr} {c : Nat} {p : Page} {b : Bool} (hv : Bt p = b) (hb : Below w0.heap.size w0 w) (hr : Kd.C (Kd.int .i64) w0 A p.vals.length p.vals) : Calls Tryz.prog 122 #[p.val A c] w fun e w' => e = .returned (.bool (!b)) ∧ Below w.heap.size w w':=by
 have HR:=As (BA hr hb)
 have HV:=As hv
 have HB:=As (Om w p A c)
 clear hr hb hv
 go_enter Tryz.func122,Tryz.ntmps122
 go_wp2_with (go_at_call 101;refine (DZ HV.out HB.out HR.out).mono ?_;rintro e w1 ⟨rfl,hb1⟩;have HX:=As (bj HB.out hb1);clear hb1)
 go_ret
 exact ⟨rfl,HX.out⟩
set_option maxHeartbeats 4000000 in
theorem Sv {w0 w : World} {A : Option Addr} {c : Nat} {l : List Page} (hb : Below w0.heap.size w0 w) (hr : Kd.C Dw w0 A l.length l) : Calls Tryz.prog 147 #[.slice A l.length c, .func (.func 122) #[] #[]] w (WY (l.any fun x => !Bt x) w):=by
 have HR:=As (BA hr hb)
 have hm:=(Cg hr).2
 clear hr hb
 go_enter Tryz.func147,Tryz.ntmps147
 go_wp2
 go_loopw [8] (fun i wr => ∃ k : Nat,k ≤ l.length ∧ i = .int .i64 (k : Int) ∧ Aa ((l.any fun x => !Bt x) = (l.drop k).any fun x => !Bt x) ∧ Aa (Below w.heap.size w wr)) (fun i _ => (l.length - intOf i).toNat)
 case atStart => exact ⟨0,Nat.zero_le _,rfl,⟨rfl⟩,⟨Below.refl _ _⟩⟩
 case round =>
  obtain ⟨k,hk,rfl,HK,HW⟩:=hrel
  by_cases hlt : k < l.length
  ·obtain ⟨ad,A2,c2,rfl,QP, -,g2⟩:=Di (BA HR.out HW.out) k hlt
   obtain ⟨x0,x1,x2⟩:=QP
   have HG:=As g2
   have HD:=As (Xj hlt)
   clear g2
   cases hp : Bt (pg l k)
   all_goals
    have HP:=As hp
    clear hp
    go_wp2_with (go_at_call 122;refine (Vv HP.out (Below.refl _ _) HG.out).mono ?_;rintro e w1 ⟨rfl,hb1⟩;have HX:=As (bj HW.out hb1);clear hb1)
   ·go_ret
    exact ⟨k,rfl,by rw [HK.out,HD.out,List.any_cons,HP.out];simp,HX.out⟩
   ·go_roundw
    case rel => exact ⟨k + 1,by omega,by go_num,⟨by rw [HK.out,HD.out,List.any_cons,HP.out];rfl⟩,HX⟩
    case measure => simp [intOf];omega
  ·have hke : k = l.length:=by omega
   go_wp2
   go_ret
   exact ⟨-1,rfl,by rw [HK.out,hke,List.drop_length];rfl,HW.out⟩
theorem Pk {w0 w : World} {A : Option Addr} {c : Nat} {l : List Page} (hb : Below w0.heap.size w0 w) (hr : Kd.C Dw w0 A l.length l) : Calls Tryz.prog 121 #[.slice A l.length c, .func (.func 122) #[] #[]] w fun e w' => e = .returned (.bool (l.any fun x => !Bt x)) ∧ Below w.heap.size w w':=by
 have HR:=As (BA hr hb)
 clear hr hb
 go_enter Tryz.func121,Tryz.ntmps121
 go_wp2_with (go_at_call 147;refine (Sv (Below.refl _ _) HR.out).mono ?_;rintro e w' ⟨i,rfl,hi,hb⟩)
 go_ret
 exact ⟨by first | exact Au hi | rfl,hb⟩
def Iw (l : List Page) : Bool:=l.length == 5 && !(l.any fun x => !Bt x)
set_option maxHeartbeats 2000000 in
theorem BV {w0 w : World} {A : Option Addr} {c : Nat} {l : List Page} {b : Bool} (hv : Iw l = b) (hb : Below w0.heap.size w0 w) (hr : Kd.C Dw w0 A l.length l) : Calls Tryz.prog 83 #[.slice A l.length c] w fun e w' => e = .returned (.bool b) ∧ Below w.heap.size w w':=by
 have HR:=As (BA hr hb)
 have HV:=As hv
 clear hr hb hv
 rcases BQ (l.length : Int) 5 with ⟨e1,b1,c1⟩ | ⟨e1,b1,c1⟩
 ·go_enter Tryz.func83,Tryz.ntmps83
  go_wp2_with (go_at_call 121;refine (Pk (Below.refl _ _) HR.out).mono ?_;rintro e w1 ⟨rfl,hb1⟩;have HX:=As hb1;clear hb1)
  go_ret
  exact ⟨Au (by rw [← HV.out,Iw,show (l.length == 5) = true by have:=e1.out;simp;omega];rfl),HX.out⟩
 ·go_enter Tryz.func83,Tryz.ntmps83
  go_wp2
  go_ret
  exact ⟨Au (by rw [← HV.out,Iw,show (l.length == 5) = false by have:=e1.out;simp;omega];rfl),Below.refl _ _⟩
theorem Vk {w0 w : World} {A : Option Addr} {n c : Nat} {l : List Page} {b : Bool} (hn : l.length = n) (hv : Iw l = b) (hb : Below w0.heap.size w0 w) (hr : Kd.C Dw w0 A l.length l) : Calls Tryz.prog 83 #[.slice A n c] w fun e w' => e = .returned (.bool b) ∧ Below w.heap.size w w':=hn ▸ BV hv hb hr
def Et (ps : List Page) (r : Rec) (n : Nat) : List Page:=if Cw r.kind = true ∧ (pg ps r.page.toNat).lsn < n then ps.set r.page.toNat (doR (pg ps r.page.toNat) r n) else ps
def Cr (ps : List Page) (l : List Rec) : Nat → List Page
 | 0 => ps
 | n + 1 => Et (Cr ps l n) (rc l n) (n + 1)
def geo (ps : List Page) : Prop:=ps.length = 5 ∧ ∀ p ∈ ps,p.vals.length = 3
theorem Ak {ps : List Page} (h : Iw ps = true) : geo ps:=by
 simp only [Iw,Bool.and_eq_true,beq_iff_eq,Bool.not_eq_true',List.any_eq_false] at h
 exact ⟨h.1,fun p hp => (Cj.1 (by simpa using h.2 p hp)).2.2.2.2.1⟩
theorem FZ {ps : List Page} (h : geo ps) {k : Nat} (hk : k < 5) : (pg ps k).vals.length = 3:=h.2 _ (by simp [pg,List.getD_eq_getElem?_getD,h.1,hk])
theorem G5 {ps : List Page} (h : geo ps) : Ol ps:=fun p hp => by rw [h.2 p hp];decide
theorem KQ {p : Page} {r : Rec} (h : p.vals.length = 3) : (Bg p r).vals.length = 3:=by
 unfold Bg
 split
 ·simpa using h
 ·split
  ·rfl
  ·exact h
theorem MK {ps : List Page} {k : Nat} {q : Page} (h : geo ps) (hq : q.vals.length = 3) : geo (ps.set k q):=by
 refine ⟨by simpa using h.1,fun p hp => ?_⟩
 rcases List.mem_or_eq_of_mem_set hp with hp | rfl
 ·exact h.2 p hp
 ·exact hq
theorem WK {ps : List Page} {r : Rec} {n : Nat} (h : geo ps) (hr : Cw r.kind = true → 0 ≤ r.page ∧ r.page ≤ 4) : geo (Et ps r n):=by
 unfold Et
 split
 ·rename_i hc
  have:=hr hc.1
  exact MK h (KQ (FZ h (by omega)))
 ·exact h
theorem Im {r : Rec} (h : CZ r = true) (hc : Cw r.kind = true) : 0 ≤ r.page ∧ r.page ≤ 4 ∧ -1 ≤ r.slot ∧ r.slot ≤ 2 ∧ 0 ≤ r.new ∧ r.new ≤ 9 ∧ (r.slot = -1 → r.new ≤ 3):=by
 rw [Dc] at h
 simp only [Cw,Bool.or_eq_true,beq_iff_eq] at hc
 omega
theorem KI {ps : List Page} {l : List Rec} (h : geo ps) (hl : ∀ k,k < l.length → CZ (rc l k) = true) : ∀ n,n ≤ l.length → geo (Cr ps l n)
 | 0,_ => h
 | n + 1,hn => WK (KI h hl n (by omega)) (fun hc => by have:=Im (hl n hn) hc;omega)
theorem EM {w : World} {b B : Nat} {v u : Value} {xs : List Int} {p : Page} (h : AL w b v xs) (hp : AU w B p u) : ∀ k,v.ownBlock = some k → k ≠ B:=by
 rintro k hk rfl
 obtain ⟨cells,hc⟩:=Dy h k hk
 have h1 : w.heap[k]? = _:=hp
 rw [hc] at h1
 injection h1 with h1
 injection h1 with _ h2
 exact absurd h2 (by decide)
theorem Xi {w : World} {b : Nat} {v : Value} {ps : List Page} (h : LD w b v ps) (hn : 0 < ps.length) : ∃ g cap,v = .slice (some ⟨g,0,none⟩) ps.length cap ∧ b ≤ g ∧ g < w.heap.size:=by
 obtain ⟨inner,ho⟩:=Kd.LC h
 rcases ho.2 with ⟨_,h2⟩ | ⟨g,cap,cur,h1,h2,_⟩
 ·omega
 ·exact ⟨g,cap,h1,Ck ho g (by rw [h1];rfl),OX ho g (by rw [h1];rfl)⟩
theorem XF {w : World} {b g n cap : Nat} {ps : List Page} (h : LD w b (.slice (some ⟨g,0,none⟩) n cap) ps) (i : Nat) (hi : i < n) : ∃ A c,w.cell? ⟨g,i * 3,none⟩ = some (.int .i64 (pg ps i).lsn) ∧ w.cell? ⟨g,i * 3 + 1,none⟩ = some (.int .i64 (pg ps i).owner) ∧ w.cell? ⟨g,i * 3 + 2,none⟩ = some (.slice A (pg ps i).vals.length c) ∧ Kd.C (Kd.int .i64) w A (pg ps i).vals.length (pg ps i).vals ∧ ∀ j,w.frozen? ⟨g,i * 3 + j,none⟩ = false:=by
 obtain ⟨c,hl,hM,hc,hf⟩:=Kd.Pt h z0 (i : Int) (by omega) (by omega)
 obtain ⟨v,rfl,hv⟩:=O4 hM
 obtain ⟨A,c2,rfl,_,hC⟩:=Kd.Ea hv
 exact ⟨A,c2,hc 0 _ rfl,hc 1 _ rfl,hc 2 _ rfl,hC,hf⟩
theorem Ci {w : World} {b : Nat} {ok : Nat → Prop} {v : Value} {ps : List Page} (h : CB w b ok v ps) (hn : 0 < ps.length) : ∃ g cap,v = .slice (some ⟨g,0,none⟩) ps.length cap ∧ b ≤ g ∧ g < w.heap.size:=Xi (Kd.ED (Kd.S_R h) (fun _ _ => trivial)) hn
theorem E5 {w : World} {b g n cap : Nat} {ok : Nat → Prop} {ps : List Page} (h : CB w b ok (.slice (some ⟨g,0,none⟩) n cap) ps) (i : Nat) (hi : i < n) : ∃ A c,w.cell? ⟨g,i * 3,none⟩ = some (.int .i64 (pg ps i).lsn) ∧ w.cell? ⟨g,i * 3 + 1,none⟩ = some (.int .i64 (pg ps i).owner) ∧ w.cell? ⟨g,i * 3 + 2,none⟩ = some (.slice A (pg ps i).vals.length c) ∧ Kd.C (Kd.int .i64) w A (pg ps i).vals.length (pg ps i).vals ∧ ∀ j,w.frozen? ⟨g,i * 3 + j,none⟩ = false:=XF (Kd.ED (Kd.S_R h) (fun _ _ => trivial)) i hi
theorem Ub {α : Type} (xs : List α) (i : Nat) (x : α) : (xs.set i x).zipIdx = xs.zipIdx.set i (x,i):=by
 apply List.ext_getElem?
 intro j
 rw [List.getElem?_zipIdx,List.getElem?_set,List.getElem?_set,List.getElem?_zipIdx,List.length_zipIdx]
 split
 ·rename_i e
  subst e
  split <;> simp
 ·rfl
section
variable {ops : Array Oper} {rest : List Oper} {o : Oper} {a : Act} {Q : Exit → Act → World → Prop}
theorem NV {w0 W : World} {g n cap N : Nat} {ps : List Page} {q : Page} {v : Value} (i : Nat) (hn : ps.length = n) (hN : o.dst = none) (hgd : o.guard = none) (s x : Operand) (ho : o.op = .store 41 s x)
  (haddr : a.eval s = .pointer (some ⟨g,i * 3,none⟩)) (hx : a.eval x = q.own v) (hp : AL W N v q.vals) (hN0 : w0.heap.size ≤ N) (HO : LD W w0.heap.size (.slice (some ⟨g,0,none⟩) n cap) ps) (hi : i < n) (HB : Below w0.heap.size w0 W)
  (h : ∀ w1,LD w1 w0.heap.size (.slice (some ⟨g,0,none⟩) n cap) (ps.set i q) → Below w0.heap.size w0 w1 → W.grownBy w1 (some g) → wpList Tryz.prog ops Q rest a w1) : wpList Tryz.prog ops Q (o :: rest) a W:=by
 subst hn
 obtain ⟨c,hl,hM,hc,hf⟩:=Kd.Pt HO z0 (i : Int) (by omega) (by omega)
 have hne : ∀ k,v.ownBlock = some k → True ∧ k ≠ g:=by
  rintro k hk
  refine ⟨trivial,?_⟩
  rintro rfl
  obtain ⟨cells,hc1⟩:=Dy hp k hk
  obtain ⟨inner,ho2⟩:=Kd.LC HO
  obtain ⟨cells2,hc2⟩:=Dy ho2 k rfl
  rw [hc1] at hc2
  injection hc2 with h1
  injection h1 with _ h2
  exact absurd h2 (by decide)
 obtain ⟨A1,c1,rfl,_,_⟩:=AL.reads hp
 refine Kd.UZ Dw w0.heap.size hN hgd 41 s x ho _ (i : Int) 0 ps q _ [.int .i64 q.lsn, .int .i64 q.owner, .slice A1 q.vals.length c1] c (fun _ => True) (fun k => True ∧ k ≠ g) haddr (by rw [Nat.add_zero];rfl) hx rfl (by kernel_rfl) (by simp [Value.oneCell']) HO (by omega) (by omega) hl hc (Nat.le_refl 3) ?_ (fun k hk => hk) HB (fun w1 h1 h2 h3 => h w1 h1 h2 h3)
 have hl3 : c.length = 3:=hl
 rw [List.take_zero,List.nil_append,List.drop_of_length_le (by simp [hl3]),List.append_nil]
 exact Ji W _ _ q (Kd.EQ (En hp hN0) hne)
theorem GU {w0 W : World} {g n cap N : Nat} {ps : List Page} {q : Page} {v : Value} {ok : Nat → Prop} (i : Nat) (hn : ps.length = n) (hN : o.dst = none) (hgd : o.guard = none) (s x : Operand) (ho : o.op = .store 41 s x)
  (haddr : a.eval s = .pointer (some ⟨g,i * 3,none⟩)) (hx : a.eval x = q.own v) (hp : AL W N v q.vals) (hN0 : w0.heap.size ≤ N) (HO : CB W w0.heap.size (fun k => ok k ∧ k < N) (.slice (some ⟨g,0,none⟩) n cap) ps) (hi : i < n) (HB : Below w0.heap.size w0 W)
  (h : ∀ w1,CB w1 w0.heap.size (fun k => ok k ∨ some k = v.ownBlock) (.slice (some ⟨g,0,none⟩) n cap) (ps.set i q) → Below w0.heap.size w0 w1 → W.grownBy w1 (some g) → wpList Tryz.prog ops Q rest a w1) : wpList Tryz.prog ops Q (o :: rest) a W:=by
 subst hn
 have hgN:=Mr HO g rfl
 obtain ⟨f,hf,hR⟩:=Kd.WX HO i (fun k => some k = v.ownBlock) (fun k hk h2 => by have:=Ck hp k hk.symm;omega)
 have hR2:=Kd.ED (ok':=fun k => ok k ∨ some k = v.ownBlock) hR (fun k hk => .inl hk.1)
 obtain ⟨c,hl,hM,hc,hfz⟩:=Kd.Pt hR2 (z0,0) (i : Int) (by omega) (by omega)
 obtain ⟨A1,c1,rfl,_,_⟩:=AL.reads hp
 refine Kd.UZ (Kd.tag f Dw) w0.heap.size hN hgd 41 s x ho _ (i : Int) 0 ps.zipIdx (q,i) _ [.int .i64 q.lsn, .int .i64 q.owner, .slice A1 q.vals.length c1] c (fun k => ok k ∨ some k = (Value.slice A1 q.vals.length c1).ownBlock) (fun k => some k = (Value.slice A1 q.vals.length c1).ownBlock) haddr (by rw [Nat.add_zero];rfl) hx rfl (by kernel_rfl) (by simp [Value.oneCell']) hR2 (by omega) (by omega) hl hc (Nat.le_refl 3) ?_ (fun k hk => ⟨.inr hk,fun e => ?_⟩) HB (fun w1 h1 h2 h3 => ?_)
 ·have hl3 : c.length = 3:=hl
  rw [List.take_zero,List.nil_append,List.drop_of_length_le (by simp [hl3]),List.append_nil]
  exact Ji W _ _ q (Kd.EQ (En hp hN0) (fun k hk => ⟨hk.symm,hf k hk.symm⟩))
 ·have h1:=Ck hp k hk.symm
  omega
 ·refine h w1 ⟨f,?_⟩ h2 h3
  rw [Ub]
  exact h1
end
end Go.Proofs.YtofgeajaajfiaaaGreat
namespace Go.Proofs.YtofgeajaajfiaaaGreat
open Go.RowKit Go.Proofs.YtofgeajaajfiaaaGreatW.PrintWords Go.Proofs.YtofgeajaajfiaaaGreatW.PrintLast Go.Proofs.YtofgeajaajfiaaaGreatW.PrintMore
theorem CJ {P : Program} {ops : Array Oper} {l : List Oper} {Q : Exit → Act → World → Prop} {a : Act} {w : World} (r : Rec) (h : ∀ w1,Below w.heap.size w w1 → w1.heap.size = w.heap.size + 1 → GA w1 ⟨w.heap.size,0,none⟩ r → wpList P ops Q l a w1) : wpList P ops Q l a (w.alloc (.cells #[.int .i64 r.kind, .int .i64 r.tx, .int .i64 r.page, .int .i64 r.slot, .int .i64 r.old, .int .i64 r.new, .int .i64 r.prev, .int .i64 r.next] 73)):=
 h _ ((Below.refl _ _).alloc (Nat.le_refl _) _) (BJ _ _) (GR w r)
theorem ML {ps : List Page} (h : geo ps) : ps.length = 5:=h.1
theorem Ap {b : Bool} (h : b = true) (k : b = false) : False:=by rw [h] at k;cases k
theorem IC {w : World} {b B : Nat} {v : Value} {xs : List Int} (h : AL w b v xs) (hg : ∀ k,v.ownBlock = some k → k ≠ B) (p : Page) (u : Value) : AL (CK w B p u) b v xs:=((h.far hg _ _).far hg _ _).far hg _ _
def XM (w : World) (ps : List Page) (b : Bool) (e : Ending) (w' : World) : Prop := ∃ v,e = .returned (.tuple #[v, .bool b]) ∧ EH w' w.heap.size v ps ∧ Below w.heap.size w w'
set_option maxRecDepth 100000 in
set_option maxHeartbeats 4000000 in
theorem LU {w0 w : World} {A B : Option Addr} {c d : Nat} {ps : List Page} {l : List Rec} (hg : geo ps) (hok : ∀ k,k < l.length → CZ (rc l k) = true) (hl : l.length ≤ 150) (hb : Below w0.heap.size w0 w) (hr : Kd.C Dw w0 A ps.length ps) (hr2 : Kd.C Ca w0 B l.length l) : Calls Tryz.prog 86 #[.slice A ps.length c, .slice B l.length d] w (XM w (Cr ps l l.length) (Iw (Cr ps l l.length))):=by
 have HR:=As (BA hr hb)
 have HR2:=As (BA hr2 hb)
 have HG:=As hg
 have HK:=As hok
 clear hr hr2 hb hok hg
 go_enter Tryz.func86,Tryz.ntmps86
 go_wp2_with (go_at_call 95;refine (EZ (G5 HG.out) (by have:=HG.out.1;omega) (Below.refl _ _) HR.out).mono ?_;rintro e w1 ⟨v,rfl,hO,hb1⟩;obtain ⟨g,cap,rfl,hgb,hgl⟩:=Ci hO (by have:=HG.out.1;omega);have HO:=As hO;have HB:=As hb1;have HGB:=As (And.intro hgb hgl);clear hO hb1 hgb hgl)
 have h5:=HG.out.1
 rw [h5] at HO ⊢
 clear h5
 go_loopw [14] (fun i wr => ∃ k : Nat,k ≤ l.length ∧ i = .int .i64 (k : Int) ∧ Aa (EH wr w.heap.size (.slice (some ⟨g,0,none⟩) 5 cap) (Cr ps l k)) ∧ Aa (Below w.heap.size w wr)) (fun i _ => (l.length - intOf i).toNat)
 case atStart => exact ⟨0,Nat.zero_le _,rfl,HO,HB⟩
 case round =>
  obtain ⟨k,hk,rfl,HO,HW⟩:=hrel
  have HGk:=As (KI HG.out HK.out k hk)
  by_cases hlt : k < l.length
  ·obtain ⟨ad,rfl,QR⟩:=CS (BA HR2.out HW.out) k hlt
   obtain ⟨z0,z1,z2,z3,z4,z5,z6,z7⟩:=QR
   cases hc : Cw (rc l k).kind
   ·have HC:=As hc
    clear hc
    go_wp2_with (first | (with_reducible refine CJ (rc l k) ?_;intro w2 hb2 hz2 hq2;have HW2:=As (bj HW.out hb2);have HO2:=As (Kd.BG HO.out hb2);obtain ⟨x0,x1,x2,x3,x4,x5,x6,x7⟩:=hq2;simp only [Nat.zero_add] at x1 x2 x3 x4 x5 x6 x7;clear hb2) | (go_at_call 125;refine (FE HC.out _).mono ?_;rintro e w3 ⟨rfl,hb3⟩;have hs3:=hb3.size;have HW3:=As (bj HW2.out hb3);have HO3:=As (Kd.BG HO2.out hb3);clear hb3))
    go_roundw
    case rel => exact ⟨k + 1,by omega,by go_num,⟨by rw [Cr,Et,if_neg (by rw [HC.out];simp)];exact HO3.out⟩,HW3⟩
    case measure => simp [intOf];omega
   ·have HC:=As hc
    have hP:=Im (HK.out k hlt) hc
    have hp0 : 0 ≤ (rc l k).page:=hP.1
    have hp5 : (rc l k).page < 5:=by omega
    have hpn : (rc l k).page.toNat < 5:=by omega
    have HP:=As hP
    clear hc hP
    rcases lts (pg (Cr ps l k) (rc l k).page.toNat).lsn (k + 1 : Int) with ⟨e1,b1,c1⟩ | ⟨e1,b1,c1⟩
    ·go_wp2_with (first | (with_reducible refine CJ (rc l k) ?_;intro w2 hb2 hz2 hq2;have HW2:=As (bj HW.out hb2);have HO2:=As (Kd.BG HO.out hb2);have HQ2:=As hq2;obtain ⟨x0,x1,x2,x3,x4,x5,x6,x7⟩:=hq2;simp only [Nat.zero_add] at x1 x2 x3 x4 x5 x6 x7;clear hb2) | (go_at_call 125;refine (FE HC.out _).mono ?_;rintro e w3 ⟨rfl,hb3⟩;have hs3:=hb3.size;have HW3:=As (bj HW2.out hb3);have HO3:=As (Kd.BG HO2.out hb3);have HQ3:=As (HQ2.out.up hb3);obtain ⟨-, -,y2, -, -, -, -, -⟩:=HQ2.out.up hb3;simp only [Nat.zero_add] at y2;obtain ⟨A3,c3,p0,p1,p2,pC, -⟩:=E5 HO3.out (rc l k).page.toNat hpn;have HPC:=As pC;clear hb3 pC))
     obtain ⟨q,hq⟩ : ∃ q,Bg (pg (Cr ps l k) (rc l k).page.toNat) (rc l k) = q:=⟨_,rfl⟩
     have HQ:=As hq
     have hg3:=FZ HGk.out hpn
     have HG3:=As hg3
     have hgw : g < w3.heap.size:=by have:=HGB.out.2;have:=HW3.out.size;have:=XZ HO3.out g rfl;omega
     have hcall : ∀ wx,Below w3.heap.size w3 wx → Calls Tryz.prog 126 #[(pg (Cr ps l k) (rc l k).page.toNat).val A3 c3,(rc l k).val] wx (PX wx q):=fun wx hb => HQ.out ▸ LH (rc l k) (by rw [HG3.out];decide) (by rw [HG3.out];have:=HP.out;omega) hb HPC.out
     clear hq hg3
     refine AQ (fun lx a wx => (Below w.heap.size w wx ∧ Below w3.heap.size w3 wx) ∧ (Sl 6 39 (fun v wx => ∃ u,v = q.own u ∧ AL wx w3.heap.size u q.vals) lx a wx ∧ Sl 7 9 (fun v wx => ∃ B,v = .pointer (some ⟨B,0,none⟩) ∧ w3.heap.size ≤ B ∧ AU wx B zp (.slice none 0 0)) lx a wx)) 8 rfl (by kernel_rfl) (⟨⟨Af HW3.out,Af (Below.refl _ _)⟩,Bb,Bb⟩) (fun HT => ?_)
     refine AX [0,1,2,3,4,5] ?_
     iterate 6 (refine AR (v:=?_) HT rfl (by kernel_rfl) rfl (kA Ae (kA (Aj rfl rfl) (Aj rfl rfl))) (by rfl) (fun _ _ _ h => h) (fun lx ax wx hS => ?_) ?_;rotate_left;(obtain ⟨⟨-,hbx⟩, -⟩:=hS;obtain ⟨x0,x1,x2,x3,x4,x5,x6,x7⟩:=HQ3.out.up hbx;simp only [Nat.zero_add] at x1 x2 x3 x4 x5 x6 x7;replace p0:=bc hbx p0;replace p1:=bc hbx p1;replace p2:=bc hbx p2;go_simp;with_reducible rfl);rotate_left;simp only [sc0,sc1])
     refine AV ?_
     refine AJ [6,7] (by kernel_rfl) (fun i hi w4 hS => ?_)
     rcases List.mem_cons.1 hi with rfl | hi
     ·refine Da (f:=126) (args:=#[(pg (Cr ps l k) (rc l k).page.toNat).val A3 c3,(rc l k).val]) rfl rfl Tryz.func126 (by kernel_rfl) rfl rfl (by rfl) (by simp only [List.map_toArray,List.map_cons,List.map_nil];rfl) ((hcall w4 hS.1.2).mono ?_)
      rintro e w6 ⟨u,rfl,ho,hb⟩
      refine ⟨_,rfl,⟨⟨bj hS.1.1 hb,bj hS.1.2 hb⟩,fun _ => ⟨u,rfl,ho.lower hS.1.2.size⟩,fun h => ?_⟩,?_⟩
      ·exact (Ap h (by kernel_rfl)).elim
      simp only [sc0,sc1]
      refine AJ [7] (by kernel_rfl) (fun i hi w5 hS => ?_)
      obtain rfl:=List.mem_singleton.1 hi
      refine BH (w1:=?_) (.pointer (some ⟨w5.heap.size,0,none⟩)) rfl rfl (by rfl) ?_ ?_
      rotate_left
      ·go_simp
       with_reducible rfl
      refine ⟨⟨⟨Ab hS.1.1 _,Ab hS.1.2 _⟩,fun h => ?_,fun _ => ⟨w5.heap.size,rfl,hS.1.2.size,AU.mk1 w5 zp _⟩⟩,?_⟩
      ·obtain ⟨u1,hu1,ho1⟩:=hS.2.1 (by kernel_rfl)
       exact ⟨u1,hu1,ho1.below (Ab (Below.refl _ _) _)⟩
      simp only [sc0,sc1]
      refine BZ (i:=8) (by kernel_rfl) rfl (fun w7 hS => ?_)
      obtain ⟨⟨h1,h2⟩,h3,h4⟩:=hS
      obtain ⟨u1,hu1,hown⟩:=h3 (by kernel_rfl)
      obtain ⟨B,hB,hBle,hbox⟩:=h4 (by kernel_rfl)
      have hu1 : q.own u = q.own u1:=hu1
      obtain rfl : u = u1:=by simpa using hu1
      obtain rfl : B = w5.heap.size:=by
       have hB : Value.pointer (some ⟨w5.heap.size,0,none⟩) = .pointer (some ⟨B,0,none⟩):=hB
       injection hB with hB
       injection hB with hB
       injection hB with hB
       exact hB.symm
      have H2:=As (Cx h2 hBle q u)
      have H1:=As (Cx (g:=w5.heap.size) h1 (by have:=HW3.out.size;omega) q u)
      have HBX:=As (hbox.CK q u)
      have HU:=As (IC hown (EM hown hbox) q u)
      have HUN:=As (EM hown hbox)
      have b0:=hbox.c0
      have b1:=hbox.c1
      have b2:=hbox.c2
      have d0:=hbox.frz 0
      have d1:=hbox.frz 1
      have d2:=hbox.frz 2
      obtain ⟨A8,c8,rfl, -, -⟩:=hown.reads
      refine Bv (w1:=?_) rfl (by rfl) ?_ ?_
      rotate_left
      ·go_simp
       with_reducible rfl
      refine BM (by kernel_rfl) ?_
      clear hu1 hB h1 h2 h3 h4 hown hbox b0 b1 b2 d0 d1 d2 p0 p1 p2 hcall ho
      obtain ⟨W8,hW8⟩ : ∃ W8,CK w7 w5.heap.size q (.slice A8 q.vals.length c8) = W8:=⟨_,rfl⟩
      rw [hW8] at H1 H2 HBX HU
      have e8:=hW8
      unfold CK at e8
      rw [e8]
      clear e8 hW8
      have b0:=HBX.out.c0
      have b1:=HBX.out.c1
      have b2:=HBX.out.c2
      have d0:=HBX.out.frz 0
      obtain ⟨-, -,x2, -, -, -, -, -⟩:=HQ3.out.up H2.out
      simp only [Nat.zero_add] at x2
      have HS8:=As (And.intro hBle (And.intro hz2 hs3))
      have hne : wr.heap.size ≠ w5.heap.size:=by omega
      have hne2 : w5.heap.size ≠ wr.heap.size:=by omega
      have hne3 : g ≠ w5.heap.size:=by omega
      have HLB:=As hBle
      have HLN:=As hpn
      go_wp2_with (with_reducible refine Ph (.store 41 (.tmp 47) (.tmp 46)) rfl ?_;go_loud (refine GU (ok:=fun _ => True) (w0:=w) (N:=w3.heap.size) (q:=⟨(k : Int) + 1,q.owner,q.vals⟩) (rc l k).page.toNat (ML HGk.out) rfl rfl (.tmp 47) (.tmp 46) rfl rfl rfl (HU.out.far HUN.out _ _) HW3.out.size (Kd.Ee HO3.out (H2.out.setCell (p:=⟨w5.heap.size,0,none⟩) HLB.out _)) HLN.out (H1.out.setCell (p:=⟨w5.heap.size,0,none⟩) (by have:=HW3.out.size;have:=HLB.out;simp only;omega) _) ?_);intro w9 hO9 hB9 hg9;have HO9:=As (Kd.Dl (ok':=fun _ => True) hO9 (fun _ _ => trivial));have HB9:=As hB9;clear hO9 hB9 hg9)
      go_roundw
      case rel => exact ⟨k + 1,by omega,by go_num,⟨by rw [Cr,Et,if_pos ⟨HC.out,by have:=e1.out;push_cast;omega⟩,doR,HQ.out];exact HO9.out⟩,HB9⟩
      case measure => simp [intOf];omega
     ·obtain rfl:=List.mem_singleton.1 hi
      refine BH (w1:=?_) (.pointer (some ⟨w4.heap.size,0,none⟩)) rfl rfl (by rfl) ?_ ?_
      rotate_left
      ·go_simp
       with_reducible rfl
      refine ⟨⟨⟨Ab hS.1.1 _,Ab hS.1.2 _⟩,fun h => ?_,fun _ => ⟨w4.heap.size,rfl,hS.1.2.size,AU.mk1 w4 zp _⟩⟩,?_⟩
      ·exact (Ap h (by kernel_rfl)).elim
      simp only [sc0,sc1]
      refine AJ [6] (by kernel_rfl) (fun i hi w5 hS => ?_)
      obtain rfl:=List.mem_singleton.1 hi
      refine Da (f:=126) (args:=#[(pg (Cr ps l k) (rc l k).page.toNat).val A3 c3,(rc l k).val]) rfl rfl Tryz.func126 (by kernel_rfl) rfl rfl (by rfl) (by simp only [List.map_toArray,List.map_cons,List.map_nil];rfl) ((hcall w5 hS.1.2).mono ?_)
      rintro e w6 ⟨u,rfl,ho,hb⟩
      refine ⟨_,rfl,⟨⟨bj hS.1.1 hb,bj hS.1.2 hb⟩,fun _ => ⟨u,rfl,ho.lower hS.1.2.size⟩,fun h => ?_⟩,?_⟩
      ·obtain ⟨B,hB,hBle,hbox⟩:=hS.2.2 (by kernel_rfl)
       exact ⟨B,hB,hBle,hbox.up hb⟩
      simp only [sc0,sc1]
      refine BZ (i:=8) (by kernel_rfl) rfl (fun w7 hS => ?_)
      obtain ⟨⟨h1,h2⟩,h3,h4⟩:=hS
      obtain ⟨u1,hu1,hown⟩:=h3 (by kernel_rfl)
      obtain ⟨B,hB,hBle,hbox⟩:=h4 (by kernel_rfl)
      have hu1 : q.own u = q.own u1:=hu1
      obtain rfl : u = u1:=by simpa using hu1
      obtain rfl : B = w4.heap.size:=by
       have hB : Value.pointer (some ⟨w4.heap.size,0,none⟩) = .pointer (some ⟨B,0,none⟩):=hB
       injection hB with hB
       injection hB with hB
       injection hB with hB
       exact hB.symm
      have H2:=As (Cx h2 hBle q u)
      have H1:=As (Cx (g:=w4.heap.size) h1 (by have:=HW3.out.size;omega) q u)
      have HBX:=As (hbox.CK q u)
      have HU:=As (IC hown (EM hown hbox) q u)
      have HUN:=As (EM hown hbox)
      have b0:=hbox.c0
      have b1:=hbox.c1
      have b2:=hbox.c2
      have d0:=hbox.frz 0
      have d1:=hbox.frz 1
      have d2:=hbox.frz 2
      obtain ⟨A8,c8,rfl, -, -⟩:=hown.reads
      refine Bv (w1:=?_) rfl (by rfl) ?_ ?_
      rotate_left
      ·go_simp
       with_reducible rfl
      refine BM (by kernel_rfl) ?_
      clear hu1 hB h1 h2 h3 h4 hown hbox b0 b1 b2 d0 d1 d2 p0 p1 p2 hcall ho
      obtain ⟨W8,hW8⟩ : ∃ W8,CK w7 w4.heap.size q (.slice A8 q.vals.length c8) = W8:=⟨_,rfl⟩
      rw [hW8] at H1 H2 HBX HU
      have e8:=hW8
      unfold CK at e8
      rw [e8]
      clear e8 hW8
      have b0:=HBX.out.c0
      have b1:=HBX.out.c1
      have b2:=HBX.out.c2
      have d0:=HBX.out.frz 0
      obtain ⟨-, -,x2, -, -, -, -, -⟩:=HQ3.out.up H2.out
      simp only [Nat.zero_add] at x2
      have HS8:=As (And.intro hBle (And.intro hz2 hs3))
      have hne : wr.heap.size ≠ w4.heap.size:=by omega
      have hne2 : w4.heap.size ≠ wr.heap.size:=by omega
      have hne3 : g ≠ w4.heap.size:=by omega
      have HLB:=As hBle
      have HLN:=As hpn
      go_wp2_with (with_reducible refine Ph (.store 41 (.tmp 47) (.tmp 46)) rfl ?_;go_loud (refine GU (ok:=fun _ => True) (w0:=w) (N:=w3.heap.size) (q:=⟨(k : Int) + 1,q.owner,q.vals⟩) (rc l k).page.toNat (ML HGk.out) rfl rfl (.tmp 47) (.tmp 46) rfl rfl rfl (HU.out.far HUN.out _ _) HW3.out.size (Kd.Ee HO3.out (H2.out.setCell (p:=⟨w4.heap.size,0,none⟩) HLB.out _)) HLN.out (H1.out.setCell (p:=⟨w4.heap.size,0,none⟩) (by have:=HW3.out.size;have:=HLB.out;simp only;omega) _) ?_);intro w9 hO9 hB9 hg9;have HO9:=As (Kd.Dl (ok':=fun _ => True) hO9 (fun _ _ => trivial));have HB9:=As hB9;clear hO9 hB9 hg9)
      go_roundw
      case rel => exact ⟨k + 1,by omega,by go_num,⟨by rw [Cr,Et,if_pos ⟨HC.out,by have:=e1.out;push_cast;omega⟩,doR,HQ.out];exact HO9.out⟩,HB9⟩
      case measure => simp [intOf];omega
    ·go_wp2_with (first | (with_reducible refine CJ (rc l k) ?_;intro w2 hb2 hz2 hq2;have HW2:=As (bj HW.out hb2);have HO2:=As (Kd.BG HO.out hb2);have HQ2:=As hq2;obtain ⟨x0,x1,x2,x3,x4,x5,x6,x7⟩:=hq2;simp only [Nat.zero_add] at x1 x2 x3 x4 x5 x6 x7;clear hb2) | (go_at_call 125;refine (FE HC.out _).mono ?_;rintro e w3 ⟨rfl,hb3⟩;have hs3:=hb3.size;have HW3:=As (bj HW2.out hb3);have HO3:=As (Kd.BG HO2.out hb3);have HQ3:=As (HQ2.out.up hb3);obtain ⟨-, -,y2, -, -, -, -, -⟩:=HQ2.out.up hb3;simp only [Nat.zero_add] at y2;obtain ⟨A3,c3,p0,p1,p2,pC, -⟩:=E5 HO3.out (rc l k).page.toNat hpn;have HPC:=As pC;clear hb3 pC))
     go_roundw
     case rel => exact ⟨k + 1,by omega,by go_num,⟨by rw [Cr,Et,if_neg (by have:=e1.out;simp;intro _;omega)];exact HO3.out⟩,HW3⟩
     case measure => simp [intOf];omega
  ·have hke : k = l.length:=by omega
   have HE:=As hke
   clear hke
   go_wp2_with (go_at_call 83;refine (Vk HGk.out.1 rfl (Below.refl _ _) (Kd.SL HO.out).2.2).mono ?_;rintro e w2 ⟨rfl,hb2⟩;have HW2:=As (bj HW.out hb2);have HO2:=As (Kd.BG HO.out hb2);clear hb2)
   go_ret2
   exact ⟨.slice (some ⟨g,0,none⟩) 5 cap,by rw [HE.out];rfl,by rw [← HE.out];exact HO2.out,HW2.out⟩
set_option maxRecDepth 100000 in
theorem Xg {α : Type} (d : Kd α) (hsz : d.sz = 3) {o : Oper} {a : Act} {w0 W : World} {g n cap : Nat} {xs : List α} {x' z : α} {q : Page} {v : Value} {ok okp : Nat → Prop} (i : Nat) (s x : Operand) (ho : o.op = .store 41 s x)
  (haddr : a.eval s = .pointer (some ⟨g,i * 3,none⟩)) (hx : a.eval x = q.own v) (hv1 : ∃ A c,v = .slice A q.vals.length c) (HO : d.R 41 W w0.heap.size ok (.slice (some ⟨g,0,none⟩) n cap) xs) (hi : i < n) (HB : Below w0.heap.size w0 W)
  (hM : d.M W w0.heap.size okp x' [.int .i64 q.lsn, .int .i64 q.owner,v]) (hokp : ∀ k,okp k → ok k ∧ k ≠ g) :
  ∃ w1,(execOp a.eval o).run Tryz.prog W = .ok .skip w1 ∧ d.R 41 w1 w0.heap.size ok (.slice (some ⟨g,0,none⟩) n cap) (xs.set i x') ∧ Below w0.heap.size w0 w1 ∧ W.grownBy w1 (some g):=by
 obtain ⟨c,hl,hM0,hc,hf⟩:=Kd.Pt HO z (i : Int) (by omega) (by omega)
 obtain ⟨A1,c1,rfl⟩:=hv1
 have hl3 : c.length = 3:=hl.trans hsz
 obtain ⟨hrow,hg⟩:=Kd.X4 (okp:=okp) HO (i : Int) (by omega) (by omega) (seg := [.int .i64 q.lsn, .int .i64 q.owner, .slice A1 q.vals.length c1]) (j:=0) (x':=x') hl hc (by rw [hsz];exact Nat.le_refl 3) (by
  rw [List.take_zero,List.nil_append,List.drop_of_length_le (by simp [hl3]),List.append_nil]
  exact hM) hokp
 rw [hsz] at hrow hg
 have hbg : w0.heap.size ≤ g:=Kd.U4 HO g (by simp [Value.ownBlock])
 have hB : Below w0.heap.size w0 (W.setCells g ((i : Int).toNat * 3 + 0) [.int .i64 q.lsn, .int .i64 q.owner, .slice A1 q.vals.length c1]):=HB.trans ⟨hg.os,hg.tape,hg.output,hg.size,fun k hk => by
  rcases Nat.lt_or_ge k W.heap.size with hlt | hge
  ·exact hg.block k hlt (fun he => by injection he with he;omega)
  ·exact GQ _ _ k (by omega)⟩
 refine ⟨_,?_,hrow,hB,hg⟩
 obtain ⟨_,inner,hown,hr⟩:=HO
 have hnx : n = xs.length:=by
  rcases hown.2 with ⟨hv,h0⟩ | ⟨g',cap',cur,hv,_⟩
  ·cases hv
  ·injection hv
 have hrun : (Instr.storeAt 41 (.pointer (some ⟨g,i * 3 + 0,none⟩)) (q.own (.slice A1 q.vals.length c1))).run Tryz.prog W = .ok () (W.setCells g (i * 3 + 0) [.int .i64 q.lsn, .int .i64 q.owner, .slice A1 q.vals.length c1]):=by
  rcases hown.2 with ⟨hv,_⟩ | ⟨g',cap',cur,hv,hb,hh,hnc,hcm,hcs,_⟩
  ·cases hv
  injection hv with ha _ hc
  injection ha with ha
  injection ha with hg'
  subst hg';subst hc
  refine Lj _ _ _ hh rfl (by kernel_rfl) ?_ (by simp [Value.oneCell'])
  have h3 : cur.size = cap * 3:=by rw [← hsz];exact hcs
  simp
  omega
 unfold execOp
 simp only [ho,haddr,hx,Sem.run_bind,Sem.run_pure]
 rw [Nat.add_zero] at hrun
 rw [hrun]
 rfl
theorem EK {ops : Array Oper} {Q : Exit → Act → World → Prop} {K : Act → World → Prop} {i0 : Nat} {o : Oper} {a : Act} {w0 W : World} {g n cap N : Nat} {ps : List Page} {q : Page} {v : Value} {ok : Nat → Prop} (i : Nat) (hn : ps.length = n) (s x : Operand) (hi0 : ops.toList[i0]? = some o) (hw : Region.wanted o (yielded ops a.tmps) = true) (ho : o.op = .store 41 s x)
  (haddr : a.eval s = .pointer (some ⟨g,i * 3,none⟩)) (hx : a.eval x = q.own v) (hp : AL W N v q.vals) (hN0 : w0.heap.size ≤ N) (HO : CB W w0.heap.size (fun k => ok k ∧ k < N) (.slice (some ⟨g,0,none⟩) n cap) ps) (hi : i < n) (HB : Below w0.heap.size w0 W)
  (h : ∀ w1,CB w1 w0.heap.size (fun k => ok k ∨ some k = v.ownBlock) (.slice (some ⟨g,0,none⟩) n cap) (ps.set i q) → Below w0.heap.size w0 w1 → W.grownBy w1 (some g) → K (a.put o.dst undef) w1) : wpOp Tryz.prog ops Q i0 K a W:=by
 subst hn
 have hgN:=Mr HO g rfl
 obtain ⟨f,hf,hR⟩:=Kd.WX HO i (fun k => some k = v.ownBlock) (fun k hk h2 => by have:=Ck hp k hk.symm;omega)
 have hR2:=Kd.ED (ok':=fun k => ok k ∨ some k = v.ownBlock) hR (fun k hk => .inl hk.1)
 have hl0 : ps.zipIdx.length = ps.length:=List.length_zipIdx
 obtain ⟨A1,c1,hv,_,_⟩:=AL.reads hp
 obtain ⟨w1,hr,h1,h2,h3⟩:=Xg (Kd.tag f Dw) rfl (z:=(z0,0)) (x':=(q,i)) (okp:=fun k => some k = v.ownBlock) i s x ho haddr hx ⟨A1,c1,hv⟩ hR2 hi HB (Ji W _ _ q (Kd.EQ (En hp hN0) (fun k hk => ⟨hk.symm,hf k hk.symm⟩))) (fun k hk => ⟨.inr hk,fun e => by have:=Ck hp k hk.symm;omega⟩)
 exact Bv hi0 hw hr (h w1 ⟨f,by rw [Ub];exact h1⟩ h2 h3)
set_option maxRecDepth 100000 in
set_option maxHeartbeats 4000000 in
theorem PL {w0 w : World} {A B : Option Addr} {c d : Nat} {ps : List Page} {l : List Rec} (hg : geo ps) (hok : ∀ k,k < l.length → CZ (rc l k) = true) (hl : l.length ≤ 150) (hb : Below w0.heap.size w0 w) (hr : Kd.C Dw w0 A ps.length ps) (hr2 : Kd.C Ca w0 B l.length l) : Calls Tryz.prog 117 #[.slice A ps.length c, .slice B l.length d] w (N7 w (Cr ps l l.length)):=by
 have HR:=As (BA hr hb)
 have HR2:=As (BA hr2 hb)
 have HG:=As hg
 have HK:=As hok
 clear hr hr2 hb hok hg
 go_enter Tryz.func117,Tryz.ntmps117
 go_wp2_with (go_at_call 111;refine (DJ (G5 HG.out) (by have:=HG.out.1;omega) (Below.refl _ _) HR.out).mono ?_;rintro e w1 ⟨v,rfl,hO,hb1⟩;obtain ⟨g,cap,rfl,hgb,hgl⟩:=Ci hO (by have:=HG.out.1;omega);have HO:=As hO;have HB:=As hb1;have HGB:=As (And.intro hgb hgl);clear hO hb1 hgb hgl)
 have h5:=HG.out.1
 rw [h5] at HO ⊢
 clear h5
 go_loopw [6] (fun i wr => ∃ k : Nat,k ≤ l.length ∧ i = .int .i64 (k : Int) ∧ Aa (EH wr w.heap.size (.slice (some ⟨g,0,none⟩) 5 cap) (Cr ps l k)) ∧ Aa (Below w.heap.size w wr)) (fun i _ => (l.length - intOf i).toNat)
 case atStart => exact ⟨0,Nat.zero_le _,rfl,HO,HB⟩
 case round =>
  obtain ⟨k,hk,rfl,HO,HW⟩:=hrel
  have HGk:=As (KI HG.out HK.out k hk)
  by_cases hlt : k < l.length
  ·obtain ⟨ad,rfl,QR⟩:=CS (BA HR2.out HW.out) k hlt
   obtain ⟨z0,z1,z2,z3,z4,z5,z6,z7⟩:=QR
   cases hc : Cw (rc l k).kind
   ·have HC:=As hc
    clear hc
    go_wp2_with (first | (with_reducible refine CJ (rc l k) ?_;intro w3 hb2 hz2 hq2;have HW3:=As (bj HW.out hb2);have HO3:=As (Kd.BG HO.out hb2);have HQ3:=As hq2;obtain ⟨x0,x1,x2,x3,x4,x5,x6,x7⟩:=hq2;simp only [Nat.zero_add] at x1 x2 x3 x4 x5 x6 x7;clear hb2) | (go_at_call 142;refine (FW HC.out _).mono ?_;rintro e w4 ⟨rfl,rfl⟩))
    go_roundw
    case rel => exact ⟨k + 1,by omega,by go_num,⟨by rw [Cr,Et,if_neg (by rw [HC.out];simp)];exact HO3.out⟩,HW3⟩
    case measure => simp [intOf];omega
   ·have HC:=As hc
    have hP:=Im (HK.out k hlt) hc
    have hp0 : 0 ≤ (rc l k).page:=hP.1
    have hp5 : (rc l k).page < 5:=by omega
    have hpn : (rc l k).page.toNat < 5:=by omega
    have HP:=As hP
    clear hc hP
    rcases lts (pg (Cr ps l k) (rc l k).page.toNat).lsn (k + 1 : Int) with ⟨e1,b1,c1⟩ | ⟨e1,b1,c1⟩
    ·go_wp2_with (first | (with_reducible refine CJ (rc l k) ?_;intro w3 hb2 hz2 hq2;have HW3:=As (bj HW.out hb2);have HO3:=As (Kd.BG HO.out hb2);have HQ3:=As hq2;obtain ⟨x0,x1,x2,x3,x4,x5,x6,x7⟩:=hq2;simp only [Nat.zero_add] at x1 x2 x3 x4 x5 x6 x7;obtain ⟨A3,c3,p0,p1,p2,pC, -⟩:=E5 HO3.out (rc l k).page.toNat hpn;have HPC:=As pC;clear pC;clear hb2) | (go_at_call 142;refine (FW HC.out _).mono ?_;rintro e w4 ⟨rfl,rfl⟩))
     obtain ⟨q,hq⟩ : ∃ q,doR (pg (Cr ps l k) (rc l k).page.toNat) (rc l k) ((k : Int) + 1) = q:=⟨_,rfl⟩
     have HQ:=As hq
     have hg3:=FZ HGk.out hpn
     have HG3:=As hg3
     have hcall : ∀ wx,Below w3.heap.size w3 wx → Calls Tryz.prog 143 #[(pg (Cr ps l k) (rc l k).page.toNat).val A3 c3,(rc l k).val, .int .i64 ((k : Int) + 1)] wx (PX wx q):=fun wx hb => HQ.out ▸ P9 (rc l k) ((k : Int) + 1) (by rw [HG3.out];decide) (by rw [HG3.out];have:=HP.out;omega) hb HPC.out
     have hwr : IntKind.i64.wrap ((k : Int) + 1) = (k : Int) + 1:=by simp (disch:=omega) only [IntWalk.i64_in]
     clear hq hg3
     refine AQ (fun lx a wx => (Below w.heap.size w wx ∧ Below w3.heap.size w3 wx) ∧ Sl 11 45 (fun v wx => ∃ u,v = q.own u ∧ AL wx w3.heap.size u q.vals) lx a wx) 13 rfl (by kernel_rfl) (⟨⟨Af HW3.out,Af (Below.refl _ _)⟩,Bb⟩) (fun HT => ?_)
     refine AX [0,1,2,3,4,5,6,7,8,9,10] ?_
     iterate 11 (refine AR (v:=?_) HT rfl (by kernel_rfl) rfl (kA Ae (Aj rfl rfl)) (by rfl) (fun _ _ _ h => h) (fun lx ax wx hS => ?_) ?_;rotate_left;(obtain ⟨⟨-,hbx⟩, -⟩:=hS;obtain ⟨x0,x1,x2,x3,x4,x5,x6,x7⟩:=HQ3.out.up hbx;simp only [Nat.zero_add] at x1 x2 x3 x4 x5 x6 x7;replace p0:=bc hbx p0;replace p1:=bc hbx p1;replace p2:=bc hbx p2;go_simp;with_reducible rfl);rotate_left;simp only [sc0,sc1])
     refine AV ?_
     refine C8 (i:=11) (f:=143) (args:=#[(pg (Cr ps l k) (rc l k).page.toNat).val A3 c3,(rc l k).val, .int .i64 ((k : Int) + 1)]) (fun v => ∃ u,v = q.own u) rfl (by kernel_rfl) rfl Tryz.func143 (by kernel_rfl) rfl rfl (by rfl) (by simp only [List.map_toArray,List.map_cons,List.map_nil];rfl) (fun wx hS => (hcall wx hS.1.2).mono (by rintro e w6 ⟨u,rfl,ho,hb⟩;exact ⟨_,rfl,⟨u,rfl⟩,⟨bj hS.1.1 hb,bj hS.1.2 hb⟩,fun _ => ⟨u,rfl,ho.lower hS.1.2.size⟩⟩)) (fun vx hg => ?_);simp only [sc0,sc1]
     obtain ⟨u,rfl⟩:=hg
     refine CR (i:=12) (v:=?_) HT rfl (by kernel_rfl) rfl (kA Ae (Aj rfl rfl)) (by rfl) (fun _ _ _ h => h) (fun lx ax wx hS => ?_) ?_;rotate_left;(go_simp;with_reducible rfl);rotate_left;simp only [sc0,sc1]
     refine BZ (i:=13) (by kernel_rfl) rfl (fun wx hS => ?_)
     obtain ⟨⟨h1,h2⟩,h3⟩:=hS
     obtain ⟨u1,hu1,hown⟩:=h3 (by kernel_rfl)
     have hu1 : q.own u = q.own u1:=hu1
     obtain rfl : u = u1:=by simpa using hu1
     refine EK (ok:=fun _ => True) (w0:=w) (N:=w3.heap.size) (q:=q) (rc l k).page.toNat (ML HGk.out) (.tmp 46) (.tmp 45) rfl (by rfl) rfl rfl rfl hown HW3.out.size (Kd.Ee HO3.out h2) hpn h1 (fun w8 hO8 hB8 _ => ?_)
     have HO8:=As (Kd.Dl (ok':=fun _ => True) hO8 (fun _ _ => trivial))
     have HB8:=As hB8
     clear hO8 hB8 hown h1 h2 h3 hu1 hcall
     refine BM (by kernel_rfl) ?_
     go_wp2
     go_roundw
     case rel => exact ⟨k + 1,by omega,by go_num,⟨by rw [Cr,Et,if_pos ⟨HC.out,by have:=e1.out;push_cast;omega⟩];push_cast;rw [HQ.out];exact HO8.out⟩,HB8⟩
     case measure => simp [intOf];omega
    ·go_wp2_with (first | (with_reducible refine CJ (rc l k) ?_;intro w3 hb2 hz2 hq2;have HW3:=As (bj HW.out hb2);have HO3:=As (Kd.BG HO.out hb2);have HQ3:=As hq2;obtain ⟨x0,x1,x2,x3,x4,x5,x6,x7⟩:=hq2;simp only [Nat.zero_add] at x1 x2 x3 x4 x5 x6 x7;obtain ⟨A3,c3,p0,p1,p2,pC, -⟩:=E5 HO3.out (rc l k).page.toNat hpn;have HPC:=As pC;clear pC;clear hb2) | (go_at_call 142;refine (FW HC.out _).mono ?_;rintro e w4 ⟨rfl,rfl⟩))
     go_roundw
     case rel => exact ⟨k + 1,by omega,by go_num,⟨by rw [Cr,Et,if_neg (by have:=e1.out;simp;intro _;omega)];exact HO3.out⟩,HW3⟩
     case measure => simp [intOf];omega
  ·have hke : k = l.length:=by omega
   have HE:=As hke
   clear hke
   go_wp2
   go_ret
   exact ⟨_,rfl,by rw [← HE.out];exact HO.out,HW.out⟩
def GH (l : List Rec) (n : Nat) (page : Int) : Bool:=(BD l n).any fun m => (rc l (m - 1)).page == page
theorem Gn (l : List Rec) (p : Int) : GH l 0 p = false:=by simp [GH,Cs]
theorem Qm {l : List Rec} {n : Nat} {p : Int} (h : BP l (n + 1) ≤ n) : GH l (n + 1) p = ((rc l n).page == p || GH l (BP l (n + 1)) p):=by
 simp [GH,Eh h]
set_option maxHeartbeats 1000000 in
theorem KF {w0 w : World} {A : Option Addr} {c : Nat} {l : List Rec} {tx page : Int} {b : Bool} (hv : GH l (Ai l tx l.length) page = b) (hb : Below w0.heap.size w0 w) (hr : Kd.C Ca w0 A l.length l) (hl : AB l = true) : Calls Tryz.prog 68 #[.slice A l.length c, .int .i64 tx, .int .i64 page] w fun e w' => e = .returned (.bool b) ∧ w = w':=by
 have HR:=As hr
 have HB:=As hb
 have HL:=As hl
 have HV:=As hv
 have hm:=(Cg hr).2
 clear hr hb hl hv
 go_enter Tryz.func68,Tryz.ntmps68
 go_wp2_with (go_at_call 109;refine (JF tx HB.out HR.out).mono ?_;rintro e w' ⟨rfl,rfl⟩)
 go_loop [7] (fun i => ∃ k : Nat,k ≤ l.length ∧ i = .int .i64 (k : Int) ∧ Aa (GH l k page = b)) (fun i => (intOf i).toNat)
 case atStart => exact ⟨Ai l tx l.length,Bc _ _ _,rfl,HV⟩
 case round =>
  obtain ⟨k,hk,rfl,HK⟩:=hrel
  rcases k with _ | k
  ·go_wp2
   go_ret
   exact ⟨Au (by rw [← HK.out,Gn]),rfl⟩
  ·have F:=Aq HL.out (k:=k) (by omega)
   obtain ⟨ad,rfl,QR⟩:=CS HR.out k (by omega)
   have QW:=QR.up HB.out
   obtain ⟨g0,g1,g2,g3,g4,g5,g6,g7⟩:=QW
   have hp:=Qm (p:=page) F.prev_le
   have HP:=As hp
   have hle:=F.prev_le
   rw [F.prev] at g6
   clear hp F QR
   rcases BQ (rc l k).page page with ⟨e1,b1,c1⟩ | ⟨e1,b1,c1⟩
   ·go_wp2
    go_ret
    exact ⟨Au (by rw [← HK.out,HP.out,b1];rfl),rfl⟩
   ·go_wp2
    go_round
    case rel => exact ⟨BP l (k + 1),by omega,rfl,⟨by rw [← HK.out,HP.out,b1,Bool.false_or]⟩⟩
    case measure => simp [intOf];omega
theorem IA {l : List Rec} {n : Nat} (hk : (rc l n).kind = 1 ∨ (rc l n).kind = 2) (h : BP l (n + 1) ≤ n) : Br l (n + 1) = n + 1:=by
 rw [Br,Mf hk h];rfl
theorem Mg {l : List Rec} {n : Nat} (hk : (rc l n).kind = 6) (h : F6 l (n + 1) ≤ n) : Br l (n + 1) = Br l (F6 l (n + 1)):=by
 rw [Br,Ni hk h];rfl
theorem Mh {l : List Rec} {n : Nat} (h1 : (rc l n).kind ≠ 1) (h2 : (rc l n).kind ≠ 2) (h6 : (rc l n).kind ≠ 6) (h : BP l (n + 1) ≤ n) : Br l (n + 1) = Br l (BP l (n + 1)):=by
 rw [Br,Nk h1 h2 h6 h];rfl
theorem Qb (l : List Rec) : Br l 0 = 0:=by rw [Br,Db];rfl
set_option maxHeartbeats 2000000 in
theorem Gr {w0 w : World} {A : Option Addr} {c n : Nat} {l : List Rec} (hn : n ≤ l.length) (hb : Below w0.heap.size w0 w) (hr : Kd.C Ca w0 A l.length l) (hl : AB l = true) : Calls Tryz.prog 144 #[.slice A l.length c, .int .i64 n] w fun e w' => e = .returned (.int .i64 (Br l n)) ∧ Below w0.heap.size w0 w':=by
 have HR:=As hr
 have HB:=As hb
 have HL:=As hl
 have hm:=(Cg hr).2
 clear hr hb hl
 go_enter Tryz.func144,Tryz.ntmps144
 go_wp2
 go_loopw [1] (fun i wr => ∃ k : Nat,k ≤ l.length ∧ i = .int .i64 (k : Int) ∧ Aa (Br l n = Br l k) ∧ Aa (Below w0.heap.size w0 wr)) (fun i _ => (intOf i).toNat)
 case atStart => exact ⟨n,hn,rfl,⟨rfl⟩,HB⟩
 case round =>
  obtain ⟨k,hk,rfl,HK,HW⟩:=hrel
  rcases k with _ | k
  ·go_wp2
   go_ret
   exact ⟨EF (by rw [HK.out,Qb];rfl),HW.out⟩
  ·have F:=Aq HL.out (k:=k) (by omega)
   obtain ⟨ad,rfl,QR⟩:=CS HR.out k (by omega)
   have QW:=QR.up HW.out
   obtain ⟨g0,g1,g2,g3,g4,g5,g6,g7⟩:=QW
   have hle:=F.prev_le
   have hle2:=F.next_le
   rw [F.prev] at g6
   rw [F.next] at g7
   clear F QR
   rcases BQ (rc l k).kind 1 with ⟨e1,b1,c1⟩ | ⟨e1,b1,c1⟩
   ·go_wp2
    go_ret
    exact ⟨EF (by rw [HK.out,IA (.inl e1.out) hle]),DX HW.out _⟩
   ·rcases BQ (rc l k).kind 2 with ⟨e2,b2,c2⟩ | ⟨e2,b2,c2⟩
    ·go_wp2
     go_ret
     exact ⟨EF (by rw [HK.out,IA (.inr e2.out) hle]),DX HW.out _⟩
    ·rcases BQ (rc l k).kind 6 with ⟨e3,b3,c3⟩ | ⟨e3,b3,c3⟩
     ·go_wp2
      go_roundw
      case rel => exact ⟨F6 l (k + 1),by omega,rfl,⟨by rw [HK.out,Mg e3.out hle2]⟩,⟨DX HW.out _⟩⟩
      case measure => simp [intOf];omega
     ·go_wp2
      go_roundw
      case rel => exact ⟨BP l (k + 1),by omega,rfl,⟨by rw [HK.out,Mh e1.out e2.out e3.out hle]⟩,⟨DX HW.out _⟩⟩
      case measure => simp [intOf];omega
def BK (l : List Rec) (page : Int) : Nat → Nat
 | 0 => 0
 | n + 1 => if (rc l n).page = page ∧ (Cw (rc l n).kind = true ∨ (rc l n).kind = 3) then n + 1 else BK l page n
open Go.RowKit Go.Shelf Go.Proofs.YtofgeajaajfiaaaGreatW.PrintWords Go.Proofs.YtofgeajaajfiaaaGreatW.PrintLast Go.Proofs.YtofgeajaajfiaaaGreatW.PrintMore
attribute [local go_sem] Oper.semAt_some
def JU (n k : Nat) : List Nat:=(List.range k).map fun j => n - 1 - j
theorem Gp (n k : Nat) : JU n (k + 1) = JU n k ++ [n - 1 - k]:=by simp [JU,List.range_succ]
theorem G7 (n k : Nat) : (JU n k).length = k:=by simp [JU]
abbrev JQ (n : Nat) : Type:={ k : Nat // k < n }
set_option maxRecDepth 100000 in
set_option maxHeartbeats 4000000 in
theorem WU (F : Fence) (n : Nat) (h7 : F.fn 146) (hro : F.round = none) (hn : 1 ≤ n) (l Bs n₀ cap : Nat) (A : Option Addr) (rs : List Rec) (w0 : World) (hC : Kd.C Ca w0 A rs.length rs) (J Jx : List (JQ rs.length) → World → Prop) (hw0 : w0.heap.size ≤ n₀) (hBn : Bs < n₀)
  (hY : ∀ pre x W,J pre W → pre.length < rs.length → YieldAt F (n - 1) Tryz.prog l #[.int .i64 (x.1 : Nat),(rc rs x.1).val] W fun e W' =>
   (e = .returned (.bool true) ∧ J (pre ++ [x]) W' ∧ Below n₀ W W') ∨ (e = .returned (.bool false) ∧ Jx (pre ++ [x]) W'))
  (W : World) (hBs : W.cell? ⟨Bs,0,none⟩ = some (.slice A rs.length cap)) (hW : Below w0.heap.size w0 W) (h0 : J [] W) :
  CallsIn F n Tryz.prog 146 #[.func (.yield l) #[] #[], .pointer (some ⟨Bs,0,none⟩)] W fun e W' => (∃ v,e = .returned v) ∧
   ((∃ ys : List (JQ rs.length),ys.map (·.1) = JU rs.length rs.length ∧ J ys W') ∨ (∃ pre : List (JQ rs.length),(∃ k,k ≤ rs.length ∧ pre.map (·.1) = JU rs.length k) ∧ Jx pre W')):=by
 have HC:=As hC
 have HW:=As hW
 have hm:=(Cg hC).2
 clear hC hW
 refine callsIn_of_wp Tryz.func146 rfl h7 ?_ hro
 simp only [Tryz.ntmps146,List.size_toArray,List.length_cons,List.length_nil,Nat.reduceAdd,Nat.reduceSub,Array.replicate_succ,Array.replicate_zero,List.push_toArray,List.append_toArray,List.nil_append,List.cons_append]
 gi_wp2
 gi_loopw [3] (fun i wr => ∃ (k : Nat) (pre : List (JQ rs.length)),k ≤ rs.length ∧ i = .int .i64 (((rs.length - k : Nat) : Int) - 1) ∧ Aa (pre.map (·.1) = JU rs.length k) ∧ Aa (J pre wr) ∧ Aa (Below n₀ W wr))
  (fun i _ => (intOf i + 1).toNat)
 case atStart => exact ⟨0, [],Nat.zero_le _,by simp,⟨rfl⟩,⟨h0⟩,⟨Below.refl _ _⟩⟩
 case round =>
  obtain ⟨k,pre,hk,rfl,HP,HJ,HX⟩:=hrel
  have hbx : wr.cell? ⟨Bs,0,none⟩ = some (.slice A rs.length cap):=(HX.out.cell (p:=⟨Bs,0,none⟩) hBn).trans hBs
  obtain ⟨m,hm2⟩ : ∃ m,rs.length - k = m:=⟨_,rfl⟩
  rw [hm2]
  rcases m with _ | m
  ·have hkk : k = rs.length:=by omega
   gi_wp2
   go_end0
   exact ⟨⟨_,rfl⟩, .inl ⟨pre,by rw [HP.out,hkk],HJ.out⟩⟩
  ·obtain ⟨ad,rfl,QR⟩:=CS HC.out m (by omega)
   have hWr : Below w0.heap.size w0 wr:=HW.out.trans (HX.out.mono hw0)
   obtain ⟨g0,g1,g2,g3,g4,g5,g6,g7⟩:=QR.up hWr
   have hpl : pre.length < rs.length:=by
    have:=congrArg List.length HP.out
    rw [List.length_map,G7] at this
    omega
   have HM:=As hm2
   have hml : m < rs.length:=by omega
   clear hm2
   obtain ⟨fn,tmps,assign,body,hy,hR⟩:=hY pre ⟨m,hml⟩ wr HJ.out hpl
   have HR:=As hR
   clear hWr hR
   gi_wp2
   refine HR.out.mono ?_
   rintro e W3 (⟨rfl,hJ3,hk3⟩ | ⟨rfl,hJx3⟩)
   ·have HJ3:=As hJ3
    have HK3:=As hk3
    clear hJ3 hk3
    gi_wp2
    go_roundw
    case rel => exact ⟨k + 1,pre ++ [⟨m,hml⟩],by have:=HM.out;omega,by have:=HM.out;rw [show rs.length - (k + 1) = m by omega],⟨by rw [List.map_append,HP.out,Gp];have:=HM.out;simp;omega⟩,HJ3,⟨HX.out.trans HK3.out⟩⟩
    case measure => simp [intOf]
   ·have HJ3:=As hJx3
    clear hJx3
    gi_wp2
    refine bodyPost_ret (results_none rfl _ _ _) rfl ?_
    exact ⟨⟨_,rfl⟩, .inr ⟨pre ++ [⟨m,hml⟩],⟨k + 1,by have:=HM.out;omega,by rw [List.map_append,HP.out,Gp];have:=HM.out;simp;omega⟩,HJ3.out⟩⟩
set_option maxHeartbeats 1000000 in
theorem UN (F : Fence) (n : Nat) (h5 : F.fn 120) (hro : F.round = none) (a : Option Addr) (len cap : Nat) (w : World) :
  CallsIn F n Tryz.prog 120 #[.slice a len cap] w fun e w' => e = .returned (.func (.func 146) #[] #[.pointer (some ⟨w.heap.size,0,none⟩)]) ∧ w' = w.alloc (.cells #[.slice a len cap] 26):=by
 refine callsIn_of_wp Tryz.func120 rfl h5 ?_ hro
 simp only [Tryz.ntmps120,List.size_toArray,List.length_cons,List.length_nil,Nat.reduceAdd,Nat.reduceSub,Array.replicate_succ,Array.replicate_zero,List.push_toArray,List.append_toArray,List.nil_append,List.cons_append]
 gi_wp2
 go_ret
 exact ⟨rfl,rfl⟩
theorem Pm (F : Fence) (n : Nat) (h7 : F.fn 146) (hro : F.round = none) (hn : 1 ≤ n) (Bs n₀ cap : Nat) (A : Option Addr) (rs : List Rec) (w0 w : World) (hC : Kd.C Ca w0 A rs.length rs) (hw0 : w0.heap.size ≤ n₀) (hBn : Bs < n₀) (hn₀ : n₀ ≤ w.heap.size)
  (hb : Below w0.heap.size w0 w) (hc : w.cell? ⟨Bs,0,none⟩ = some (.slice A rs.length cap)) :
  SeqStopsK F n Tryz.prog 146 #[.pointer (some ⟨Bs,0,none⟩)] (fun x : JQ rs.length => #[Value.int .i64 (x.1 : Nat),(rc rs x.1).val]) (Below n₀) (fun ys => ys.map (·.1) = JU rs.length rs.length) (fun pre => ∃ k,k ≤ rs.length ∧ pre.map (·.1) = JU rs.length k) rs.length w:=fun l J Jx W hW _ _ hY h0 => by
 have hc':=(hW.cell (p:=⟨Bs,0,none⟩) (by show Bs < _;omega)).trans hc
 have hW' : Below w0.heap.size w0 W:=hb.trans (hW.mono hb.size)
 refine (WU F n h7 hro hn l Bs n₀ cap A rs w0 hC J Jx hw0 hBn hY W hc' hW' h0).mono ?_
 rintro e W' ⟨he,⟨ys,h1,h2⟩ | ⟨pre,h1,h2⟩⟩
 ·exact ⟨he, .inl ⟨ys,h1,h2⟩⟩
 ·exact ⟨he, .inr ⟨pre,h1,h2⟩⟩
theorem LZ {l : List Rec} {tx : Int} {n : Nat} : ∀ {k : Nat},k ≤ n → (∀ x ∈ JU n k,(rc l x).tx ≠ tx) → Ai l tx n = Ai l tx (n - k)
 | 0,_,_ => rfl
 | k + 1,hk,h => by
  rw [Gp] at h
  rw [LZ (k:=k) (by omega) (fun x hx => h x (List.mem_append_left _ hx))]
  have h1:=h (n - 1 - k) (by simp)
  rw [show n - k = (n - (k + 1)) + 1 by omega]
  rw [Ai,show n - (k + 1) = n - 1 - k by omega,if_neg h1]
end Go.Proofs.YtofgeajaajfiaaaGreat
namespace Go.Proofs.YtofgeajaajfiaaaGreat
open Go.RowKit Go.Shelf Go.Proofs.YtofgeajaajfiaaaGreatW.PrintWords Go.Proofs.YtofgeajaajfiaaaGreatW.PrintLast Go.Proofs.YtofgeajaajfiaaaGreatW.PrintMore
attribute [local go_sem] Oper.semAt_some
def Blk (W : World) (B : Nat) (t : TypeId) (cs : Array Value) : Prop:=W.heap[B]? = some (.cells cs t (0,0))
theorem Blk.lt {W : World} {B : Nat} {t : TypeId} {cs : Array Value} (h : Blk W B t cs) : B < W.heap.size:=(Array.getElem?_eq_some_iff.1 h).1
theorem UM {β : Type} (B : Nat) (t : TypeId) (f : β → Array Value) : Own (fun s W => Blk W B t (f s)):=fun s X Y row hs hg hrow =>
 (hg.block B hs.lt (fun e' => by obtain ⟨o,ho,hc⟩:=hrow B e'.symm;rw [show X.heap[B]? = _ from hs] at ho;cases ho;cases hc)).trans hs
theorem Blk.new (W : World) (t : TypeId) (cs : Array Value) : Blk (W.alloc (.cells cs t)) W.heap.size t cs:=World.alloc_heap_new W _
theorem Blk.recAt {W : World} {B : Nat} {t : TypeId} {r : Rec} (h : Blk W B t #[.int .i64 r.kind, .int .i64 r.tx, .int .i64 r.page, .int .i64 r.slot, .int .i64 r.old, .int .i64 r.new, .int .i64 r.prev, .int .i64 r.next]) : GA W ⟨B,0,none⟩ r:=by
 have hc : ∀ j u,(#[.int .i64 r.kind, .int .i64 r.tx, .int .i64 r.page, .int .i64 r.slot, .int .i64 r.old, .int .i64 r.new, .int .i64 r.prev, .int .i64 r.next] : Array Value)[j]? = some u → W.cell? ⟨B,j,none⟩ = some u:=fun j u hu => by
  rw [World.cell?,show W.heap[B]? = _ from h]
  simpa using hu
 exact ⟨hc 0 _ rfl,hc 1 _ rfl,hc 2 _ rfl,hc 3 _ rfl,hc 4 _ rfl,hc 5 _ rfl,hc 6 _ rfl,hc 7 _ rfl⟩
theorem Eu {B : Nat} {W W1 : World} (h : Below W.heap.size W W1) : KeepsFrom B W W1:=⟨h.size,fun k _ _ hk _ => (h.block k (Array.getElem?_eq_some_iff.1 hk).1).trans hk⟩
set_option maxRecDepth 100000 in
set_option maxHeartbeats 4000000 in
theorem JD {w0 w : World} {A : Option Addr} {c : Nat} {l : List Rec} (tx : Int) (hb : Below w0.heap.size w0 w) (hr : Kd.C Ca w0 A l.length l) : Calls Tryz.prog 82 #[.slice A l.length c, .int .i64 tx] w fun e w' => e = .returned (.int .i64 (Ai l tx l.length)) ∧ Below w.heap.size w w':=by
 have HR:=As hr
 have HB:=As hb
 have hm:=(Cg hr).2
 clear hr hb
 refine (callsIn_wide (n:=5)).1 ?_
 have hro : Fence.wide.round = none:=rfl
 have h1 : 1 ≤ 5:=by omega
 refine callsIn_of_wp_marks Tryz.func82 rfl trivial ?_ hro
 simp only [Tryz.ntmps82,List.size_toArray,List.length_cons,List.length_nil,Nat.reduceAdd,Nat.reduceSub,Array.replicate_succ,Array.replicate_zero,List.push_toArray,List.append_toArray,List.nil_append,List.cons_append]
 gi_wp2_with (refine ⟨trivial,?_⟩;gi_at_call 120;refine (UN Fence.wide _ trivial hro _ _ _ _).mono ?_;rintro e w' ⟨rfl,rfl⟩)
 have b3:=((Blk.new w 3 #[.int .i64 tx]) : Blk _ _ _ _)
 obtain ⟨W0,hW0⟩ : ∃ W0,((w.alloc (.cells #[.int .i64 tx] 3)).alloc (.cells #[.int .i64 0] 3)).alloc (.cells #[.slice A l.length c] 26) = W0:=⟨_,rfl⟩
 have hsz : W0.heap.size = w.heap.size + 3:=by rw [← hW0];simp
 have hB0 : Below w.heap.size w W0:=by rw [← hW0];exact (((Below.refl _ w).alloc (Nat.le_refl _) _).alloc (by simp) _).alloc (by simp;omega) _
 have bT : Blk W0 w.heap.size 3 #[.int .i64 tx]:=by
  rw [← hW0];exact ((Below.heap_alloc _ _ _ (by simp;omega)).trans (Below.heap_alloc _ _ _ (by simp))).trans (World.alloc_heap_new w _)
 have bR : Boxed W0 (w.heap.size + 1) 3 (.int .i64 0):=by
  rw [← hW0];refine (Below.heap_alloc _ _ _ (by simp)).trans ?_
  have:=World.alloc_heap_new (w.alloc (.cells #[.int .i64 tx] 3)) (.cells #[.int .i64 0] 3);rwa [World.size_alloc] at this
 have bS : W0.cell? ⟨w.heap.size + 1 + 1,0,none⟩ = some (.slice A l.length c):=by
  have : Boxed W0 (w.heap.size + 1 + 1) 26 (.slice A l.length c):=by
   rw [← hW0];have:=World.alloc_heap_new ((w.alloc (.cells #[.int .i64 tx] 3)).alloc (.cells #[.int .i64 0] 3)) (.cells #[.slice A l.length c] 26);rwa [World.size_alloc,World.size_alloc] at this
  exact this.cell
 rw [hW0]
 clear hW0 b3
 have hw0 : Below w0.heap.size w0 W0:=bj HB.out hB0
 have HSZ:=As hsz
 refine wpIn_rangeFunc_ownH (α:=JQ l.length) hro h1 (gf:=146) (lb:=#[.pointer (some ⟨w.heap.size + 1 + 1,0,none⟩)]) rfl trivial (enters_of Tryz.func146 (by kernel_rfl) rfl)
  (Pm Fence.wide _ trivial hro (by omega) (w.heap.size + 1 + 1) W0.heap.size c A l w0 W0 HR.out hw0.size (by omega) (Nat.le_refl _) hw0 bS) belowK_t (belowK_b (Nat.le_refl _)) (Below.refl _ _) (fun _ => rfl)
  (fun pre W => (∀ x ∈ pre,(rc l x.1).tx ≠ tx) ∧ Below W0.heap.size W0 W)
  (fun cc pre W => ((cc = .ret ∧ ∃ pre0 x,pre = pre0 ++ [x] ∧ (∀ y ∈ pre0,(rc l y.1).tx ≠ tx) ∧ (rc l x.1).tx = tx) ∧ (∃ x : JQ l.length,pre.getLast? = some x ∧ Boxed W (w.heap.size + 1) 3 (.int .i64 (if EO (rc l x.1).kind = true then 0 else (x.1 : Int) + 1)))) ∧ Below w.heap.size w W)
  (OwnFrom.and (ownFrom_pure _ _) (ownFrom_below (Nat.le_refl _) (Nat.le_refl _)))
  (fun cc => OwnFrom.and (OwnFrom.and (ownFrom_pure _ _) (fun s X Y row hs hg hr => by obtain ⟨x,e1,e2⟩:=hs;exact ⟨x,e1,boxed_own _ _ (fun (_ : Unit) => _) () X Y row e2 hg (fun r e => (hr r e).2)⟩)) (ownFrom_below (Nat.le_refl _) (by omega)))
  ⟨by simp,Below.refl _ _⟩
  (fun x a' W => ∃ Bx,W0.heap.size ≤ Bx ∧ Blk W Bx 73 #[.int .i64 (rc l x.1).kind, .int .i64 (rc l x.1).tx, .int .i64 (rc l x.1).page, .int .i64 (rc l x.1).slot, .int .i64 (rc l x.1).old, .int .i64 (rc l x.1).new, .int .i64 (rc l x.1).prev, .int .i64 (rc l x.1).next] ∧ a' = { tmps:=#[.slice A l.length c, .int .i64 tx,undef, .pointer (some ⟨w.heap.size,0,none⟩), .pointer (some ⟨w.heap.size + 1,0,none⟩), .int .i64 (x.1 : Nat), .pointer (some ⟨Bx,0,none⟩), .slice A l.length c, .func (.func 146) #[] #[.pointer (some ⟨w.heap.size + 1 + 1,0,none⟩)], .int .i64 (x.1 : Nat),(rc l x.1).val,undef,undef,undef,undef,undef,undef,undef,undef],defers := [] })
  (fun x a' _ X Y row hs hg hr => by obtain ⟨Bx,e1,e2,e3⟩:=hs;exact ⟨Bx,e1,UM Bx 73 (fun (_ : Unit) => #[.int .i64 (rc l x.1).kind, .int .i64 (rc l x.1).tx, .int .i64 (rc l x.1).page, .int .i64 (rc l x.1).slot, .int .i64 (rc l x.1).old, .int .i64 (rc l x.1).new, .int .i64 (rc l x.1).prev, .int .i64 (rc l x.1).next]) () X Y row e2 hg (fun r e => (hr r e).2),e3⟩)
  ?assign ?body ?done ?stop
 all_goals clear hsz
 case assign =>
  rintro lp pre x W K ⟨hp,hB1⟩ hK
  gi_wp2
  exact hK _ _ ((KeepsOthers.alloc _ _).from _) ((Below.refl _ W).alloc hB1.size _) ⟨hp,hB1.alloc hB1.size _⟩ ⟨W.heap.size,hB1.size,Blk.new W _ _,rfl⟩
 case body =>
  rintro lp pre x a' W hlp - ⟨hp,hB1⟩ ⟨Bx,hBx,bX,rfl⟩ hlt
  obtain ⟨g0,g1,g2,g3,g4,g5,g6,g7⟩:=bX.recAt
  have cT : W.cell? ⟨w.heap.size,0,none⟩ = some (.int .i64 tx):=(hB1.cell (p:=⟨w.heap.size,0,none⟩) (by show w.heap.size < _;have:=HSZ.out;omega)).trans (Boxed.cell bT)
  have bR1 : Boxed W (w.heap.size + 1) 3 (.int .i64 0):=(hB1.block _ (by have:=HSZ.out;omega)).trans bR
  have cR:=bR1.cell
  have fR:=bR1.frozen
  have h1' : 1 ≤ 5 - 1 - 1:=by omega
  have hxl : ((x.1 : Nat) : Int) < 9223372036854775807:=by have:=x.2;omega
  have hx0 : (0 : Int) ≤ ((x.1 : Nat) : Int):=Int.natCast_nonneg _
  rcases BQ (rc l x.1).tx tx with ⟨e1,b1,c1⟩ | ⟨e1,b1,c1⟩
  ·cases he : EO (rc l x.1).kind
   all_goals
    have HE:=As he
    clear he
    gi_wp2_with (refine ⟨trivial,?_⟩;gi_at_call 81;refine (CallsIn.inRound lp (callsIn_wide.2 (MP (r:=rc l x.1) HE.out _))).mono ?_;rintro e w1 ⟨rfl,hb1⟩;have cR1:=CV hb1 cR;have fR1:=(hb1.frozen (p:=⟨w.heap.size + 1,0,none⟩) (World.block_lt_of_cell? _ _ cR)).trans fR)
   ·refine ⟨(Eu hb1).trans ((KeepsOthers.setCell _ _ _).from _),⟨⟨rfl,pre,x,rfl,hp,e1.out⟩,x,by simp,?_⟩,((hB0.trans (hB1.mono hB0.size)).trans (hb1.mono ((hB0.trans (hB1.mono hB0.size)).size))).setCell (p:=⟨w.heap.size + 1,0,none⟩) (by simp) _⟩
    rw [HE.out,if_neg (by simp)]
    exact (show Boxed w1 (w.heap.size + 1) 3 (.int .i64 0) from (hb1.block _ bR1.lt).trans bR1).set _
   ·refine ⟨(Eu hb1).trans ((KeepsOthers.setCell _ _ _).from _),⟨⟨rfl,pre,x,rfl,hp,e1.out⟩,x,by simp,?_⟩,((hB0.trans (hB1.mono hB0.size)).trans (hb1.mono ((hB0.trans (hB1.mono hB0.size)).size))).setCell (p:=⟨w.heap.size + 1,0,none⟩) (by simp) _⟩
    rw [HE.out,if_pos rfl]
    exact (show Boxed w1 (w.heap.size + 1) 3 (.int .i64 0) from (hb1.block _ bR1.lt).trans bR1).set _
  ·gi_wp2
   exact ⟨KeepsFrom.refl _ _,Below.refl _ _,fun z hzl hz => (List.mem_append.1 hz).elim (hp ⟨z,hzl⟩) (fun e => by have e2:=List.mem_singleton.1 e;rw [← e2] at e1;exact e1.out),hB1⟩
 case done =>
  rintro D xs W hD hS ⟨hp,hB1⟩ hK
  have bR1 : Boxed W (w.heap.size + 1) 3 (.int .i64 0):=(hB1.block _ (by have:=HSZ.out;omega)).trans bR
  have cR:=bR1.cell
  have fR:=bR1.frozen
  gi_wp2
  have hK':=(KeepsOthers.setCell W ⟨w.heap.size + 1,0,none⟩ (.int .i64 0)).same D _ hK rfl
  refine ⟨by simp, .inl ⟨_,_,rfl,run_takeDeferred hK',?_⟩⟩
  have hc5:=cell_kept (bR1.set (.int .i64 0)).cell (grownBy_putObj' _ D (.deferred none)) (fun r e => by cases e;exact ⟨_,hK',rfl⟩)
  refine ⟨.int .i64 0,?_,?_,((hB0.trans (hB1.mono hB0.size)).setCell (p:=⟨w.heap.size + 1,0,none⟩) (by simp) _).trans (belowK_b (w:=w) (Nat.le_refl _) _ D _ _ (by have:=HSZ.out;omega) hK' rfl rfl)⟩
  ·simp [results,Tryz.f82,go_sem,hc5]
  ·refine EF ?_
   have:=LZ (l:=l) (tx:=tx) (Nat.le_refl _) (fun y hy => by
    rw [← hS] at hy
    obtain ⟨z,hz,rfl⟩:=List.mem_map.1 hy
    exact hp z hz)
   rw [this,Nat.sub_self]
   rfl
 case stop =>
  rintro D cc pre W hD ⟨k,hk,hpk⟩ ⟨⟨⟨rfl,pre0,x,rfl,hp,hx⟩,x',hl',bR1⟩,hB1⟩ hK
  obtain rfl : x = x':=by simpa using hl'
  gi_wp2
  refine ⟨by simp, .inl ⟨_,_,rfl,run_takeDeferred hK,?_⟩⟩
  have hc5:=cell_kept bR1.cell (grownBy_putObj' _ D (.deferred none)) (fun r e => by cases e;exact ⟨_,hK,rfl⟩)
  refine ⟨.int .i64 (if EO (rc l x.1).kind = true then 0 else (x.1 : Int) + 1),?_,?_,hB1.trans (belowK_b (w:=w) (Nat.le_refl _) W D _ _ (by have:=HSZ.out;omega) hK rfl rfl)⟩
  ·simp [results,Tryz.f82,go_sem,hc5]
  ·refine EF ?_
   rw [List.map_append,List.map_cons,List.map_nil] at hpk
   have hkl : k = pre0.length + 1:=by
    have:=congrArg List.length hpk
    rw [G7] at this
    simp at this
    omega
   subst hkl
   rw [Gp] at hpk
   obtain ⟨h2,h3⟩:=List.append_inj hpk (by simp [G7])
   have hx2 : x.1 = l.length - 1 - pre0.length:=by simpa using h3
   have:=LZ (l:=l) (tx:=tx) (n:=l.length) (k:=pre0.length) (by omega) (fun y hy => by
    rw [← h2] at hy
    obtain ⟨z,hz,rfl⟩:=List.mem_map.1 hy
    exact hp z hz)
   rw [this,show l.length - pre0.length = x.1 + 1 by have:=x.2;omega,Ai,if_pos hx]
   split <;> simp
theorem GZ {w0 w : World} {A : Option Addr} {c m : Nat} {l : List Rec} {tx : Int} (h : Ai l tx l.length = m) (hb : Below w0.heap.size w0 w) (hr : Kd.C Ca w0 A l.length l) : Calls Tryz.prog 82 #[.slice A l.length c, .int .i64 tx] w fun e w' => e = .returned (.int .i64 m) ∧ Below w.heap.size w w':=(JD tx hb hr).mono fun _ _ x => ⟨h ▸ x.1,x.2⟩
end Go.Proofs.YtofgeajaajfiaaaGreat
