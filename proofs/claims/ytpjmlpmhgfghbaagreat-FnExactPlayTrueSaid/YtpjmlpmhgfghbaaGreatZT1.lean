/- A part of the proof: what the last text of the claim says leans on this one. -/
import Derived.Test.YtpjmlpmhgfghbaaGreatRows
import Derived.WalkKit
import Derived.ProofKit
import Derived.JoinedOf
import Derived.Test.YtpjmlpmhgfghbaaGreatProg
import Derived.Below
import Derived.Deep.Draws
import Derived.Deep.AppendLies
import Derived.Maps.AppendAt
import Derived.OwnWalk
import Derived.Laws.BytesArg
import Derived.Laws.MakeOwn
import Derived.Laws.OwnMore
import Derived.Deep.OwnRows
import Derived.Tactics
import Derived.Lib.ConvBytes
import Derived.Lib.Hide
import Derived.Laws.Slices
import Derived.KernelRfl
import Derived.RowKit3
import Derived.Deep.LoopGhost
import Derived.Deep.QuietTactic
import Derived.BigQuiet
import Derived.WideLaws
import Derived.Deep.DeepCutAuto
import Derived.Deep.CutBlock
import Derived.Deep.RegionHeld3
import Derived.Deep.RegionWith
import Derived.Laws.Rows
import Derived.Lib.AppendStr
import Derived.ArgAppend
import Derived.Laws.IdiomCopy
import Derived.OrdersHeld
import Derived.Laws.BitsLemmas
import Derived.RowKit
import Derived.Outline
import Derived.Test.YtpjmlpmhgfghbaaGreatVWWords
import Derived.Test.YtpjmlpmhgfghbaaGreatVWLast
import Derived.Test.YtpjmlpmhgfghbaaGreatVWApart
import Derived.Test.YtpjmlpmhgfghbaaGreatVWMore
import Derived.IntWalk
import Derived.Test.YtpjmlpmhgfghbaaGreatVShelf
import Derived.Lib.Bytes
import Derived.Handy
set_option linter.unusedVariables false
set_option linter.unusedSimpArgs false
/- What every row of this program asks of its head. -/
namespace Go.Proofs.YtpjmlpmhgfghbaaGreat
/-- The words of the program's head. -/
def JV : List Char:=([104,97,114,110,101,115,115] : List Nat).map Char.ofNat
def JU : List Char:=([54,53,57,99,52,98,51,50,102,102,53,48,102,97,57,51,102,54,100,53,48,51,54,49,101,50,57,57,101,57,100,57,49,48,98,56,50,48,97,52,57,97,100,101,49,48,97,99,98,97,98,55,56,54,53,99,48,101,49,49,49,54,98,57] : List Nat).map Char.ofNat
def Ec : List Char:=([99,117,116] : List Nat).map Char.ofNat
def Fp : List Char:=([97,116] : List Nat).map Char.ofNat
def Ra : List Char:=([108,111,111,112,46,101,120,97,109,112,108,101,47,116,97,98,117,108,97,114,105,117,109,47,108,97,119,115,46,70,110,82,117,110,67,117,116,32,108,111,111,112,46,101,120,97,109,112,108,101,47,116,97,98,117,108,97,114,105,117,109,47,108,97,119,115,46,70,110,69,120,97,99,116,82,105,115,101,85,112,32,108,111,111,112,46,101,120,97,109,112,108,101,47,116,97,98,117,108,97,114,105,117,109,47,108,97,119,115,46,70,110,69,120,97,99,116,80,108,97,121,84,114,117,101,32,108,111,111,112,46,101,120,97,109,112,108,101,47,116,97,98,117,108,97,114,105,117,109,47,108,97,119,115,46,70,110,69,120,97,99,116,80,108,97,121,82,117,110] : List Nat).map Char.ofNat
def gap : Char:=Char.ofNat 32
def Mh : List Char:=JV ++ gap :: (JU ++ gap :: (Ec ++ gap :: (Fp ++ gap :: Ra)))
theorem WI : Tryz.prog.initOrder = String.ofList Mh:=by kernel_rfl
theorem V5 : Tryz.prog.initOrder.toList = Mh:=by rw [WI,String.toList_ofList]
theorem Gz : ∀ (w r : List Char),(w.all fun c => c != gap) = true → wordsSigns (w ++ gap :: r) = w :: wordsSigns r
  | [],r,_ => rfl
  | c :: w,r,h => by
    simp only [List.all_cons,Bool.and_eq_true,bne_iff_ne,ne_eq] at h
    have hne : c ≠ gap:=h.1
    have ih:=Gz w r (by simpa using h.2)
    show wordsSigns (c :: (w ++ gap :: r)) = _
    rw [wordsSigns.eq_3 _ _ (by intro e;exact hne e),ih]
theorem Nt : wordsSigns Tryz.prog.initOrder.toList = JV :: JU :: Ec :: Fp :: wordsSigns Ra:=by
  rw [V5,Mh,Gz _ _ (by kernel_rfl),Gz _ _ (by kernel_rfl),Gz _ _ (by kernel_rfl),Gz _ _ (by kernel_rfl)]
theorem Ir (ws : List (List Char)) : behindMainWord (JV :: JU :: Ec :: Fp :: ws) = Ec :: Fp :: ws:=by kernel_rfl
theorem Ns (ws : List (List Char)) : stripLifts liftWords (Ec :: Fp :: ws) = ([],Ec :: Fp :: ws):=by kernel_rfl
theorem Ny : Ec = "cut".toList:=by kernel_rfl
/-- Of any program with such a head: nothing of it is looked into. -/
theorem Pv {P : Program} {r : List (List Char)} (h : wordsSigns P.initOrder.toList = JV :: JU :: Ec :: Fp :: r) (h1 : P.laysLater = false) (h2 : P.bearsReflect = false) (h3 : P.doorFits [] = true) : P.mayEnter = true:=by
  unfold Program.mayEnter
  rw [h,Ir]
  simp only [Ns,h1,h2,h3]
  simp [Ny]
theorem Vq {P : Program} {r : List (List Char)} (h : wordsSigns P.initOrder.toList = JV :: JU :: Ec :: Fp :: r) : P.liftsFinal = false:=by
  unfold Program.liftsFinal Program.headLifts
  rw [h,Ir]
  simp only [Ns]
  simp [Ny]
theorem Wz {P : Program} {r : List (List Char)} (h : wordsSigns P.initOrder.toList = JV :: JU :: Ec :: Fp :: r) : P.make = some Make.cut:=by
  unfold Program.make
  rw [h,Ir]
  simp [Ny]
theorem RY : Tryz.prog.laysLater = false:=by kernel_rfl
theorem Ow : Tryz.prog.bearsReflect = false:=by kernel_rfl
theorem UD : Tryz.prog.doorFits [] = true:=by kernel_rfl
theorem Uw : Tryz.prog.mayEnter = true:=Pv Nt RY Ow UD
theorem QY : Tryz.prog.liftsFinal = false:=Vq Nt
theorem Vo : Tryz.prog.make = some Make.cut:=Wz Nt
open Go.RowKit Go.Proofs.YtpjmlpmhgfghbaaGreatW.PrintWords Go.Proofs.YtpjmlpmhgfghbaaGreatW.PrintLast Go.Proofs.YtpjmlpmhgfghbaaGreatW.PrintMore
theorem sc0 {α : Type _} {a b : α} {l : List α} : (a :: l).set 0 b = b :: l:=rfl
theorem sc1 {α : Type _} {a b : α} {l : List α} {n : Nat} : (a :: l).set (n + 1) b = a :: l.set n b:=rfl
theorem As {p : Prop} (h : p) : Ac p:=⟨h⟩
/-- A page: the number of its last record, whose it is, its slots. -/
structure Page where
  lsn : Int
  owner : Int
  vals : List Int
/-- A log record. -/
structure Rec where
  kind : Int
  tx : Int
  page : Int
  slot : Int
  old : Int
  new : Int
  prev : Int
  next : Int
/-- An engine. -/
structure Eng where
  disk : List Page
  mem : List Page
  log : List Rec
  safe : Int
  down : Bool
/-- An event. -/
structure Evt where
  kind : Int
  tx : Int
  page : Int
  slot : Int
  n : Int
  vals : List Int
def z0 : Page:=⟨0,0, []⟩
def r0 : Rec:=⟨0,0,0,0,0,0,0,0⟩
def v0 : Evt:=⟨0,0,0,0,0, []⟩
def Dn : Kd Page:=Kd.iso (Kd.pair (Kd.int .i64) (Kd.pair (Kd.int .i64) (Kd.slice 3 (Kd.int .i64)))) (fun x => (x.lsn,x.owner,x.vals))
def Ca : Kd Rec:=Kd.iso (Kd.pair (Kd.int .i64) (Kd.pair (Kd.int .i64) (Kd.pair (Kd.int .i64) (Kd.pair (Kd.int .i64) (Kd.pair (Kd.int .i64) (Kd.pair (Kd.int .i64) (Kd.pair (Kd.int .i64) (Kd.int .i64)))))))) (fun x => (x.kind,x.tx,x.page,x.slot,x.old,x.new,x.prev,x.next))
def Ik : Kd Evt:=Kd.iso (Kd.pair (Kd.int .i64) (Kd.pair (Kd.int .i64) (Kd.pair (Kd.int .i64) (Kd.pair (Kd.int .i64) (Kd.pair (Kd.int .i64) (Kd.slice 3 (Kd.int .i64))))))) (fun x => (x.kind,x.tx,x.page,x.slot,x.n,x.vals))
/-- A record's, a page's cells. -/
abbrev Rec.cells (r : Rec) : List Value := [.int .i64 r.kind, .int .i64 r.tx, .int .i64 r.page, .int .i64 r.slot, .int .i64 r.old, .int .i64 r.new, .int .i64 r.prev, .int .i64 r.next]
theorem OZ {w : World} {x : Rec} {cs : List Value} (h : Ca.K w x cs) : cs = x.cells:=by
  obtain ⟨_,_,rfl,rfl,⟨_,_,rfl,rfl,⟨_,_,rfl,rfl,⟨_,_,rfl,rfl,⟨_,_,rfl,rfl,⟨_,_,rfl,rfl,⟨_,_,rfl,rfl,rfl⟩⟩⟩⟩⟩⟩⟩:=h
  exact rfl
theorem Sb {w : World} {x : Page} {cs : List Value} (h : Dn.K w x cs) : ∃ A c,cs = [.int .i64 x.lsn, .int .i64 x.owner, .slice A x.vals.length c] ∧ x.vals.length ≤ c ∧ (Kd.int .i64).C w A x.vals.length x.vals:=by
  obtain ⟨_,_,rfl,rfl,⟨_,_,rfl,rfl,⟨A2,c2,rfl,l2,g2⟩⟩⟩:=h
  exact ⟨A2,c2,rfl,l2,g2⟩
theorem MO {w : World} {base : Nat} {ok : Nat → Prop} {x : Page} {cs : List Value} (h : Dn.M w base ok x cs) : ∃ v,cs = [.int .i64 x.lsn, .int .i64 x.owner,v] ∧ (Kd.int .i64).R 3 w base ok v x.vals:=by
  obtain ⟨_,_,rfl,rfl,⟨_,_,rfl,rfl,⟨v2,rfl,g2⟩⟩⟩:=h
  exact ⟨v2,rfl,g2⟩
theorem FQ (w : World) (base : Nat) (ok : Nat → Prop) (x : Page) {v : Value} (g2 : (Kd.int .i64).R 3 w base ok v x.vals) : Dn.M w base ok x [.int .i64 x.lsn, .int .i64 x.owner,v]:=⟨[.int .i64 x.lsn], [.int .i64 x.owner,v],rfl,rfl,⟨[.int .i64 x.owner], [v],rfl,rfl,⟨v,rfl,g2⟩⟩⟩
theorem Uz {w : World} {x : Evt} {cs : List Value} (h : Ik.K w x cs) : ∃ A c,cs = [.int .i64 x.kind, .int .i64 x.tx, .int .i64 x.page, .int .i64 x.slot, .int .i64 x.n, .slice A x.vals.length c] ∧ x.vals.length ≤ c ∧ (Kd.int .i64).C w A x.vals.length x.vals:=by
  obtain ⟨_,_,rfl,rfl,⟨_,_,rfl,rfl,⟨_,_,rfl,rfl,⟨_,_,rfl,rfl,⟨_,_,rfl,rfl,⟨A2,c2,rfl,l2,g2⟩⟩⟩⟩⟩⟩:=h
  exact ⟨A2,c2,rfl,l2,g2⟩
/-- A list's element. -/
def rc (l : List Rec) (k : Nat) : Rec:=l.getD k r0
def pg (l : List Page) (k : Nat) : Page:=l.getD k z0
def iv (l : List Int) (k : Nat) : Int:=l.getD k 0
def ev (l : List Evt) (k : Nat) : Evt:=l.getD k v0
/-- A record's cells at an address, as the walk spells them; a page's. -/
structure FZ (w : World) (a : Addr) (r : Rec) : Prop where
  c0 : w.cell? a = some (.int .i64 r.kind)
  c1 : w.cell? ⟨a.block,a.off + 1,none⟩ = some (.int .i64 r.tx)
  c2 : w.cell? ⟨a.block,a.off + 2,none⟩ = some (.int .i64 r.page)
  c3 : w.cell? ⟨a.block,a.off + 3,none⟩ = some (.int .i64 r.slot)
  c4 : w.cell? ⟨a.block,a.off + 4,none⟩ = some (.int .i64 r.old)
  c5 : w.cell? ⟨a.block,a.off + 5,none⟩ = some (.int .i64 r.new)
  c6 : w.cell? ⟨a.block,a.off + 6,none⟩ = some (.int .i64 r.prev)
  c7 : w.cell? ⟨a.block,a.off + 7,none⟩ = some (.int .i64 r.next)
structure KP (w : World) (a : Addr) (p : Page) (A : Option Addr) (c : Nat) : Prop where
  c0 : w.cell? a = some (.int .i64 p.lsn)
  c1 : w.cell? ⟨a.block,a.off + 1,none⟩ = some (.int .i64 p.owner)
  c2 : w.cell? ⟨a.block,a.off + 2,none⟩ = some (.slice A p.vals.length c)
theorem bc {w0 w : World} (h : Below w0.heap.size w0 w) {a : Addr} {v : Value} (hc : w0.cell? a = some v) : w.cell? a = some v:=CB h hc
theorem FZ.up {w0 w : World} {a : Addr} {r : Rec} (h : FZ w0 a r) (hb : Below w0.heap.size w0 w) : FZ w a r:=
  ⟨bc hb h.c0,bc hb h.c1,bc hb h.c2,bc hb h.c3,bc hb h.c4,bc hb h.c5,bc hb h.c6,bc hb h.c7⟩
theorem KP.up {w0 w : World} {a : Addr} {p : Page} {A : Option Addr} {c : Nat} (h : KP w0 a p A c) (hb : Below w0.heap.size w0 w) : KP w a p A c:=
  ⟨bc hb h.c0,bc hb h.c1,bc hb h.c2⟩
theorem Ce {w : World} {A : Option Addr} {n : Nat} {xs : List Rec} (h : Kd.C Ca w A n xs) (i : Nat) (h1 : i < n) : ∃ ad,A = some ad ∧ FZ w (ad.add (i * 8)) (rc xs i):=by
  obtain ⟨ad,c,e,_,hK,hc0⟩:=Kd.U6 h r0 (i : Int) (by omega) (by omega)
  have hc : ∀ j u,c[j]? = some u → w.cell? (ad.add (i * 8 + j)) = some u:=hc0
  obtain rfl:=OZ hK
  exact ⟨ad,e,hc 0 _ rfl,by rw [← D8 _ _ 1 (by omega)];exact hc 1 _ rfl,by rw [← D8 _ _ 2 (by omega)];exact hc 2 _ rfl,by rw [← D8 _ _ 3 (by omega)];exact hc 3 _ rfl,by rw [← D8 _ _ 4 (by omega)];exact hc 4 _ rfl,by rw [← D8 _ _ 5 (by omega)];exact hc 5 _ rfl,by rw [← D8 _ _ 6 (by omega)];exact hc 6 _ rfl,by rw [← D8 _ _ 7 (by omega)];exact hc 7 _ rfl⟩
theorem EP {w : World} {A : Option Addr} {n : Nat} {xs : List Page} (h : Kd.C Dn w A n xs) (i : Nat) (h1 : i < n) : ∃ ad A2 c2,A = some ad ∧ KP w (ad.add (i * 3)) (pg xs i) A2 c2 ∧ (pg xs i).vals.length ≤ c2 ∧ (Kd.int .i64).C w A2 (pg xs i).vals.length (pg xs i).vals:=by
  obtain ⟨ad,c,e,_,hK,hc0⟩:=Kd.U6 h z0 (i : Int) (by omega) (by omega)
  have hc : ∀ j u,c[j]? = some u → w.cell? (ad.add (i * 3 + j)) = some u:=hc0
  obtain ⟨A2,c2,rfl,l2,g2⟩:=Sb hK
  exact ⟨ad,A2,c2,e,⟨hc 0 _ rfl,by rw [← D8 _ _ 1 (by omega)];exact hc 1 _ rfl,by rw [← D8 _ _ 2 (by omega)];exact hc 2 _ rfl⟩,l2,g2⟩
theorem Dg {w : World} {A : Option Addr} {n : Nat} {xs : List Int} (h : Kd.C (Kd.int .i64) w A n xs) (i : Nat) (h1 : i < n) : ∃ ad,A = some ad ∧ w.cell? (ad.add i) = some (.int .i64 (iv xs i)):=by
  obtain ⟨ad,c,e,_,hK,hc0⟩:=Kd.U6 h 0 (i : Int) (by omega) (by omega)
  have hc : ∀ j u,c[j]? = some u → w.cell? (ad.add (i * 1 + j)) = some u:=hc0
  obtain rfl : c = [.int .i64 (iv xs i)]:=hK
  have:=hc 0 _ rfl
  rw [Nat.mul_one,Nat.add_zero] at this
  exact ⟨ad,e,this⟩
/-- What a record in a parameter looks like; a page. -/
abbrev Rec.val (r : Rec) : Value:=.agg #[.int .i64 r.kind, .int .i64 r.tx, .int .i64 r.page, .int .i64 r.slot, .int .i64 r.old, .int .i64 r.new, .int .i64 r.prev, .int .i64 r.next]
theorem CJ {α : Type} {d : Kd α} {w : World} {A : Option Addr} {n : Nat} {xs : List α} (h : Kd.C d w A n xs) : xs.length = n ∧ n ≤ 9223372036854775807:=⟨h.1,h.2.1⟩
theorem AB {a b : Bool} (h : a = b) : Ending.returned (.bool a) = .returned (.bool b):=by rw [h]
theorem Cs {k : IntKind} {a b : Int} (h : a = b) : Ending.returned (.int k a) = .returned (.int k b):=by rw [h]
/-- All that lay below a base world is as it was. -/
theorem bj {w0 w w' : World} (h : Below w0.heap.size w0 w) (k : Below w.heap.size w w') : Below w0.heap.size w0 w':=Sv h h.size k
theorem Bu {α : Type} {d : Kd α} {w0 w : World} {A : Option Addr} {n : Nat} {xs : List α} (h : Kd.C d w0 A n xs) (hb : Below w0.heap.size w0 w) : Kd.C d w A n xs:=Kd.U7 h hb
/-- A test, decided: for the eye, and for the walk. -/
theorem BO (a b : Int) : (Ac (a = b) ∧ (a == b) = true ∧ (a != b) = false) ∨ (Ac (a ≠ b) ∧ (a == b) = false ∧ (a != b) = true):=by
  by_cases h : a = b
  · exact .inl ⟨⟨h⟩,by simp [h],by simp [h]⟩
  · exact .inr ⟨⟨h⟩,by simp [h],by simp [h]⟩
theorem lts (a b : Int) : (Ac (a < b) ∧ decide (a < b) = true ∧ decide (b ≤ a) = false) ∨ (Ac (b ≤ a) ∧ decide (a < b) = false ∧ decide (b ≤ a) = true):=by
  by_cases h : a < b
  · exact .inl ⟨⟨h⟩,by simp [h],by simp;omega⟩
  · exact .inr ⟨⟨by omega⟩,by simp;omega,by simp;omega⟩
def inB (a b c : Int) : Bool:=decide (b ≤ a) && decide (a ≤ c)
theorem Dj {a b c : Int} : inB a b c = true ↔ b ≤ a ∧ a ≤ c:=by simp [inB]
theorem Cc (a b c : Int) (w : World) : Calls Tryz.prog 77 #[.int .i64 a, .int .i64 b, .int .i64 c] w fun e w' => e = .returned (.bool (inB a b c)) ∧ w = w':=by
  go_enter Tryz.func77,Tryz.ntmps77
  go_wp2 <;> (go_ret;exact ⟨by simp [inB];try omega,rfl⟩)
theorem Ei (a b c : Int) (w : World) : Calls Tryz.prog 77 #[.int .i64 a, .int .i64 b, .int .i64 c] w fun e w' => e = .returned (.bool (inB a b c)) ∧ w' = w:=(Cc a b c w).mono fun _ _ h => ⟨h.1,h.2.symm⟩
theorem BL (a b c : Int) (w : World) : Calls Tryz.prog 55 #[.int .i64 a, .int .i64 b, .int .i64 c] w fun e w' => e = .returned (.bool (inB a b c)) ∧ w = w':=by
  go_enter Tryz.func55,Tryz.ntmps55
  go_wp2 <;> (go_ret;exact ⟨by simp [inB];try omega,rfl⟩)
theorem Bv (a : Int) (w : World) : Calls Tryz.prog 156 #[.int .i64 a] w fun e w' => e = .returned (.bool (inB a 0 4)) ∧ w = w':=by
  go_enter Tryz.func156,Tryz.ntmps156
  go_wp2_with (go_at_call 77;refine (Cc _ _ _ _).mono ?_;rintro e w' ⟨rfl,rfl⟩)
  go_ret
  exact ⟨rfl,rfl⟩
theorem C8 (a : Int) (w : World) : Calls Tryz.prog 173 #[.int .i64 a] w fun e w' => e = .returned (.bool (inB a 1 3)) ∧ w = w':=by
  go_enter Tryz.func173,Tryz.ntmps173
  go_wp2_with (go_at_call 77;refine (Cc _ _ _ _).mono ?_;rintro e w' ⟨rfl,rfl⟩)
  go_ret
  exact ⟨rfl,rfl⟩
/-- Does a record change a page, end a transaction? -/
def Cx (k : Int) : Bool:=k == 1 || k == 2 || k == 6
def ED (k : Int) : Bool:=k == 4 || k == 5
theorem Ov (r : Rec) (w : World) : Calls Tryz.prog 105 #[r.val] w fun e w' => e = .returned (.bool (Cx r.kind)) ∧ Below w.heap.size w w':=by
  go_enter Tryz.func105,Tryz.ntmps105
  go_wp2 <;> (go_ret;exact ⟨by simp [Cx, *],(Below.refl _ _).alloc (Nat.le_refl _) _⟩)
theorem Sq (r : Rec) (w : World) : Calls Tryz.prog 133 #[r.val] w fun e w' => e = .returned (.bool (ED r.kind)) ∧ Below w.heap.size w w':=by
  go_enter Tryz.func133,Tryz.ntmps133
  go_wp2 <;> (go_ret;exact ⟨by simp [ED, *],(Below.refl _ _).alloc (Nat.le_refl _) _⟩)
theorem Nc (k : Int) (w : World) : Calls Tryz.prog 159 #[.int .i64 k] w fun e w' => e = .returned (.bool (Cx k)) ∧ w = w':=by
  go_enter Tryz.func159,Tryz.ntmps159
  go_wp2 <;> (go_ret;exact ⟨by simp [Cx, *],rfl⟩)
theorem Fj {k : Int} {b : Bool} (h : Cx k = b) (w : World) : Calls Tryz.prog 159 #[.int .i64 k] w fun e w' => e = .returned (.bool b) ∧ w = w':=(Nc k w).mono fun _ _ x => ⟨h ▸ x.1,x.2⟩
theorem EX {r : Rec} {b : Bool} (h : Cx r.kind = b) (w : World) : Calls Tryz.prog 105 #[r.val] w fun e w' => e = .returned (.bool b) ∧ Below w.heap.size w w':=(Ov r w).mono fun _ _ x => ⟨h ▸ x.1,x.2⟩
theorem LB {r : Rec} {b : Bool} (h : ED r.kind = b) (w : World) : Calls Tryz.prog 133 #[r.val] w fun e w' => e = .returned (.bool b) ∧ Below w.heap.size w w':=(Sq r w).mono fun _ _ x => ⟨h ▸ x.1,x.2⟩
theorem TI {a b c : Int} {t : Bool} (h : inB a b c = t) (w : World) : Calls Tryz.prog 77 #[.int .i64 a, .int .i64 b, .int .i64 c] w fun e w' => e = .returned (.bool t) ∧ w' = w:=(Cc a b c w).mono fun _ _ x => ⟨h ▸ x.1,x.2.symm⟩
/-- Is a record ok? -/
def CS (r : Rec) : Bool:=
  (if r.kind = 1 then inB r.page 0 4 && inB r.slot 0 2 && inB r.old 0 (if r.slot = -1 then 3 else 9) && inB r.new 0 (if r.slot = -1 then 3 else 9) && r.next == 0
   else if r.kind = 2 then inB r.page 0 4 && r.slot == -1 && inB r.old 0 (if r.slot = -1 then 3 else 9) && inB r.new 0 (if r.slot = -1 then 3 else 9) && r.next == 0
   else if r.kind = 3 then inB r.page 0 4 && r.slot == 0 && r.old == 0 && r.new == 0 && r.next == 0
   else if r.kind = 4 then r.page == 0 && r.slot == 0 && r.old == 0 && r.new == 0 && r.next == 0
   else if r.kind = 5 then r.page == 0 && r.slot == 0 && r.old == 0 && r.new == 0 && r.next == 0
   else if r.kind = 6 then inB r.page 0 4 && inB r.slot (-1) 2 && r.old == 0 && inB r.new 0 (if r.slot = -1 then 3 else 9) && inB r.next 0 150
   else false) && inB r.tx 1 3 && inB r.prev 0 150
theorem D7 {r : Rec} : CS r = true ↔ ((r.kind = 1 ∧ 0 ≤ r.page ∧ r.page ≤ 4 ∧ 0 ≤ r.slot ∧ r.slot ≤ 2 ∧ 0 ≤ r.old ∧ r.old ≤ 9 ∧ 0 ≤ r.new ∧ r.new ≤ 9 ∧ r.next = 0) ∨
    (r.kind = 2 ∧ 0 ≤ r.page ∧ r.page ≤ 4 ∧ r.slot = -1 ∧ 0 ≤ r.old ∧ r.old ≤ 3 ∧ 0 ≤ r.new ∧ r.new ≤ 3 ∧ r.next = 0) ∨
    (r.kind = 3 ∧ 0 ≤ r.page ∧ r.page ≤ 4 ∧ r.slot = 0 ∧ r.old = 0 ∧ r.new = 0 ∧ r.next = 0) ∨
    ((r.kind = 4 ∨ r.kind = 5) ∧ r.page = 0 ∧ r.slot = 0 ∧ r.old = 0 ∧ r.new = 0 ∧ r.next = 0) ∨
    (r.kind = 6 ∧ 0 ≤ r.page ∧ r.page ≤ 4 ∧ -1 ≤ r.slot ∧ r.slot ≤ 2 ∧ r.old = 0 ∧ 0 ≤ r.new ∧ (r.slot = -1 → r.new ≤ 3) ∧ r.new ≤ 9 ∧ 0 ≤ r.next ∧ r.next ≤ 150)) ∧ 1 ≤ r.tx ∧ r.tx ≤ 3 ∧ 0 ≤ r.prev ∧ r.prev ≤ 150:=by
  unfold CS
  by_cases hs : r.slot = -1
  · rw [if_pos hs]
    by_cases k1 : r.kind = 1
    · simp [inB,k1];omega
    by_cases k2 : r.kind = 2
    · simp [inB,k2];omega
    by_cases k3 : r.kind = 3
    · simp [inB,k3];omega
    by_cases k4 : r.kind = 4
    · simp [inB,k4];omega
    by_cases k5 : r.kind = 5
    · simp [inB,k5];omega
    by_cases k6 : r.kind = 6
    · simp [inB,k6];omega
    simp [k1,k2,k3,k4,k5,k6]
  · rw [if_neg hs]
    by_cases k1 : r.kind = 1
    · simp [inB,k1];omega
    by_cases k2 : r.kind = 2
    · simp [inB,k2];omega
    by_cases k3 : r.kind = 3
    · simp [inB,k3];omega
    by_cases k4 : r.kind = 4
    · simp [inB,k4];omega
    by_cases k5 : r.kind = 5
    · simp [inB,k5];omega
    by_cases k6 : r.kind = 6
    · simp [inB,k6];omega
    simp [k1,k2,k3,k4,k5,k6]
/-- The record that undoes one. -/
def Bj (r : Rec) (prev : Int) : Rec:=⟨6,r.tx,r.page,r.slot,0,r.old,prev,r.prev⟩
theorem O1 (r : Rec) (n : Int) (w : World) : Calls Tryz.prog 110 #[r.val, .int .i64 n] w fun e w' => e = .returned (Bj r n).val ∧ Below w.heap.size w w':=by
  go_enter Tryz.func110,Tryz.ntmps110
  go_wp2
  exact bodyPost_ret (v:=(Bj r n).val) (by simp [results,Tryz.results110,go_sem,Bj]) rfl ⟨rfl,(((Below.refl _ _).alloc (Nat.le_refl _) _).alloc (by simp) _)⟩
/-- The number of the last record of tx among the first n; 0 if that ends it. -/
def Aj (l : List Rec) (tx : Int) : Nat → Nat
  | 0 => 0
  | n + 1 => if (rc l n).tx = tx then (if ED (rc l n).kind = true then 0 else n + 1) else Aj l tx n
theorem IL {w0 w : World} {A : Option Addr} {n c : Nat} {l : List Rec} (tx : Int) (hb : Below w0.heap.size w0 w) (hr : Kd.C Ca w0 A n l) : Calls Tryz.prog 115 #[.slice A n c, .int .i64 tx] w fun e w' => e = .returned (.int .i64 (Aj l tx n)) ∧ w = w':=by
  have HR:=As (Bu hr hb)
  have hm:=(CJ hr).2
  clear hr hb
  go_enter Tryz.func115,Tryz.ntmps115
  go_wp2
  go_loop [5] (fun i => ∃ k : Nat,k ≤ n ∧ i = .int .i64 ((k : Int) - 1) ∧ Ac (Aj l tx n = Aj l tx k)) (fun i => (intOf i + 1).toNat)
  case atStart => exact ⟨n,Nat.le_refl _,rfl,⟨rfl⟩⟩
  case round =>
    obtain ⟨k,hk,rfl,HL⟩:=hrel
    rcases k with _ | k
    · go_wp2
      go_ret
      exact ⟨by rw [HL.out];rfl,rfl⟩
    · obtain ⟨ad,rfl,⟨g0,g1,g2,g3,g4,g5,g6,g7⟩⟩:=Ce HR.out k (by omega)
      rcases BO (rc l k).tx tx with ⟨e1,b1,c1⟩ | ⟨e1,b1,c1⟩
      · rcases BO (rc l k).kind 4 with ⟨e2,b2,c2⟩ | ⟨e2,b2,c2⟩
        · go_wp2
          go_ret
          exact ⟨by rw [HL.out];simp [Aj,ED,e1.out,e2.out],rfl⟩
        · rcases BO (rc l k).kind 5 with ⟨e3,b3,c3⟩ | ⟨e3,b3,c3⟩
          · go_wp2
            go_ret
            exact ⟨by rw [HL.out];simp [Aj,ED,e1.out,e3.out],rfl⟩
          · go_wp2
            go_ret
            exact ⟨by rw [HL.out];simp [Aj,ED,e1.out,e2.out,e3.out],rfl⟩
      · go_wp2
        go_round
        case rel => exact ⟨k,by omega,by go_num,⟨by rw [HL.out];simp [Aj,e1.out]⟩⟩
        case measure => simp [intOf]
theorem Du {w0 w : World} {A : Option Addr} {n c m : Nat} {l : List Rec} {tx : Int} (h : Aj l tx n = m) (hb : Below w0.heap.size w0 w) (hr : Kd.C Ca w0 A n l) : Calls Tryz.prog 115 #[.slice A n c, .int .i64 tx] w fun e w' => e = .returned (.int .i64 m) ∧ w = w':=(IL tx hb hr).mono fun _ _ x => ⟨h ▸ x.1,x.2⟩
/-- The k-th record (from 0) stands well in its log. -/
def atOk (l : List Rec) (k : Nat) : Bool:=CS (rc l k) && (rc l k).prev == Aj l (rc l k).tx k && decide ((rc l k).next ≤ k) && (decide ((rc l k).next ≤ 0) || (rc l ((rc l k).next.toNat - 1)).tx == (rc l k).tx)
def Ef (l : List Rec) : Nat → Bool
  | 0 => true
  | n + 1 => Ef l n && atOk l n
def AP (l : List Rec) : Bool:=Ef l l.length && decide (l.length ≤ 150)
theorem Lg {l : List Rec} {k n : Nat} (h : atOk l k = false) (hk : k < n) : Ef l n = false:=by
  induction n with
  | zero => omega
  | succ n ih =>
    by_cases e : k = n
    · subst e;simp [Ef,h]
    · simp [Ef,ih (by omega)]
theorem OW {l : List Rec} {n k : Nat} (h : Ef l n = true) (hk : k < n) : atOk l k = true:=by
  cases e : atOk l k
  · rw [Lg e hk] at h;cases h
  · rfl
theorem AY (l : List Rec) (tx : Int) (n : Nat) : Aj l tx n ≤ n:=by
  induction n with
  | zero => simp [Aj]
  | succ n ih =>
    unfold Aj
    split
    · split <;> omega
    · omega
/-- The numbers that record n (from 1) tells: the one ahead, the one with which an undoing goes on. -/
def BH (l : List Rec) (n : Nat) : Nat:=(rc l (n - 1)).prev.toNat
def EB (l : List Rec) (n : Nat) : Nat:=(rc l (n - 1)).next.toNat
structure VX (l : List Rec) (k : Nat) : Prop where
  ok : CS (rc l k) = true
  prev : (rc l k).prev = BH l (k + 1)
  prev_le : BH l (k + 1) ≤ k
  next : (rc l k).next = EB l (k + 1)
  next_le : EB l (k + 1) ≤ k
  last : BH l (k + 1) = Aj l (rc l k).tx k
  tx1 : 1 ≤ (rc l k).tx
  tx3 : (rc l k).tx ≤ 3
theorem Qu {r : Rec} (h : CS r = true) : 1 ≤ r.tx ∧ r.tx ≤ 3 ∧ 0 ≤ r.prev ∧ r.prev ≤ 150:=by
  simp only [CS,Bool.and_eq_true,Dj] at h
  omega
theorem RJ {r : Rec} (h : CS r = true) : 0 ≤ r.next ∧ r.next ≤ 150:=by
  rw [D7] at h
  omega
theorem AA {l : List Rec} (h : AP l = true) {k : Nat} (hk : k < l.length) : VX l k:=by
  simp only [AP,Bool.and_eq_true] at h
  have ha:=OW h.1 hk
  simp only [atOk,Bool.and_eq_true,beq_iff_eq,decide_eq_true_eq] at ha
  obtain ⟨⟨⟨h1,h2⟩,h3⟩,h4⟩:=ha
  have h5:=Qu h1
  have h6:=RJ h1
  have hl:=AY l (rc l k).tx k
  refine ⟨h1,?_,?_,?_,?_,?_,h5.1,h5.2.1⟩ <;> simp only [BH,EB,Nat.add_sub_cancel] <;> omega
theorem Be {l : List Rec} (h : AP l = true) : l.length ≤ 150:=by
  simp only [AP,Bool.and_eq_true,decide_eq_true_eq] at h
  exact h.2
/-- From record n back to where its transaction began. -/
def BA (l : List Rec) : Nat → List Nat
  | 0 => []
  | n + 1 => (n + 1) :: if h : BH l (n + 1) ≤ n then BA l (BH l (n + 1)) else []
  termination_by n => n
theorem DU {l : List Rec} {n : Nat} (h : BH l (n + 1) ≤ n) : BA l (n + 1) = (n + 1) :: BA l (BH l (n + 1)):=by
  rw [BA,dif_pos h]
theorem Cm (l : List Rec) : BA l 0 = []:=by rw [BA]
/-- What is to be undone, from record n on. -/
def CU (l : List Rec) : Nat → List Nat
  | 0 => []
  | n + 1 =>
    if (rc l n).kind = 1 ∨ (rc l n).kind = 2 then (n + 1) :: (if h : BH l (n + 1) ≤ n then CU l (BH l (n + 1)) else [])
    else if (rc l n).kind = 6 then (if h : EB l (n + 1) ≤ n then CU l (EB l (n + 1)) else [])
    else if h : BH l (n + 1) ≤ n then CU l (BH l (n + 1)) else []
  termination_by n => n
theorem D5 (l : List Rec) : CU l 0 = []:=by rw [CU]
theorem KT {l : List Rec} {n : Nat} (hk : (rc l n).kind = 1 ∨ (rc l n).kind = 2) (h : BH l (n + 1) ≤ n) : CU l (n + 1) = (n + 1) :: CU l (BH l (n + 1)):=by
  rw [CU,if_pos hk,dif_pos h]
theorem LW {l : List Rec} {n : Nat} (hk : (rc l n).kind = 6) (h : EB l (n + 1) ≤ n) : CU l (n + 1) = CU l (EB l (n + 1)):=by
  rw [CU,if_neg (by omega),if_pos hk,dif_pos h]
theorem LY {l : List Rec} {n : Nat} (h1 : (rc l n).kind ≠ 1) (h2 : (rc l n).kind ≠ 2) (h6 : (rc l n).kind ≠ 6) (h : BH l (n + 1) ≤ n) : CU l (n + 1) = CU l (BH l (n + 1)):=by
  rw [CU,if_neg (by omega),if_neg h6,dif_pos h]
/-- The next one to undo. -/
def Bq (l : List Rec) (n : Nat) : Nat:=(CU l n).headD 0
/-- A record that is undone is one that puts, or owns. -/
theorem FI {l : List Rec} (n m : Nat) (ms : List Nat) (h : CU l n = m :: ms) : 0 < m ∧ m ≤ n ∧ ((rc l (m - 1)).kind = 1 ∨ (rc l (m - 1)).kind = 2) ∧ (BH l m < m → ms = CU l (BH l m) ∧ CU l m = m :: ms):=by
  induction n using Nat.strongRecOn with
  | _ n ih =>
    match n with
    | 0 => rw [D5] at h;cases h
    | n + 1 =>
      rw [CU] at h
      split at h
      · rename_i hk
        obtain ⟨rfl,h2⟩:=List.cons.inj h
        refine ⟨by omega,by omega,by simpa using hk,fun hp => ?_⟩
        rw [dif_pos (by omega)] at h2
        exact ⟨h2.symm,by rw [KT hk (by omega),h2]⟩
      · split at h
        · split at h
          · rename_i hle
            obtain ⟨h1,h2,h3,h4⟩:=ih _ (by omega) h
            exact ⟨h1,by omega,h3,h4⟩
          · cases h
        · split at h
          · rename_i hle
            obtain ⟨h1,h2,h3,h4⟩:=ih _ (by omega) h
            exact ⟨h1,by omega,h3,h4⟩
          · cases h
theorem Gf {l : List Rec} {n : Nat} (h : Bq l n = 0) : CU l n = []:=by
  cases e : CU l n with
  | nil => rfl
  | cons m ms =>
    have:=(FI n m ms e).1
    simp [Bq,e] at h
    omega
theorem MC {l : List Rec} {n m : Nat} (h : Bq l n = m) (hm : 0 < m) : ∃ ms,CU l n = m :: ms:=by
  cases e : CU l n with
  | nil => simp [Bq,e] at h;omega
  | cons a ms => simp [Bq,e] at h;subst h;exact ⟨ms,rfl⟩
theorem LX {l : List Rec} {n m : Nat} (hl : AP l = true) (hn : n ≤ l.length) (h : Bq l n = m + 1) : CU l n = (m + 1) :: CU l (BH l (m + 1)) ∧ m < l.length ∧ BH l (m + 1) ≤ m ∧ ((rc l m).kind = 1 ∨ (rc l m).kind = 2):=by
  obtain ⟨ms,e⟩:=MC h (by omega)
  obtain ⟨h1,h2,h3,h4⟩:=FI n _ ms e
  have F:=AA hl (k:=m) (by omega)
  exact ⟨by rw [e,(h4 (by have:=F.prev_le;omega)).1],by omega,F.prev_le,by simpa using h3⟩
theorem GA {l : List Rec} {n : Nat} : Bq l n ≤ n:=by
  cases e : CU l n with
  | nil => simp [Bq,e]
  | cons m ms =>
    have:=(FI n m ms e).2.1
    simp only [Bq,e,List.headD_cons]
    exact this
/-- Is a page loaded in the chain from n on; by one of the last j transactions? -/
def EJ (l : List Rec) (n : Nat) (page : Int) : Bool:=(BA l n).any fun m => (rc l (m - 1)).kind == 3 && (rc l (m - 1)).page == page
theorem KG (l : List Rec) (p : Int) : EJ l 0 p = false:=by simp [EJ,Cm]
theorem RV {l : List Rec} {n : Nat} {p : Int} (h : BH l (n + 1) ≤ n) : EJ l (n + 1) p = (((rc l n).kind == 3 && (rc l n).page == p) || EJ l (BH l (n + 1)) p):=by
  simp [EJ,DU h]
def Ig (l : List Rec) (page : Int) : Nat → Bool
  | 0 => false
  | j + 1 => EJ l (Aj l (3 - j : Int) l.length) page || Ig l page j
/-- How many records undo the last j transactions. -/
def Ic (l : List Rec) : Nat → Nat
  | 0 => 0
  | j + 1 => (CU l (Aj l (3 - j : Int) l.length)).length + (if Aj l (3 - j : Int) l.length = 0 then 0 else 1) + Ic l j
def need (l : List Rec) : Nat:=Ic l 3
def AV (w : World) (base : Nat) (v : Value) (xs : List Int) : Prop:=w.ownsRow base 3 1 v xs.length (nums .i64 xs)
theorem XL {w : World} {A : Option Addr} {n : Nat} {xs : List Int} (h : ReadsInt w .i64 A n xs) : Kd.C (Kd.int .i64) w A n xs:=Kd.SN (enc:=Value.int .i64) (d:=(0 : Int)) (h1:=fun _ => rfl) h
theorem AV.reads {w : World} {base : Nat} {v : Value} {xs : List Int} (h : AV w base v xs) : ∃ A c,v = .slice A xs.length c ∧ xs.length ≤ c ∧ Kd.C (Kd.int .i64) w A xs.length xs:=by
  obtain ⟨A,c,he,hr⟩:=Uo h
  refine ⟨A,c,he,?_,XL hr⟩
  rcases h.2 with ⟨h1,h2⟩ | ⟨g,cap,cur,h1,_,_,h2,_⟩
  · omega
  · rw [h1] at he
    cases he
    exact h2
theorem AV.below {w w1 : World} {base : Nat} {v : Value} {xs : List Int} (h : AV w base v xs) (hb : Below w.heap.size w w1) : AV w1 base v xs:=KZ h hb
theorem AV.nil (w : World) (base : Nat) : AV w base (.slice none 0 0) []:=Tq w base _ _
theorem AV.lower {w : World} {b b' : Nat} {v : Value} {xs : List Int} (h : AV w b v xs) (hb : b' ≤ b) : AV w b' v xs:=En h hb
/-- A call that hands back numbers of its own. -/
def UK (w : World) (xs : List Int) (e : Ending) (w' : World) : Prop := ∃ v,e = .returned v ∧ AV w' w.heap.size v xs ∧ Below w.heap.size w w'
theorem EL : (Tryz.prog.info? 3).map (fun i => (i.zero,i.size,i.bytes)) = some (some (.int .i64 0),1,8):=by kernel_rfl
theorem Dy : Tryz.prog.underlying 33 = some (.slice 3):=Tryz.underlying33
/-- n numbers from k on. -/
def mkI (n : Nat) (k : Int) : List Int:=(List.range n).map fun (j : Nat) => k + (j : Int)
theorem Ps (n : Nat) (k : Int) : (mkI n k).length = n:=by simp [mkI]
theorem Vw {n j : Nat} (k : Int) (h : j < n) : iv (mkI n k) j = k + j:=by
  simp [iv,mkI,List.getD_eq_getElem?_getD,h]
theorem WE {xs : List Int} {i j : Nat} {x : Int} (h : i < xs.length) : iv (xs.set i x) j = if i = j then x else iv xs j:=by
  simp only [iv,List.getD_eq_getElem?_getD,List.getElem?_set]
  split
  · rename_i e;subst e;simp [h]
  · rfl
theorem Xp {xs ys : List Int} (hl : xs.length = ys.length) (h : ∀ j,j < xs.length → iv xs j = iv ys j) : xs = ys:=by
  apply List.ext_getElem hl
  intro j h1 h2
  have:=h j h1
  simpa [iv,List.getD_eq_getElem?_getD,h1,h2] using this
theorem La {ps : List Page} {i j : Nat} {q : Page} (h : i < ps.length) : pg (ps.set i q) j = if i = j then q else pg ps j:=by
  simp only [pg,List.getD_eq_getElem?_getD,List.getElem?_set]
  split
  · rename_i e;subst e;simp [h]
  · rfl
theorem Xh {xs ys : List Page} (hl : xs.length = ys.length) (h : ∀ j,j < xs.length → pg xs j = pg ys j) : xs = ys:=by
  apply List.ext_getElem hl
  intro j h1 h2
  have:=h j h1
  simpa [pg,List.getD_eq_getElem?_getD,h1,h2] using this
/-- How many numbers the first j pages hold. -/
def CR (ps : List Page) : Nat → Nat
  | 0 => 0
  | j + 1 => CR ps j + (2 + (pg ps j).vals.length)
def mkP (p : Page) (k : Int) : Page:=⟨k,k + 1,mkI p.vals.length (k + 2)⟩
def mkPs (ps : List Page) (k : Int) : List Page:=(List.range ps.length).map fun (j : Nat) => mkP (pg ps j) (k + (CR ps j : Int))
def cntP (ps : List Page) : Nat:=CR ps ps.length
theorem QG (ps : List Page) (k : Int) : (mkPs ps k).length = ps.length:=by simp [mkPs]
theorem Tn {ps : List Page} {j : Nat} (k : Int) (h : j < ps.length) : pg (mkPs ps k) j = mkP (pg ps j) (k + (CR ps j : Int)):=by
  simp [pg,mkPs,List.getD_eq_getElem?_getD,h]
theorem Tw (ps : List Page) {i : Nat} : ∀ {j : Nat},i ≤ j → CR ps i ≤ CR ps j
  | 0,h => by obtain rfl:=Nat.le_zero.1 h;exact Nat.le_refl _
  | j + 1,h => by
    rcases Nat.eq_or_lt_of_le h with rfl | h
    · exact Nat.le_refl _
    · have:=Tw ps (i:=i) (j:=j) (by omega)
      rw [CR];omega
theorem OV {ps : List Page} {j : Nat} (h : j < ps.length) : CR ps j + (2 + (pg ps j).vals.length) ≤ cntP ps:=by
  have:=Tw ps (i:=j + 1) (j:=ps.length) h
  rw [CR] at this
  exact this
theorem Tv {ps : List Page} {N : Nat} (h : ∀ p ∈ ps,p.vals.length ≤ N) : ∀ j,j ≤ ps.length → CR ps j ≤ j * (2 + N)
  | 0,_ => by simp [CR]
  | j + 1,hj => by
    have h1:=Tv h j (by omega)
    have h2:=h (pg ps j) (by simp [pg,List.getD_eq_getElem?_getD,show j < ps.length by omega])
    rw [CR,Nat.succ_mul];omega
theorem VK {ps : List Page} (h : ps.length ≤ 1048576 ∧ ∀ p ∈ ps,p.vals.length ≤ 1048576) : cntP ps ≤ 2000000000000:=by
  have h1:=Tv h.2 ps.length (Nat.le_refl _)
  have h2 : ps.length * (2 + 1048576) ≤ 1048576 * (2 + 1048576):=Nat.mul_le_mul_right _ h.1
  unfold cntP
  omega
/-- Nothing but blocks of S was written, and what is new. -/
structure Wrote (w W : World) (S : Nat → Prop) : Prop where
  os : W.os = w.os
  tape : W.tape = w.tape
  output : W.output = w.output
  kept : Kept w W S
section
variable {w W W2 : World} {S S2 : Nat → Prop}
theorem Wrote.refl (w : World) (S : Nat → Prop) : Wrote w w S:=⟨rfl,rfl,rfl,Kept.refl _ _⟩
theorem Wrote.of_below (h : Below w.heap.size w W) (S : Nat → Prop) : Wrote w W S:=⟨h.os,h.tape,h.output,Kept.of_below h S⟩
theorem Wrote.D6 (h : Wrote w W S) (k : Wrote W W2 S2) (hs : ∀ k,S2 k → S k ∨ w.heap.size ≤ k) : Wrote w W2 S:=⟨k.os.trans h.os,k.tape.trans h.tape,k.output.trans h.output,h.kept.D6 k.kept hs⟩
theorem Wrote.setCell (h : Wrote w W S) {p : Addr} (hp : S p.block ∨ w.heap.size ≤ p.block) (u : Value) : Wrote w (W.setCell p u) S:=⟨h.os,h.tape,h.output,h.kept.setCell hp u⟩
/-- All that is elder than what may be written is as it was. -/
theorem Wrote.bel {N : Nat} (h : Wrote w W S) (hS : ∀ k,S k → N ≤ k) (hN : N ≤ w.heap.size) : Below N w W:=⟨h.os,h.tape,h.output,h.kept.1,fun k hk => h.kept.2 k (by omega) (fun hs => by have:=hS k hs;omega)⟩
end
abbrev RI (w : World) (b : Nat) (ok : Nat → Prop) (v : Value) (xs : List Int) : Prop:=(Kd.int .i64).R 3 w b ok v xs
/-- A marked row of numbers: it tells what comes next; nothing but the row was written. -/
def XC (w : World) (b : Nat) (ok : Nat → Prop) (v : Value) (n : Nat) (k : Int) (x : Ending) (w' : World) : Prop:=x = .returned (.int .i64 (k + n)) ∧ RI w' b ok v (mkI n k) ∧ Wrote w w' (fun m => some m = v.ownBlock)
theorem RI.cell {w : World} {b : Nat} {ok : Nat → Prop} {g n cap : Nat} {xs : List Int} (h : RI w b ok (.slice (some ⟨g,0,none⟩) n cap) xs) {i : Nat} (hi : i < n) : w.cell? ⟨g,i,none⟩ = some (.int .i64 (iv xs i)) ∧ w.frozen? ⟨g,i,none⟩ = false:=by
  have h1:=Kd.WR 0 h (i : Int) (by omega) (by omega)
  rw [Int.toNat_natCast] at h1
  have hn:=(Kd.DR h).1
  have e : Ui 0 xs (i : Int) = iv xs i:=by simp [Ui,iv]
  rw [e] at h1
  exact h1
theorem RI.put {w : World} {b : Nat} {ok : Nat → Prop} {g n cap : Nat} {xs : List Int} (h : RI w b ok (.slice (some ⟨g,0,none⟩) n cap) xs) (i : Nat) (x : Int) : RI (w.setCell ⟨g,i,none⟩ (.int .i64 x)) b ok (.slice (some ⟨g,0,none⟩) n cap) (xs.set i x):=by
  obtain rfl : n = xs.length:=(Kd.DR h).1
  have:=(Kd.XE h (i : Int) x).1
  rw [Int.toNat_natCast] at this
  exact this
theorem RI.len {w : World} {b : Nat} {ok : Nat → Prop} {v : Value} {xs : List Int} (h : RI w b ok v xs) : xs.length ≤ 9223372036854775807:=by
  obtain ⟨A,c,rfl, -,hc⟩:=Kd.DI h
  exact (CJ hc).2
set_option maxRecDepth 100000 in
set_option maxHeartbeats 4000000 in
theorem JA {w : World} {b : Nat} {ok : Nat → Prop} {v : Value} {xs : List Int} (k : Int) (hk0 : 0 ≤ k) (hk1 : k + xs.length ≤ 9000000000000000000) (h : RI w b ok v xs) : Calls Tryz.prog 64 #[v, .int .i64 k] w (XC w b ok v xs.length k):=by
  obtain ⟨A,c,hv, -, -⟩:=Kd.DI h
  have hm:=RI.len h
  have HR:=As h
  have HV:=As hv
  have HOB:=As (rfl : v.ownBlock = v.ownBlock)
  subst hv
  obtain ⟨row,hrow⟩ : ∃ row,(Value.slice A xs.length c).ownBlock = row:=⟨_,rfl⟩
  have HRow:=As hrow
  clear h hrow
  go_enter Tryz.func64,Tryz.ntmps64
  go_wp2
  go_loopw [1,5] (fun x i wr => ∃ (j : Nat) (ys : List Int),j ≤ xs.length ∧ x = .int .i64 (k + j) ∧ i = .int .i64 (j : Int) ∧ Ac (RI wr b ok (.slice A xs.length c) ys) ∧ Ac (ys.length = xs.length ∧ ∀ m,m < j → iv ys m = k + m) ∧ Ac (Wrote w wr (fun m => some m = row))) (fun _ i _ => (xs.length - intOf i).toNat)
  case atStart => exact ⟨0,xs,Nat.zero_le _,by simp,rfl,HR,⟨rfl,fun m hm => by omega⟩,⟨Wrote.refl _ _⟩⟩
  case round =>
    obtain ⟨j,ys,hj,rfl,rfl,HY,HL,HG⟩:=hrel
    by_cases hlt : j < xs.length
    · have hy:=HY.out
      obtain ⟨g,cap,hv, -, -, -⟩:=Kd.W9 hy (by rw [HL.out.1];omega)
      rw [HL.out.1] at hv
      injection hv with h1 h2 h3
      subst h1
      have hrw:=HRow.out
      obtain ⟨p1,p2⟩:=RI.cell hy hlt
      have q1:=RI.put hy j (k + j)
      have HQ1:=As q1
      have HQ2:=As (show Wrote w (wr.setCell ⟨g,j,none⟩ (.int .i64 (k + j))) (fun m => some m = row) from HG.out.setCell (p:=⟨g,j,none⟩) (.inl (by rw [← hrw];simp [Value.ownBlock])) _)
      have HT:=As (show (ys.set j (k + j)).length = xs.length ∧ ∀ m,m < j + 1 → iv (ys.set j (k + j)) m = k + m by
        refine ⟨by rw [List.length_set];exact HL.out.1,fun m hm => ?_⟩
        rw [WE (by rw [HL.out.1];exact hlt)]
        split
        · rename_i e;rw [e]
        · exact HL.out.2 m (by omega))
      clear hy q1 hrw h2 h3
      go_wp2
      go_roundw
      case rel => exact ⟨j + 1,_,by omega,by go_num,by go_num,HQ1,HT,HQ2⟩
      case measure => simp [intOf];omega
    · have HE:=As (show j = xs.length by omega)
      go_wp2
      go_ret
      refine ⟨Cs (by rw [HE.out]),?_,by rw [HRow.out];exact HG.out⟩
      have e : ys = mkI xs.length k:=Xp (by rw [HL.out.1,Ps]) (fun m hm => by rw [HL.out.1] at hm;rw [Vw k hm,HL.out.2 m (by have:=HE.out;omega)])
      rw [← e]
      exact HY.out
set_option maxRecDepth 100000 in
set_option maxHeartbeats 4000000 in
theorem NU {w0 w : World} {A : Option Addr} {c n : Nat} (k : Int) (hk0 : 0 ≤ k) (hk1 : k + n ≤ 9000000000000000000) (hb : Below w0.heap.size w0 w) (hr : Kd.C (Kd.int .i64) w0 A n (mkI n k)) : Calls Tryz.prog 65 #[.slice A n c, .int .i64 k] w fun x w' => x = .returned (.int .i64 (k + n)) ∧ w' = w:=by
  have HR:=As (Bu hr hb)
  have hm:=(CJ hr).2
  clear hr hb
  go_enter Tryz.func65,Tryz.ntmps65
  go_wp2
  go_loopw [1,5] (fun x i wr => ∃ j : Nat,j ≤ n ∧ x = .int .i64 (k + j) ∧ i = .int .i64 (j : Int) ∧ wr = w) (fun _ i _ => (n - intOf i).toNat)
  case atStart => exact ⟨0,Nat.zero_le _,by simp,rfl,by first | rfl | trivial⟩
  case round =>
    obtain ⟨j,hj,rfl,rfl,rfl⟩:=hrel
    by_cases hlt : j < n
    · obtain ⟨ad,rfl,g0⟩:=Dg HR.out j hlt
      rw [Vw k hlt] at g0
      have hne : ((k + (j : Int)) != k + (j : Int)) = false:=by simp
      go_wp2
      go_roundw
      case rel => exact ⟨j + 1,by omega,by go_num,by go_num,by first | rfl | trivial⟩
      case measure => simp [intOf];omega
    · have HE:=As (show j = n by omega)
      go_wp2
      go_ret
      exact ⟨Cs (by rw [HE.out]),rfl⟩
end Go.Proofs.YtpjmlpmhgfghbaaGreat
/- A region that draws its order, each of whose operations gives one and the same value in every world that meets S, and leaves such a world: it may be walked in the order of the text. -/
namespace Go.Proofs.YtpjmlpmhgfghbaaGreat
open Go.RowKit Go.Proofs.YtpjmlpmhgfghbaaGreatW.PrintWords Go.Proofs.YtpjmlpmhgfghbaaGreatW.PrintLast
section
variable {P : Program} {ops : Array Oper} {Q : Exit → Act → World → Prop} {md : Region.Mode} {S : World → Prop}
/-- The world at hand, under a name, with what is known of it. -/
theorem Ry {c : Code} {a : Act} {w : World} {r : Rec} {T : TypeId} (h : ∀ w1,Below w.heap.size w w1 → FZ w1 ⟨w.heap.size,0,none⟩ r → c.wp P Q a w1) : c.wp P Q a (w.alloc (.cells #[.int .i64 r.kind, .int .i64 r.tx, .int .i64 r.page, .int .i64 r.slot, .int .i64 r.old, .int .i64 r.new, .int .i64 r.prev, .int .i64 r.next] T (0,0))):=
  h _ ((Below.refl _ _).alloc (Nat.le_refl _) _) ⟨by go_simp,by go_simp,by go_simp,by go_simp,by go_simp,by go_simp,by go_simp,by go_simp⟩
/-- What an operation's run comes to: v, in a world that meets S. -/
def Eff (P : Program) (S : World → Prop) (v : Value) : Result Next → Prop
  | .ok (.value u) w' => u = v ∧ S w'
  | .ok .skip w' => v = undef ∧ S w'
  | .ok (.enter f args) w' => Calls P f args w' fun e w'' => e = .returned v ∧ S w''
  | _ => False
def GY (P : Program) (ops : Array Oper) (S : World → Prop) (o : Oper) (v : Value) (a : Act) : Prop:=
  (Region.wanted o (yielded ops a.tmps) = true ∧ ∀ w,S w → Eff P S v ((execOp a.eval o).run P w)) ∨
  (Region.wanted o (yielded ops a.tmps) = false ∧ v = undef)
theorem GY.wpOp {i : Nat} {o : Oper} {v : Value} {a : Act} (hi : ops[i]? = some o) (hy : GY P ops S o v a)
    {K : Act → World → Prop} {w : World} (hS : S w) (h : ∀ w',S w' → K (a.put o.dst v) w') : wpOp P ops Q i K a w:=by
  unfold Go.wpOp
  simp only [hi]
  rcases hy with ⟨hw,hv⟩ | ⟨hw,rfl⟩
  · simp only [hw,if_true]
    refine .inl ?_
    have h1:=hv w hS
    unfold Oper.wp
    generalize (execOp a.eval o).run P w = r at h1 ⊢
    cases r with
    | ok n w' =>
      cases n <;> simp only [Eff] at h1 <;> try exact h1.elim
      case value u => obtain ⟨rfl,h2⟩:=h1;exact h _ h2
      case skip => obtain ⟨rfl,h2⟩:=h1;exact h _ h2
      case enter f args => exact Calls.mono h1 fun e w'' he => by obtain ⟨rfl,h2⟩:=he;exact h _ h2
    | halt x w' => simp only [Eff] at h1
  · simp only [hw,Bool.false_eq_true,if_false];exact h _ hS
theorem GY.of_same {o : Oper} {v : Value} {a a' : Act} (hy : GY P ops S o v a) (he : execOp a'.eval o = execOp a.eval o)
    (hw : Region.wanted o (yielded ops a'.tmps) = Region.wanted o (yielded ops a.tmps)) : GY P ops S o v a':=by
  unfold GY at *
  rw [he,hw]
  exact hy
theorem U8 {j : Nat} {oi oj : Oper} {v : Value} (hj : ops[j]? = some oj) (hap : oi.apart ops oj = true)
    (hsi : ∀ cs b,oi.op ≠ .select cs b) (hsj : ∀ cs b,oj.op ≠ .select cs b)
    (hQ : ∀ c a w,Q (.panic c) (a.put oi.dst v) w → Q (.panic c) a w) {K : Act → World → Prop} {a : Act} {w : World}
    (hy : GY P ops S oi v a) (h : wpOp P ops Q j K (a.put oi.dst v) w) :
    wpOp P ops Q j (fun a' w' => GY P ops S oi v a' ∧ K (a'.put oi.dst v) w') a w:=by
  obtain ⟨h1,h2,h3⟩:=Oper.apart_spec hap
  have keep : ∀ (a : Act),GY P ops S oi v a → ∀ u,GY P ops S oi v (a.put oj.dst u):=fun a hy u =>
    hy.of_same (execOp_put oi hsi a oj.dst u h3) (wanted_put oi a oj.dst u h3)
  have keepD : ∀ d,GY P ops S oi v { a with defers:=d :: a.defers }:=fun d => hy.of_same rfl rfl
  unfold wpOp at *
  simp only [hj] at *
  rw [wanted_put oj a oi.dst v h1] at h
  split
  · rename_i hw
    simp only [hw,if_true] at h
    rcases h with h | ⟨hasks,hlets⟩
    case inr => exact .inr ⟨by unfold Oper.asks at *;rw [execOp_put oj hsj a oi.dst v h1] at hasks;exact hasks,hlets⟩
    refine .inl ?_
    unfold Oper.wp at *
    rw [execOp_put oj hsj a oi.dst v h1] at h
    generalize (execOp a.eval oj).run P w = r at *
    cases r with
    | ok n w' =>
      cases n <;> simp only [Oper.upon] at h ⊢
      case value u => exact ⟨keep a hy u,by rw [← Act.put_comm a v u h2];exact h⟩
      case skip => exact ⟨keep a hy _,by rw [← Act.put_comm a v undef h2];exact h⟩
      case defer d =>
        refine ⟨keep _ (keepD d) _,?_⟩
        rw [← Act.put_comm _ v undef h2, ← Act.put_defers]
        exact h
      case enter f args =>
        refine Calls.mono h fun e w'' he => ?_
        cases e with
        | returned u => exact ⟨keep a hy u,by rw [← Act.put_comm a v u h2];exact he⟩
        | panicked c => exact hQ _ _ _ he
        | outgrown => exact he
      case row row args => exact Rows.mono h fun u w'' he => ⟨keep a hy u,by rw [← Act.put_comm a v u h2];exact he⟩
    | halt x w' =>
      cases x <;> simp only [Oper.upon] at h ⊢
      case panic u => exact hQ _ _ _ h
  · rename_i hw
    simp only [hw] at h
    exact ⟨keep a hy _,by rw [← Act.put_comm a v undef h2];exact h⟩
/-- Whatever order is picked from here on; of the world S alone is known. -/
def wpAnyS (P : Program) (md : Region.Mode) (ops : Array Oper) (Q : Exit → Act → World → Prop) (S : World → Prop) : Nat → Array Bool → Act → Prop
  | 0,listed,a => Region.ready md ops listed = [] ∧ ∀ w,S w → Q .normal a w
  | fuel + 1,listed,a =>
    (Region.ready md ops listed = [] → ∀ w,S w → Q .normal a w) ∧
    ∀ i ∈ Region.ready md ops listed, ∀ w,S w → wpOp P ops Q i (fun a' w' => S w' ∧ wpAnyS P md ops Q S fuel (listed.setIfInBounds i true) a') a w
theorem Nr : ∀ (fuel : Nat) (listed : Array Bool) (a : Act) (w : World),S w → wpAnyS P md ops Q S fuel listed a → wpAny P md ops Q fuel listed a w
  | 0,_,_,w,hS,h => ⟨h.1,h.2 w hS⟩
  | fuel + 1,_,_,w,hS,h => ⟨fun hr => h.1 hr w hS,fun i hi => wpOp_mono (fun a' w' h' => Nr fuel _ a' w' h'.1 h'.2) (h.2 i hi w hS)⟩
theorem wpAnyS_first {i : Nat} {oi : Oper} {v : Value} (hi : ops[i]? = some oi) (hsel : ∀ (j : Nat) (o : Oper) cs b,ops[j]? = some o → o.op ≠ .select cs b)
    (hQ : ∀ c a w,Q (.panic c) (a.put oi.dst v) w → Q (.panic c) a w) :
    ∀ (fuel : Nat) (listed : Array Bool) (a : Act),
      (∀ j oj,ops[j]? = some oj → j ≠ i → listed.getD j true = false → (∀ e ∈ oj.after,Region.binds md e = true → e.on ≠ i) → oi.apart ops oj = true) →
      i ∈ Region.ready md ops listed → GY P ops S oi v a →
      wpAnyS P md ops Q S fuel (listed.setIfInBounds i true) (a.put oi.dst v) → wpAnyS P md ops Q S (fuel + 1) listed a:=by
  intro fuel
  induction fuel with
  | zero =>
    intro listed a _ hr hy H
    refine ⟨fun h => (by rw [h] at hr;cases hr),fun j hj w hS => ?_⟩
    by_cases hji : j = i
    · subst hji;exact hy.wpOp hi hS (fun w' h' => ⟨h',H⟩)
    · have:=ready_mono hj hji
      rw [H.1] at this
      cases this
  | succ fuel ih =>
    intro listed a hfree hr hy H
    refine ⟨fun h => (by rw [h] at hr;cases hr),fun j hj w hS => ?_⟩
    by_cases hji : j = i
    · subst hji;exact hy.wpOp hi hS (fun w' h' => ⟨h',H⟩)
    · have h1:=H.2 j (ready_mono hj hji) w hS
      obtain ⟨hjun,oj,hoj,hall⟩:=mem_ready.1 hj
      have hnot : ∀ e ∈ oj.after,Region.binds md e = true → e.on ≠ i:=fun e he hb heq => by
        have h1:=hall e he hb
        have h0:=(mem_ready.1 hr).1
        rw [heq] at h1
        rcases Nat.lt_or_ge i listed.size with h' | h'
        · simp [h'] at h0 h1;rw [h0] at h1;cases h1
        · simp [Array.getElem?_eq_none h'] at h1
      have h2:=U8 hoj (hfree j oj hoj hji hjun hnot) (fun cs b => hsel i oi cs b hi) (fun cs b => hsel j oj cs b hoj) hQ hy h1
      have hfree' : ∀ k ok,ops[k]? = some ok → k ≠ i → (listed.setIfInBounds j true).getD k true = false →
          (∀ e ∈ ok.after,Region.binds md e = true → e.on ≠ i) → oi.apart ops ok = true:=fun k ok hk hki hun hno => by
        refine hfree k ok hk hki ?_ hno
        by_cases hjk : j = k
        · subst hjk;exact hjun
        · rw [getD_set_ne true hjk] at hun;exact hun
      refine wpOp_mono (fun a' w' h3 => ⟨h3.2.1,ih (listed.setIfInBounds j true) a' hfree' (ready_mono hr (Ne.symm hji)) h3.1 ?_⟩) h2
      rw [Array.setIfInBounds_comm _ _ hji]
      exact h3.2.2
/-- The first k have come up. -/
def upTo (n k : Nat) : Array Bool:=((List.range n).map fun j => decide (j < k)).toArray
theorem Ub (n : Nat) : upTo n 0 = Array.replicate n false:=by
  apply Array.ext <;> simp [upTo]
theorem Uc (n k : Nat) : (upTo n k).setIfInBounds k true = upTo n (k + 1):=by
  apply Array.ext
  · simp [upTo]
  · intro i h1 h2
    simp [upTo] at h1
    by_cases e : k = i
    · subst e;simp [upTo]
    · simp [upTo,e];omega
/-- The text's order is one that is allowed, and what is not bound by it is apart: asked of the kernel. -/
def M0 (ops : Array Oper) : Bool:=Region.noSelect ops && (List.range ops.size).all fun k => Region.free .any ops (upTo ops.size k) k && (Region.ready .any ops (upTo ops.size k)).contains k
/-- What is left of the text, from place k on. -/
structure Text (P : Program) (ops : Array Oper) (Q : Exit → Act → World → Prop) (S : World → Prop) (k : Nat) (rest : List Oper) (a : Act) : Prop where
  out : ops.toList.drop k = rest → wpAnyS P .any ops Q S (ops.size - k) (upTo ops.size k) a
variable {k d : Nat} {o : Oper} {rest : List Oper} {v : Value} {L : List Value} {D : List Deferred}
theorem LZ {a : Act} (ht : Ac (M0 ops = true))
    (hQ : ∀ c a w,Q (.panic c) (a.put o.dst v) w → Q (.panic c) a w) (he : GY P ops S o v a) (h : Text P ops Q S (k + 1) rest (a.put o.dst v)) : Text P ops Q S k (o :: rest) a:=by
  refine ⟨fun hd => ?_⟩
  have hk : ops[k]? = some o:=by
    rw [← Array.getElem?_toList, ← List.head?_drop,hd,List.head?_cons]
  have hlt : k < ops.size:=(Array.getElem?_eq_some_iff.1 hk).1
  obtain ⟨hs,hall⟩:=Bool.and_eq_true_iff.1 ht.out
  have h1:=List.all_eq_true.1 hall k (by simpa using hlt)
  obtain ⟨hf,hr⟩:=Bool.and_eq_true_iff.1 h1
  rw [show ops.size - k = (ops.size - (k + 1)) + 1 by omega]
  refine wpAnyS_first hk (Region.noSelect_spec hs) hQ _ _ a (Region.free_spec hk hf) (by simpa using hr) he ?_
  rw [Uc]
  exact h.out (by rw [← List.drop_drop,hd,List.drop_one,List.tail_cons])
theorem Cv : (⟨L.toArray,D⟩ : Act).put (some d) v = ⟨(L.set d v).toArray,D⟩:=by
  simp [Act.put]
/-- Whose turn it is. -/
theorem Bw {f : FuncId} {xs : Array Operand} {ts : Array TypeId} {a : Act} (_hop : o.op = .call { callee:=.value (.func f),args:=xs,argTypes:=ts }) (h : Text P ops Q S k (o :: rest) a) : Text P ops Q S k (o :: rest) a:=h
/-- An operation that does not come up. -/
theorem BK (ht : Ac (M0 ops = true)) (hd : o.dst = some d) (hw : Region.wanted o (yielded ops L.toArray) = false)
    (hQ : ∀ c a w,Q (.panic c) (a.put o.dst undef) w → Q (.panic c) a w) (h : Text P ops Q S (k + 1) rest ⟨(L.set d undef).toArray,D⟩) : Text P ops Q S k (o :: rest) ⟨L.toArray,D⟩:=
  LZ ht hQ (.inr ⟨hw,rfl⟩) (by rw [hd,Cv];exact h)
/-- One that yields a value and leaves the world. -/
theorem BS (ht : Ac (M0 ops = true)) (hd : o.dst = some d) (hw : Region.wanted o (yielded ops L.toArray) = true)
    (hQ : ∀ c a w,Q (.panic c) (a.put o.dst v) w → Q (.panic c) a w) (hr : ∀ w,S w → (execOp (Act.eval ⟨L.toArray,D⟩) o).run P w = .ok (.value v) w) (h : Text P ops Q S (k + 1) rest ⟨(L.set d v).toArray,D⟩) : Text P ops Q S k (o :: rest) ⟨L.toArray,D⟩:=
  LZ ht hQ (.inl ⟨hw,fun w hS => by rw [hr w hS];exact ⟨rfl,hS⟩⟩) (by rw [hd,Cv];exact h)
/-- A call. -/
theorem Bz {f : FuncId} {fn : Func} {xs : Array Operand} {ts : Array TypeId} {args : Array Value} (ht : Ac (M0 ops = true))
    (hop : o.op = .call { callee:=.value (.func f),args:=xs,argTypes:=ts }) (hf : P.funcs[f]? = some fn) (hname : (fn.name == "runtime.NumGoroutine") = false) (hb : fn.body.isSome = true) (hd : o.dst = some d) (hw : Region.wanted o (yielded ops L.toArray) = true)
    (hQ : ∀ c a w,Q (.panic c) (a.put o.dst v) w → Q (.panic c) a w) (hargs : xs.map (Act.eval ⟨L.toArray,D⟩) = args)
    (hc : ∀ w,S w → Calls P f args w fun e w' => e = .returned v ∧ S w') (h : Text P ops Q S (k + 1) rest ⟨(L.set d v).toArray,D⟩) : Text P ops Q S k (o :: rest) ⟨L.toArray,D⟩:=by
  refine LZ (v:=v) ht hQ (.inl ⟨hw,fun w hS => ?_⟩) (by rw [hd,Cv];exact h)
  have he:=TL hf hname hb args w
  have hrun : (execOp (Act.eval ⟨L.toArray,D⟩) o).run P w = .ok (.enter f args) w:=by
    unfold execOp
    simp [hop,resolve,Deferred.ofValue,invoke,Act.eval,hargs,he]
  rw [hrun]
  exact hc w hS
theorem BU {a : Act} (h : ∀ w,S w → Q .normal a w) : Text P ops Q S k [] a:=by
  refine ⟨fun hd => ?_⟩
  have hk' : ops.size ≤ k:=by simpa using hd
  rw [show ops.size - k = 0 by omega]
  refine ⟨?_,h⟩
  simp only [Region.ready,List.filter_eq_nil_iff,List.mem_range]
  intro i hi
  have : (upTo ops.size k).getD i true = true:=by
    have : i < k:=by omega
    simp [upTo,hi,this]
  simp [this]
theorem Bo {id : Nat} {l : List Oper} {a : Act} {w : World} (S : World → Prop) (hm : P.follows .mixedOrders = true) (hl : ops.toList = l) (ht : M0 ops = true) (hS : S w.drew)
    (h : Ac (M0 ops = true) → Text P ops Q S 0 l a) : (Code.region id ops true).wp P Q a w:=by
  have h1:=(h ⟨ht⟩).out hl
  rw [Ub] at h1
  exact wp_region_any hm (Nr _ _ _ _ hS h1)
end
end Go.Proofs.YtpjmlpmhgfghbaaGreat
/- Pages: the program's allZero, valsOk, PageOk; the reference's PageOk. -/
namespace Go.Proofs.YtpjmlpmhgfghbaaGreat
open Go.RowKit Go.Proofs.YtpjmlpmhgfghbaaGreatW.PrintWords Go.Proofs.YtpjmlpmhgfghbaaGreatW.PrintLast Go.Proofs.YtpjmlpmhgfghbaaGreatW.PrintMore
theorem JS {xs : List Int} {k : Nat} (h : k < xs.length) : xs.drop k = iv xs k :: xs.drop (k + 1):=by
  rw [List.drop_eq_getElem_cons h]
  simp [iv,List.getD_eq_getElem?_getD,h]
/-- A place, or -1: whether there is one. -/
def VU (b : Bool) (w : World) (e : Ending) (w' : World) : Prop := ∃ i : Int,e = .returned (.int .i64 i) ∧ decide (0 ≤ i) = b ∧ w = w'
theorem Mr (n : Int) (w : World) : Calls Tryz.prog 184 #[.int .i64 n] w fun e w' => e = .returned (.bool (n != 0)) ∧ w = w':=by
  go_enter Tryz.func184,Tryz.ntmps184
  go_wp2
  go_ret
  exact ⟨rfl,rfl⟩
theorem Mv (n : Int) (w : World) : Calls Tryz.prog 177 #[.int .i64 n] w fun e w' => e = .returned (.bool (!inB n 0 9)) ∧ w = w':=by
  go_enter Tryz.func177,Tryz.ntmps177
  go_wp2_with (go_at_call 77;refine (Cc _ _ _ _).mono ?_;rintro e w' ⟨rfl,rfl⟩)
  go_ret
  exact ⟨rfl,rfl⟩
set_option maxHeartbeats 2000000 in
theorem Sg {w0 w : World} {A : Option Addr} {c : Nat} {l : List Int} (hb : Below w0.heap.size w0 w) (hr : Kd.C (Kd.int .i64) w0 A l.length l) : Calls Tryz.prog 178 #[.slice A l.length c, .func (.func 184) #[] #[]] w (VU (l.any fun x => x != 0) w):=by
  have HR:=As (Bu hr hb)
  have hm:=(CJ hr).2
  clear hr hb
  go_enter Tryz.func178,Tryz.ntmps178
  go_wp2
  go_loop [8] (fun i => ∃ k : Nat,k ≤ l.length ∧ i = .int .i64 (k : Int) ∧ Ac ((l.any fun x => x != 0) = (l.drop k).any fun x => x != 0)) (fun i => (l.length - intOf i).toNat)
  case atStart => exact ⟨0,Nat.zero_le _,rfl,⟨rfl⟩⟩
  case round =>
    obtain ⟨k,hk,rfl,HK⟩:=hrel
    by_cases hlt : k < l.length
    · obtain ⟨ad,rfl,g0⟩:=Dg HR.out k hlt
      have HD:=As (JS hlt)
      cases hp : (fun x => x != 0) (iv l k)
      · have HP:=As hp
        clear hp
        go_wp2_with (go_at_call 184;refine (Mr (iv l k) _).mono ?_;rintro e w' ⟨rfl,rfl⟩;(try rw [show (iv l k != 0) = false from HP.out]))
        go_round
        case rel => exact ⟨k + 1,by omega,by go_num,⟨by rw [HK.out,HD.out,List.any_cons,show (iv l k != 0) = false from HP.out,Bool.false_or]⟩⟩
        case measure => simp [intOf];omega
      · have HP:=As hp
        clear hp
        go_wp2_with (go_at_call 184;refine (Mr (iv l k) _).mono ?_;rintro e w' ⟨rfl,rfl⟩;(try rw [show (iv l k != 0) = true from HP.out]))
        go_ret
        exact ⟨k,rfl,by rw [HK.out,HD.out,List.any_cons,show (iv l k != 0) = true from HP.out];simp,rfl⟩
    · have hke : k = l.length:=by omega
      go_wp2
      go_ret
      exact ⟨-1,rfl,by rw [HK.out,hke,List.drop_length];rfl,rfl⟩
theorem Oq {w0 w : World} {A : Option Addr} {c : Nat} {l : List Int} (hb : Below w0.heap.size w0 w) (hr : Kd.C (Kd.int .i64) w0 A l.length l) : Calls Tryz.prog 148 #[.slice A l.length c, .func (.func 184) #[] #[]] w fun e w' => e = .returned (.bool (l.any fun x => x != 0)) ∧ w = w':=by
  have HR:=As (Bu hr hb)
  clear hr hb
  go_enter Tryz.func148,Tryz.ntmps148
  go_wp2_with (go_at_call 178;refine (Sg (Below.refl _ _) HR.out).mono ?_;rintro e w' ⟨i,rfl,hi,rfl⟩)
  go_ret
  exact ⟨by first | exact AB hi | rfl,rfl⟩
set_option maxHeartbeats 2000000 in
theorem Si {w0 w : World} {A : Option Addr} {c : Nat} {l : List Int} (hb : Below w0.heap.size w0 w) (hr : Kd.C (Kd.int .i64) w0 A l.length l) : Calls Tryz.prog 178 #[.slice A l.length c, .func (.func 177) #[] #[]] w (VU (l.any fun x => !inB x 0 9) w):=by
  have HR:=As (Bu hr hb)
  have hm:=(CJ hr).2
  clear hr hb
  go_enter Tryz.func178,Tryz.ntmps178
  go_wp2
  go_loop [8] (fun i => ∃ k : Nat,k ≤ l.length ∧ i = .int .i64 (k : Int) ∧ Ac ((l.any fun x => !inB x 0 9) = (l.drop k).any fun x => !inB x 0 9)) (fun i => (l.length - intOf i).toNat)
  case atStart => exact ⟨0,Nat.zero_le _,rfl,⟨rfl⟩⟩
  case round =>
    obtain ⟨k,hk,rfl,HK⟩:=hrel
    by_cases hlt : k < l.length
    · obtain ⟨ad,rfl,g0⟩:=Dg HR.out k hlt
      have HD:=As (JS hlt)
      cases hp : (fun x => !inB x 0 9) (iv l k)
      · have HP:=As hp
        clear hp
        go_wp2_with (go_at_call 177;refine (Mv (iv l k) _).mono ?_;rintro e w' ⟨rfl,rfl⟩;(try rw [show (!inB (iv l k) 0 9) = false from HP.out]))
        go_round
        case rel => exact ⟨k + 1,by omega,by go_num,⟨by rw [HK.out,HD.out,List.any_cons,show (!inB (iv l k) 0 9) = false from HP.out,Bool.false_or]⟩⟩
        case measure => simp [intOf];omega
      · have HP:=As hp
        clear hp
        go_wp2_with (go_at_call 177;refine (Mv (iv l k) _).mono ?_;rintro e w' ⟨rfl,rfl⟩;(try rw [show (!inB (iv l k) 0 9) = true from HP.out]))
        go_ret
        exact ⟨k,rfl,by rw [HK.out,HD.out,List.any_cons,show (!inB (iv l k) 0 9) = true from HP.out];simp,rfl⟩
    · have hke : k = l.length:=by omega
      go_wp2
      go_ret
      exact ⟨-1,rfl,by rw [HK.out,hke,List.drop_length];rfl,rfl⟩
theorem Ot {w0 w : World} {A : Option Addr} {c : Nat} {l : List Int} (hb : Below w0.heap.size w0 w) (hr : Kd.C (Kd.int .i64) w0 A l.length l) : Calls Tryz.prog 148 #[.slice A l.length c, .func (.func 177) #[] #[]] w fun e w' => e = .returned (.bool (l.any fun x => !inB x 0 9)) ∧ w = w':=by
  have HR:=As (Bu hr hb)
  clear hr hb
  go_enter Tryz.func148,Tryz.ntmps148
  go_wp2_with (go_at_call 178;refine (Si (Below.refl _ _) HR.out).mono ?_;rintro e w' ⟨i,rfl,hi,rfl⟩)
  go_ret
  exact ⟨by first | exact AB hi | rfl,rfl⟩
def EG (l : List Int) : Bool := !(l.any fun x => x != 0)
def Fx (l : List Int) : Bool:=l.length == 3 && !(l.any fun x => !inB x 0 9)
theorem Ko {w0 w : World} {A : Option Addr} {c : Nat} {l : List Int} {b : Bool} (hv : EG l = b) (hb : Below w0.heap.size w0 w) (hr : Kd.C (Kd.int .i64) w0 A l.length l) : Calls Tryz.prog 172 #[.slice A l.length c] w fun e w' => e = .returned (.bool b) ∧ w' = w:=by
  have HR:=As (Bu hr hb)
  subst hv
  clear hr hb
  go_enter Tryz.func172,Tryz.ntmps172
  go_wp2_with (go_at_call 148;refine (Oq (Below.refl _ _) HR.out).mono ?_;rintro e w' ⟨rfl,rfl⟩)
  go_ret
  exact ⟨rfl,rfl⟩
theorem Iu {w0 w : World} {A : Option Addr} {c : Nat} {l : List Int} {b : Bool} (hv : Fx l = b) (hb : Below w0.heap.size w0 w) (hr : Kd.C (Kd.int .i64) w0 A l.length l) : Calls Tryz.prog 147 #[.slice A l.length c] w fun e w' => e = .returned (.bool b) ∧ w' = w:=by
  have HR:=As (Bu hr hb)
  have HV:=As hv
  clear hr hb hv
  rcases BO (l.length : Int) 3 with ⟨e1,b1,c1⟩ | ⟨e1,b1,c1⟩
  · go_enter Tryz.func147,Tryz.ntmps147
    go_wp2_with (go_at_call 148;refine (Ot (Below.refl _ _) HR.out).mono ?_;rintro e w' ⟨rfl,rfl⟩)
    go_ret
    exact ⟨AB (by rw [← HV.out,Fx,show (l.length == 3) = true by have:=e1.out;simp;omega];rfl),rfl⟩
  · go_enter Tryz.func147,Tryz.ntmps147
    go_wp2
    go_ret
    exact ⟨AB (by rw [← HV.out,Fx,show (l.length == 3) = false by have:=e1.out;simp;omega];rfl),rfl⟩
/-- Is a page ok? -/
def Bt (p : Page) : Bool:=inB p.lsn 0 150 && inB p.owner 0 3 && Fx p.vals && (p.owner != 0 || EG p.vals)
abbrev Page.val (p : Page) (A : Option Addr) (c : Nat) : Value:=.agg #[.int .i64 p.lsn, .int .i64 p.owner, .slice A p.vals.length c]
set_option maxHeartbeats 4000000 in
theorem Dx {w0 w : World} {A : Option Addr} {c : Nat} {p : Page} {b : Bool} (hv : Bt p = b) (hb : Below w0.heap.size w0 w) (hr : Kd.C (Kd.int .i64) w0 A p.vals.length p.vals) : Calls Tryz.prog 131 #[p.val A c] w fun e w' => e = .returned (.bool b) ∧ Below w.heap.size w w':=by
  have HR:=As (Bu hr hb)
  have HV:=As hv
  clear hr hb hv
  obtain ⟨v1,hv1⟩ : ∃ v1,Fx p.vals = v1:=⟨_,rfl⟩
  obtain ⟨z1,hz1⟩ : ∃ z1,EG p.vals = z1:=⟨_,rfl⟩
  have HV1:=As hv1
  have HZ1:=As hz1
  clear hv1 hz1
  rcases BO p.owner 0 with ⟨e1,b1,c1⟩ | ⟨e1,b1,c1⟩
  all_goals
    go_enter Tryz.func131,Tryz.ntmps131
    go_wp2_with (first | (go_at_call 77;refine (Cc _ _ _ _).mono ?_;rintro e w' ⟨rfl,rfl⟩) | (go_at_call 147;refine (Iu HV1.out ((Below.refl _ _).alloc (Nat.le_refl _) _) HR.out).mono ?_;rintro e w' ⟨rfl,rfl⟩) | (go_at_call 172;refine (Ko HZ1.out ((Below.refl _ _).alloc (Nat.le_refl _) _) HR.out).mono ?_;rintro e w' ⟨rfl,rfl⟩))
    all_goals (go_ret;exact ⟨AB (by rw [← HV.out,Bt,HV1.out,HZ1.out];simp [c1, *]),(Below.refl _ _).alloc (Nat.le_refl _) _⟩)
theorem Ci {p : Page} : Bt p = true ↔ 0 ≤ p.lsn ∧ p.lsn ≤ 150 ∧ 0 ≤ p.owner ∧ p.owner ≤ 3 ∧ p.vals.length = 3 ∧ ∀ x ∈ p.vals,0 ≤ x ∧ x ≤ 9 ∧ (p.owner = 0 → x = 0):=by
  simp only [Bt,Fx,EG,Bool.and_eq_true,Dj,Bool.or_eq_true,bne_iff_ne,Bool.not_eq_true',List.any_eq_false,beq_iff_eq]
  constructor
  · rintro ⟨⟨⟨⟨h1,h2⟩,h3,h4⟩,h5,h6⟩,h7⟩
    refine ⟨h1,h2,h3,h4,h5,fun x hx => ?_⟩
    have:=h6 x hx
    simp [inB] at this
    refine ⟨this.1,this.2,fun h0 => ?_⟩
    rcases h7 with h7 | h7
    · exact absurd h0 h7
    · have:=h7 x hx
      simpa using this
  · rintro ⟨h1,h2,h3,h4,h5,h6⟩
    refine ⟨⟨⟨⟨h1,h2⟩,h3,h4⟩,h5,fun x hx => ?_⟩,?_⟩
    · have:=h6 x hx
      simp [inB]
      omega
    · by_cases h0 : p.owner = 0
      · refine .inr fun x hx => ?_
        have:=(h6 x hx).2.2 h0
        simp [this]
      · exact .inl h0
theorem Xn {l : List Int} {k : Nat} (h : k < l.length) : iv l k ∈ l:=by
  simp [iv,List.getD_eq_getElem?_getD,h]
/-- A slice that is not empty begins at a plain address. -/
theorem Np {w : World} {A : Option Addr} {n : Nat} {l : List Int} (h : Kd.C (Kd.int .i64) w A n l) (hn : 0 < n) : ∃ b off,A = some ⟨b,off,none⟩ ∧ ∀ j,j < l.length → w.cell? ⟨b,off + j,none⟩ = some (.int .i64 (l.getD j 0)):=by
  obtain ⟨ad,rfl,h0⟩:=Dg h 0 hn
  have hs : ad.spot = none:=by
    have h1 : w.cell? ad = some (.int .i64 (iv l 0)):=h0
    unfold World.cell? at h1
    split at h1
    · cases e : ad.spot with
      | none => rfl
      | some s => rw [e] at h1;simp at h1
    · cases h1
  obtain ⟨b,off,s⟩:=ad
  obtain rfl : s = none:=hs
  refine ⟨b,off,rfl,fun j hj => ?_⟩
  obtain ⟨ad,e,h2⟩:=Dg h j (by rw [h.1] at hj;exact hj)
  obtain rfl:=Option.some.inj e
  have : (⟨b,off,none⟩ : Addr).add j = ⟨b,off + j,none⟩:=by
    unfold Addr.add
    split
    · rename_i h;subst h;rfl
    · rfl
  rw [this] at h2
  exact h2
theorem MW {w0 w : World} {A : Option Addr} {c : Nat} {l : List Int} (hl : l.length ≤ 17592186044416) (hb : Below w0.heap.size w0 w) (hr : Kd.C (Kd.int .i64) w0 A l.length l) : Calls Tryz.prog 121 #[.slice A l.length c] w (UK w l):=by
  have h:=Bu hr hb
  rcases Nat.eq_zero_or_pos l.length with h0 | h0
  · obtain rfl:=List.eq_nil_of_length_eq_zero h0
    cases A with
    | none => exact (Tryz.slices_Clone_int_nil 0 c w).mono fun e w' ⟨he,hw⟩ => ⟨_,he,AV.nil _ _,hw ▸ Below.refl _ _⟩
    | some a => exact (Tryz.slices_Clone_int_zero a c w).mono fun e w' ⟨v,he,ho,_,hb⟩ => ⟨v,he,ho,hb⟩
  · obtain ⟨b,off,rfl,hc⟩:=Np h h0
    refine (Tryz.slices_Clone_int b off l.length c l w (Nat.le_refl _) (by omega) hc).mono fun e w' ⟨v,he,ho,_,hb⟩ => ⟨v,he,?_,hb⟩
    rw [List.take_length] at ho
    exact ho
theorem JG {w0 w : World} {A : Option Addr} {c : Nat} {l : List Int} (x : Int) (hb : Below w0.heap.size w0 w) (hr : Kd.C (Kd.int .i64) w0 A l.length l) : Calls Tryz.prog 118 #[.slice A l.length c, .int .i64 x] w fun e w' => e = .returned (.bool (l.contains x)) ∧ w' = w:=by
  have h:=Bu hr hb
  rcases Nat.eq_zero_or_pos l.length with h0 | h0
  · obtain rfl:=List.eq_nil_of_length_eq_zero h0
    exact Tryz.slices_Contains_int_empty A c x w
  · obtain ⟨b,off,rfl,hc⟩:=Np h h0
    have:=Tryz.slices_Contains_int b off l.length c l x w (Nat.le_refl _) (CJ h).2 hc
    rwa [List.take_length] at this
theorem Rh {w0 w : World} {A B : Option Addr} {c d : Nat} {l m : List Int} {b : Bool} (hv : (l == m) = b) (hb : Below w0.heap.size w0 w) (hr : Kd.C (Kd.int .i64) w0 A l.length l) (hr2 : Kd.C (Kd.int .i64) w0 B m.length m) : Calls Tryz.prog 136 #[.slice A l.length c, .slice B m.length d] w fun e w' => e = .returned (.bool b) ∧ Below w.heap.size w w':=by
  have h:=Bu hr hb
  have h2:=Bu hr2 hb
  subst hv
  by_cases hn : l.length = m.length
  · rcases Nat.eq_zero_or_pos l.length with h0 | h0
    · obtain rfl:=List.eq_nil_of_length_eq_zero h0
      obtain rfl:=List.eq_nil_of_length_eq_zero (hn ▸ h0 : m.length = 0)
      exact (Tryz.slices_Equal_int_empty A B c 0 d w (by omega)).mono fun e w' ⟨he,hw⟩ => ⟨he,hw ▸ Below.refl _ _⟩
    · obtain ⟨b1,o1,rfl,hc1⟩:=Np h h0
      obtain ⟨b2,o2,rfl,hc2⟩:=Np h2 (by omega)
      refine (Tryz.slices_Equal_int b1 o1 l.length c b2 o2 m.length d l m w (Nat.le_refl _) (Nat.le_refl _) (CJ h).2 (CJ h2).2 hc1 hc2).mono fun e w' ⟨he,q,hw⟩ => ⟨?_,hw ▸ BG (Below.refl _ _) q⟩
      rw [List.take_length,List.take_length] at he
      exact he
  · refine (Tryz.slices_Equal_int_lens A B l.length c m.length d w hn).mono fun e w' ⟨he,hw⟩ => ⟨?_,hw ▸ Below.refl _ _⟩
    rw [he]
    exact AB (by symm;rw [beq_eq_false_iff_ne];intro e;exact hn (by rw [e]))
def FL (p q : Page) : Bool:=p.lsn == q.lsn && p.owner == q.owner && p.vals == q.vals
set_option maxHeartbeats 2000000 in
theorem ET {w0 w : World} {A B : Option Addr} {c d : Nat} {p q : Page} {b : Bool} (hv : FL p q = b) (hb : Below w0.heap.size w0 w) (hr : Kd.C (Kd.int .i64) w0 A p.vals.length p.vals) (hr2 : Kd.C (Kd.int .i64) w0 B q.vals.length q.vals) : Calls Tryz.prog 80 #[p.val A c,q.val B d] w fun e w' => e = .returned (.bool b) ∧ Below w.heap.size w w':=by
  have HR:=As (Bu hr hb)
  have HR2:=As (Bu hr2 hb)
  have HV:=As hv
  clear hr hr2 hb hv
  obtain ⟨v1,hv1⟩ : ∃ v1,(p.vals == q.vals) = v1:=⟨_,rfl⟩
  have HV1:=As hv1
  clear hv1
  rcases BO p.lsn q.lsn with ⟨e1,b1,c1⟩ | ⟨e1,b1,c1⟩
  all_goals rcases BO p.owner q.owner with ⟨e2,b2,c2⟩ | ⟨e2,b2,c2⟩
  all_goals
    go_enter Tryz.func80,Tryz.ntmps80
    go_wp2_with (go_at_call 136;refine (Rh HV1.out (((Below.refl _ _).alloc (Nat.le_refl _) _).alloc (by simp) _) HR.out HR2.out).mono ?_;rintro e w1 ⟨rfl,hb1⟩;have HX:=As (bj (((Below.refl _ _).alloc (Nat.le_refl _) _).alloc (by simp) _ : Below w.heap.size w _) hb1);clear hb1)
    all_goals (go_ret;first | exact ⟨AB (by rw [← HV.out,FL,HV1.out,b1,b2];simp),HX.out⟩ | exact ⟨AB (by rw [← HV.out,FL];simp [b1,b2]),(((Below.refl _ _).alloc (Nat.le_refl _) _).alloc (by simp) _)⟩)
abbrev Page.box (p : Page) (A : Option Addr) (c : Nat) : Obj:=.cells #[.int .i64 p.lsn, .int .i64 p.owner, .slice A p.vals.length c] 81
theorem Xr (w : World) (p : Page) (A : Option Addr) (c : Nat) : KP (w.alloc (p.box A c)) ⟨w.heap.size,0,none⟩ p A c:=⟨by go_simp,by go_simp,by go_simp⟩
theorem PW (w : World) (p : Page) (A : Option Addr) (c : Nat) : Below w.heap.size w (w.alloc (p.box A c)):=(Below.refl _ _).alloc (Nat.le_refl _) _
open Go.RowKit Go.Proofs.YtpjmlpmhgfghbaaGreatW.PrintWords Go.Proofs.YtpjmlpmhgfghbaaGreatW.PrintLast
section
variable {P : Program} {ops : Array Oper} {Q : Exit → Act → World → Prop} {md : Region.Mode} {S : Array Bool → Act → World → Prop} {m : Nat}
/-- S looks neither at operation i nor at its slot. -/
def Keeps (S : Array Bool → Act → World → Prop) (i : Nat) (d : Option Nat) : Prop := ∀ l a v w,S (l.setIfInBounds i true) (a.put d v) w ↔ S l a w
/-- What slot s holds, once operation i came up. -/
def Sl (i s : Nat) (p : Value → World → Prop) (l : Array Bool) (a : Act) (w : World) : Prop:=l.getD i false = true → p (a.tmps.getD s undef) w
theorem Aa {p : World → Prop} {i : Nat} {d : Option Nat} : Keeps (fun _ _ w => p w) i d:=fun _ _ _ _ => Iff.rfl
theorem kA {S T : Array Bool → Act → World → Prop} {i : Nat} {d : Option Nat} (h : Keeps S i d) (k : Keeps T i d) : Keeps (fun l a w => S l a w ∧ T l a w) i d:=fun l a v w => and_congr (h l a v w) (k l a v w)
theorem Ab {j i s d : Nat} {p : Value → World → Prop} (h : (d == s) = false) (hi : (j == i) = false) : Keeps (Sl i s p) j (some d):=fun l a v w => by
  have h : d ≠ s:=by simpa using h
  have hi : j ≠ i:=by simpa using hi
  have h1 : (a.put (some d) v).tmps.getD s undef = a.tmps.getD s undef:=by simp [Act.put,h]
  have h2 : (l.setIfInBounds j true).getD i false = l.getD i false:=getD_set_ne false hi
  rw [Sl,Sl,h1,h2]
/-- An operation that yields v in every world of S, and leaves one. -/
def LP (P : Program) (ops : Array Oper) (S : Array Bool → Act → World → Prop) (o : Oper) (v : Value) (a : Act) : Prop:=
  (Region.wanted o (yielded ops a.tmps) = true ∧ ∀ l a' w,S l a' w → Eff P (S l a') v ((execOp a.eval o).run P w)) ∨
  (Region.wanted o (yielded ops a.tmps) = false ∧ v = undef)
theorem LP.wpOp {i : Nat} {o : Oper} {v : Value} {a : Act} (hi : ops[i]? = some o) (hy : LP P ops S o v a)
    {K : Act → World → Prop} {w : World} {l : Array Bool} (hS : S l a w) (h : ∀ w',S l a w' → K (a.put o.dst v) w') : wpOp P ops Q i K a w:=by
  rcases hy with ⟨hw,hv⟩ | ⟨hw,rfl⟩
  · exact GY.wpOp (S:=S l a) hi (.inl ⟨hw,fun w hS => hv l a w hS⟩) hS h
  · exact GY.wpOp (S:=S l a) hi (.inr ⟨hw,rfl⟩) hS h
theorem LP.of_same {o : Oper} {v : Value} {a a' : Act} (hy : LP P ops S o v a) (he : execOp a'.eval o = execOp a.eval o)
    (hw : Region.wanted o (yielded ops a'.tmps) = Region.wanted o (yielded ops a.tmps)) : LP P ops S o v a':=by
  unfold LP at *
  rw [he,hw]
  exact hy
theorem OD {j : Nat} {oi oj : Oper} {v : Value} (hj : ops[j]? = some oj) (hap : oi.apart ops oj = true)
    (hsi : ∀ cs b,oi.op ≠ .select cs b) (hsj : ∀ cs b,oj.op ≠ .select cs b)
    (hQ : ∀ c a w,Q (.panic c) (a.put oi.dst v) w → Q (.panic c) a w) {K : Act → World → Prop} {a : Act} {w : World}
    (hy : LP P ops S oi v a) (h : wpOp P ops Q j K (a.put oi.dst v) w) :
    wpOp P ops Q j (fun a' w' => LP P ops S oi v a' ∧ K (a'.put oi.dst v) w') a w:=by
  obtain ⟨h1,h2,h3⟩:=Oper.apart_spec hap
  have keep : ∀ (a : Act),LP P ops S oi v a → ∀ u,LP P ops S oi v (a.put oj.dst u):=fun a hy u =>
    hy.of_same (execOp_put oi hsi a oj.dst u h3) (wanted_put oi a oj.dst u h3)
  have keepD : ∀ d,LP P ops S oi v { a with defers:=d :: a.defers }:=fun d => hy.of_same rfl rfl
  unfold wpOp at *
  simp only [hj] at *
  rw [wanted_put oj a oi.dst v h1] at h
  split
  · rename_i hw
    simp only [hw,if_true] at h
    rcases h with h | ⟨hasks,hlets⟩
    case inr => exact .inr ⟨by unfold Oper.asks at *;rw [execOp_put oj hsj a oi.dst v h1] at hasks;exact hasks,hlets⟩
    refine .inl ?_
    unfold Oper.wp at *
    rw [execOp_put oj hsj a oi.dst v h1] at h
    generalize (execOp a.eval oj).run P w = r at *
    cases r with
    | ok n w' =>
      cases n <;> simp only [Oper.upon] at h ⊢
      case value u => exact ⟨keep a hy u,by rw [← Act.put_comm a v u h2];exact h⟩
      case skip => exact ⟨keep a hy _,by rw [← Act.put_comm a v undef h2];exact h⟩
      case defer d =>
        refine ⟨keep _ (keepD d) _,?_⟩
        rw [← Act.put_comm _ v undef h2, ← Act.put_defers]
        exact h
      case enter f args =>
        refine Calls.mono h fun e w'' he => ?_
        cases e with
        | returned u => exact ⟨keep a hy u,by rw [← Act.put_comm a v u h2];exact he⟩
        | panicked c => exact hQ _ _ _ he
        | outgrown => exact he
      case row row args => exact Rows.mono h fun u w'' he => ⟨keep a hy u,by rw [← Act.put_comm a v u h2];exact he⟩
    | halt x w' =>
      cases x <;> simp only [Oper.upon] at h ⊢
      case panic u => exact hQ _ _ _ h
  · rename_i hw
    simp only [hw] at h
    exact ⟨keep a hy _,by rw [← Act.put_comm a v undef h2];exact h⟩
/-- Whatever order is picked from here on; of the world S alone is known, until one from m on came up. -/
def Kt (P : Program) (md : Region.Mode) (ops : Array Oper) (Q : Exit → Act → World → Prop) (S : Array Bool → Act → World → Prop) (m : Nat) : Nat → Array Bool → Act → Prop
  | 0,listed,a => Region.ready md ops listed = [] ∧ ∀ w,S listed a w → Q .normal a w
  | fuel + 1,listed,a =>
    (Region.ready md ops listed = [] → ∀ w,S listed a w → Q .normal a w) ∧
    ∀ i ∈ Region.ready md ops listed, ∀ w,S listed a w → wpOp P ops Q i (fun a' w' => (S (listed.setIfInBounds i true) a' w' ∧ Kt P md ops Q S m fuel (listed.setIfInBounds i true) a') ∨ (m ≤ i ∧ wpAny P md ops Q fuel (listed.setIfInBounds i true) a' w')) a w
theorem Nq : ∀ (fuel : Nat) (listed : Array Bool) (a : Act) (w : World),S listed a w → Kt P md ops Q S m fuel listed a → wpAny P md ops Q fuel listed a w
  | 0,_,_,w,hS,h => ⟨h.1,h.2 w hS⟩
  | fuel + 1,_,_,w,hS,h => ⟨fun hr => h.1 hr w hS,fun i hi => wpOp_mono (fun a' w' h' => h'.elim (fun h' => Nq fuel _ a' w' h'.1 h'.2) (fun h' => h'.2)) (h.2 i hi w hS)⟩
/-- Those from m on come up one by one, behind all others. -/
def Tail (md : Region.Mode) (ops : Array Oper) (m : Nat) : Prop := ∀ (listed : Array Bool) j,m ≤ j → j ∈ Region.ready md ops listed → ∀ i,i ∈ Region.ready md ops listed → i < m → False
theorem Pb {i : Nat} {oi : Oper} {v : Value} (hm : Tail md ops m) (him : i < m) (hi : ops[i]? = some oi) (hk : Keeps S i oi.dst) (hsel : ∀ (j : Nat) (o : Oper) cs b,ops[j]? = some o → o.op ≠ .select cs b)
    (hQ : ∀ c a w,Q (.panic c) (a.put oi.dst v) w → Q (.panic c) a w) :
    ∀ (fuel : Nat) (listed : Array Bool) (a : Act),
      (∀ j oj,ops[j]? = some oj → j ≠ i → listed.getD j true = false → (∀ e ∈ oj.after,Region.binds md e = true → e.on ≠ i) → oi.apart ops oj = true) →
      i ∈ Region.ready md ops listed → LP P ops S oi v a →
      Kt P md ops Q S m fuel (listed.setIfInBounds i true) (a.put oi.dst v) → Kt P md ops Q S m (fuel + 1) listed a:=by
  intro fuel
  induction fuel with
  | zero =>
    intro listed a _ hr hy H
    refine ⟨fun h => (by rw [h] at hr;cases hr),fun j hj w hS => ?_⟩
    by_cases hji : j = i
    · subst hji;exact hy.wpOp hi hS (fun w' h' => .inl ⟨(hk _ a v w').2 h',H⟩)
    · have:=ready_mono hj hji
      rw [H.1] at this
      cases this
  | succ fuel ih =>
    intro listed a hfree hr hy H
    refine ⟨fun h => (by rw [h] at hr;cases hr),fun j hj w hS => ?_⟩
    by_cases hji : j = i
    · subst hji;exact hy.wpOp hi hS (fun w' h' => .inl ⟨(hk _ a v w').2 h',H⟩)
    · have hjm : j < m:=Nat.lt_of_not_le fun e => hm listed j e hj i hr him
      have h1:=H.2 j (ready_mono hj hji) w ((hk _ a v w).2 hS)
      obtain ⟨hjun,oj,hoj,hall⟩:=mem_ready.1 hj
      have hnot : ∀ e ∈ oj.after,Region.binds md e = true → e.on ≠ i:=fun e he hb heq => by
        have h1:=hall e he hb
        have h0:=(mem_ready.1 hr).1
        rw [heq] at h1
        rcases Nat.lt_or_ge i listed.size with h' | h'
        · simp [h'] at h0 h1;rw [h0] at h1;cases h1
        · simp [Array.getElem?_eq_none h'] at h1
      have h2:=OD hoj (hfree j oj hoj hji hjun hnot) (fun cs b => hsel i oi cs b hi) (fun cs b => hsel j oj cs b hoj) hQ hy h1
      have hfree' : ∀ k ok,ops[k]? = some ok → k ≠ i → (listed.setIfInBounds j true).getD k true = false →
          (∀ e ∈ ok.after,Region.binds md e = true → e.on ≠ i) → oi.apart ops ok = true:=fun k ok hk hki hun hno => by
        refine hfree k ok hk hki ?_ hno
        by_cases hjk : j = k
        · subst hjk;exact hjun
        · rw [getD_set_ne true hjk] at hun;exact hun
      refine wpOp_mono (fun a' w' h3 => ?_) h2
      rcases h3.2 with h4 | h4
      · rw [Array.setIfInBounds_comm _ _ (Ne.symm hji)] at h4
        exact .inl ⟨(hk _ a' v w').1 h4.1,ih (listed.setIfInBounds j true) a' hfree' (ready_mono hr (Ne.symm hji)) h3.1 h4.2⟩
      · exact absurd h4.1 (by omega)
/-- Which ones came up. -/
def lsd (n : Nat) (done : List Nat) : Array Bool:=((List.range n).map fun j => done.contains j).toArray
theorem JP (n : Nat) : lsd n [] = Array.replicate n false:=by
  apply Array.ext <;> simp [lsd]
theorem Ie (n i : Nat) (done : List Nat) : (lsd n done).setIfInBounds i true = lsd n (i :: done):=by
  apply Array.ext
  · simp [lsd]
  · intro j h1 h2
    simp [lsd] at h1
    by_cases e : i = j
    · subst e;simp [lsd]
    · simp [lsd,e,Ne.symm e]
theorem Bc {n i s : Nat} {p : Value → World → Prop} {a : Act} {w : World} : Sl i s p (lsd n []) a w:=fun h => by
  rw [JP] at h
  simp [Array.getD] at h
/-- What is asked of the kernel: once; for one that is moved ahead; for one that is alone. -/
def Jl (ops : Array Oper) (m : Nat) : Bool:=Region.noSelect ops && (List.range ops.size).all fun j => decide (j < m) || match ops[j]? with
  | none => true
  | some o => (List.range m).all fun i => o.after.any fun e => e.on == i && Region.binds .any e
theorem Nz {m : Nat} (h : Jl ops m = true) : Tail .any ops m:=by
  intro listed j hmj hj i hi him
  obtain ⟨_,o,ho,hall⟩:=mem_ready.1 hj
  obtain ⟨hiu,oi,hoi,_⟩:=mem_ready.1 hi
  have hjl : j < ops.size:=(Array.getElem?_eq_some_iff.1 ho).1
  have h1:=List.all_eq_true.1 (Bool.and_eq_true_iff.1 h).2 j (by simpa using hjl)
  rw [ho] at h1
  simp only [Bool.or_eq_true,decide_eq_true_eq] at h1
  rcases h1 with h1 | h1
  · omega
  have h1:=List.all_eq_true.1 h1 i (by simpa using him)
  obtain ⟨e0,he0,h2⟩:=Array.any_eq_true'.1 h1
  simp only [Bool.and_eq_true,beq_iff_eq] at h2
  have h3:=hall e0 he0 h2.2
  rw [h2.1] at h3
  rcases Nat.lt_or_ge i listed.size with h' | h'
  · simp [h'] at hiu h3;rw [hiu] at h3;cases h3
  · simp [Array.getElem?_eq_none h'] at h3
def FJ (ops : Array Oper) (m : Nat) (done : List Nat) (i : Nat) : Bool:=Region.free .any ops (lsd ops.size done) i && (Region.ready .any ops (lsd ops.size done)).contains i && decide (done.length < ops.size) && decide (i < m)
def Ma (ops : Array Oper) (done : List Nat) (i : Nat) : Bool:=(Region.ready .any ops (lsd ops.size done) == [i]) && decide (done.length < ops.size)
/-- What is left, S known; what is left, at one world. -/
structure Reg (P : Program) (ops : Array Oper) (Q : Exit → Act → World → Prop) (S : Array Bool → Act → World → Prop) (m : Nat) (done : List Nat) (a : Act) : Prop where
  out : Kt P .any ops Q S m (ops.size - done.length) (lsd ops.size done) a
structure U1 (P : Program) (ops : Array Oper) (Q : Exit → Act → World → Prop) (done : List Nat) (a : Act) (w : World) : Prop where
  out : wpAny P .any ops Q (ops.size - done.length) (lsd ops.size done) a w
variable {i d : Nat} {o : Oper} {v : Value} {L : List Value} {D : List Deferred} {done : List Nat}
theorem ND {a : Act} (ht : Ac (Jl ops m = true)) (hi : ops.toList[i]? = some o) (hok : FJ ops m done i = true) (hk : Keeps S i o.dst)
    (hQ : ∀ c a w,Q (.panic c) (a.put o.dst v) w → Q (.panic c) a w) (he : LP P ops S o v a) (h : Reg P ops Q S m (i :: done) (a.put o.dst v)) : Reg P ops Q S m done a:=by
  refine ⟨?_⟩
  have hi' : ops[i]? = some o:=by rw [← Array.getElem?_toList];exact hi
  simp only [FJ,Bool.and_eq_true,decide_eq_true_eq] at hok
  obtain ⟨⟨⟨hf,hr⟩,hl⟩,hm⟩:=hok
  have hs:=(Bool.and_eq_true_iff.1 ht.out).1
  have h1:=h.out
  rw [List.length_cons, ← Ie] at h1
  rw [show ops.size - done.length = (ops.size - (done.length + 1)) + 1 by omega]
  exact Pb (Nz ht.out) hm hi' hk (Region.noSelect_spec hs) hQ _ _ a (Region.free_spec hi' hf) (by simpa using hr) he h1
/-- An operation that does not come up. -/
theorem EI (ht : Ac (Jl ops m = true)) (hi : ops.toList[i]? = some o) (hok : FJ ops m done i = true) (hd : o.dst = some d) (hk : Keeps S i (some d)) (hw : Region.wanted o (yielded ops L.toArray) = false)
    (hQ : ∀ c a w,Q (.panic c) (a.put o.dst undef) w → Q (.panic c) a w) (h : Reg P ops Q S m (i :: done) ⟨(L.set d undef).toArray,D⟩) : Reg P ops Q S m done ⟨L.toArray,D⟩:=
  ND ht hi hok (hd ▸ hk) hQ (.inr ⟨hw,rfl⟩) (by rw [hd,Cv];exact h)
/-- One that yields a value and leaves the world. -/
theorem Ae (ht : Ac (Jl ops m = true)) (hi : ops.toList[i]? = some o) (hok : FJ ops m done i = true) (hd : o.dst = some d) (hk : Keeps S i (some d)) (hw : Region.wanted o (yielded ops L.toArray) = true)
    (hQ : ∀ c a w,Q (.panic c) (a.put o.dst v) w → Q (.panic c) a w) (hr : ∀ l a w,S l a w → (execOp (Act.eval ⟨L.toArray,D⟩) o).run P w = .ok (.value v) w) (h : Reg P ops Q S m (i :: done) ⟨(L.set d v).toArray,D⟩) : Reg P ops Q S m done ⟨L.toArray,D⟩:=
  ND ht hi hok (hd ▸ hk) hQ (.inl ⟨hw,fun l a w hS => by rw [hr l a w hS];exact ⟨rfl,hS⟩⟩) (by rw [hd,Cv];exact h)
/-- Which call it is. -/
theorem Qq {f : FuncId} {fn : Func} {xs : Array Operand} {ts : Array TypeId} {args : Array Value} {a : Act} (hop : o.op = .call { callee:=.value (.func f),args:=xs,argTypes:=ts }) (hf : P.funcs[f]? = some fn) (hname : (fn.name == "runtime.NumGoroutine") = false) (hb : fn.body.isSome = true)
    (hargs : xs.map a.eval = args) (w : World) : (execOp a.eval o).run P w = .ok (.enter f args) w:=by
  have he:=TL hf hname hb args w
  have hv : a.eval (.func f) = .func (.func f) #[] #[]:=rfl
  unfold execOp
  simp [hop,resolve,Deferred.ofValue,invoke,hv,hargs,he]
/-- A call that yields one and the same value in all worlds of S. -/
theorem Jq {f : FuncId} {fn : Func} {xs : Array Operand} {ts : Array TypeId} {args : Array Value} (ht : Ac (Jl ops m = true)) (hi : ops.toList[i]? = some o) (hok : FJ ops m done i = true)
    (hop : o.op = .call { callee:=.value (.func f),args:=xs,argTypes:=ts }) (hf : P.funcs[f]? = some fn) (hname : (fn.name == "runtime.NumGoroutine") = false) (hb : fn.body.isSome = true) (hd : o.dst = some d) (hk : Keeps S i (some d)) (hw : Region.wanted o (yielded ops L.toArray) = true)
    (hQ : ∀ c a w,Q (.panic c) (a.put o.dst v) w → Q (.panic c) a w) (hargs : xs.map (Act.eval ⟨L.toArray,D⟩) = args)
    (hc : ∀ l a w,S l a w → Calls P f args w fun e w' => e = .returned v ∧ S l a w') (h : Reg P ops Q S m (i :: done) ⟨(L.set d v).toArray,D⟩) : Reg P ops Q S m done ⟨L.toArray,D⟩:=by
  refine ND (v:=v) ht hi hok (hd ▸ hk) hQ (.inl ⟨hw,fun l a w hS => ?_⟩) (by rw [hd,Cv];exact h)
  rw [Qq hop hf hname hb hargs]
  exact hc l a w hS
theorem OE {f : FuncId} {fn : Func} {xs : Array Operand} {ts : Array TypeId} {args : Array Value} {a : Act} {w : World} {K : Act → World → Prop} (hi : ops[i]? = some o)
    (hop : o.op = .call { callee:=.value (.func f),args:=xs,argTypes:=ts }) (hf : P.funcs[f]? = some fn) (hname : (fn.name == "runtime.NumGoroutine") = false) (hb : fn.body.isSome = true) (hw : Region.wanted o (yielded ops a.tmps) = true)
    (hargs : xs.map a.eval = args) (hc : Calls P f args w fun e w' => ∃ v,e = .returned v ∧ K (a.put o.dst v) w') : wpOp P ops Q i K a w:=by
  unfold Go.wpOp
  simp only [hi,hw,if_true]
  refine .inl ?_
  unfold Oper.wp
  rw [Qq hop hf hname hb hargs]
  exact Calls.mono hc fun e w' ⟨v,he,h⟩ => by subst he;exact h
theorem BJ {a : Act} {w w1 : World} {K : Act → World → Prop} (hi : ops.toList[i]? = some o) (hw : Region.wanted o (yielded ops a.tmps) = true) (hr : (execOp a.eval o).run P w = .ok .skip w1) (h : K (a.put o.dst undef) w1) : wpOp P ops Q i K a w:=by
  have hi' : ops[i]? = some o:=by rw [← Array.getElem?_toList];exact hi
  unfold Go.wpOp
  simp only [hi',hw,if_true]
  refine .inl ?_
  unfold Oper.wp
  rw [hr]
  exact h
/-- A call, alone, whose value hangs on the world. -/
theorem C9 {f : FuncId} {fn : Func} {xs : Array Operand} {ts : Array TypeId} {args : Array Value} (G : Value → Prop) (hi : ops.toList[i]? = some o) (hok : Ma ops done i = true)
    (hop : o.op = .call { callee:=.value (.func f),args:=xs,argTypes:=ts }) (hf : P.funcs[f]? = some fn) (hname : (fn.name == "runtime.NumGoroutine") = false) (hb : fn.body.isSome = true) (hd : o.dst = some d) (hw : Region.wanted o (yielded ops L.toArray) = true)
    (hargs : xs.map (Act.eval ⟨L.toArray,D⟩) = args)
    (hc : ∀ w,S (lsd ops.size done) ⟨L.toArray,D⟩ w → Calls P f args w fun e w' => ∃ v,e = .returned v ∧ G v ∧ S (lsd ops.size (i :: done)) ⟨(L.set d v).toArray,D⟩ w') (h : ∀ v,G v → Reg P ops Q S m (i :: done) ⟨(L.set d v).toArray,D⟩) : Reg P ops Q S m done ⟨L.toArray,D⟩:=by
  refine ⟨?_⟩
  have hi' : ops[i]? = some o:=by rw [← Array.getElem?_toList];exact hi
  simp only [Ma,Bool.and_eq_true,decide_eq_true_eq,beq_iff_eq] at hok
  rw [show ops.size - done.length = (ops.size - (done.length + 1)) + 1 by omega]
  refine ⟨fun h0 => (by rw [hok.1] at h0;cases h0),fun j hj w hS => ?_⟩
  rw [hok.1,List.mem_singleton] at hj
  subst hj
  refine OE hi' hop hf hname hb hw hargs ((hc w hS).mono fun e w' ⟨v,he,hg,hS'⟩ => ⟨v,he, .inl ?_⟩)
  rw [hd,Cv,Ie]
  exact ⟨hS',(h v hg).out⟩
theorem Jf {a : Act} {w w1 : World} {K : Act → World → Prop} (v : Value) (hi : ops.toList[i]? = some o) (hw : Region.wanted o (yielded ops a.tmps) = true) (hr : (execOp a.eval o).run P w = .ok (.value v) w1) (h : K (a.put o.dst v) w1) : wpOp P ops Q i K a w:=by
  have hi' : ops[i]? = some o:=by rw [← Array.getElem?_toList];exact hi
  unfold Go.wpOp
  simp only [hi',hw,if_true]
  refine .inl ?_
  unfold Oper.wp
  rw [hr]
  exact h
theorem BX {w w1 : World} {K : Act → World → Prop} (v : Value) (hi : ops.toList[i]? = some o) (hd : o.dst = some d) (hw : Region.wanted o (yielded ops L.toArray) = true) (hr : (execOp (Act.eval ⟨L.toArray,D⟩) o).run P w = .ok (.value v) w1) (h : K ⟨(L.set d v).toArray,D⟩ w1) : wpOp P ops Q i K ⟨L.toArray,D⟩ w:=
  Jf v hi hw hr (by rw [hd,Cv];exact h)
/-- A call at hand, its value hanging on the world. -/
theorem EZ {f : FuncId} {fn : Func} {xs : Array Operand} {ts : Array TypeId} {args : Array Value} {w : World} {K : Act → World → Prop} (hi : ops.toList[i]? = some o)
    (hop : o.op = .call { callee:=.value (.func f),args:=xs,argTypes:=ts }) (hf : P.funcs[f]? = some fn) (hname : (fn.name == "runtime.NumGoroutine") = false) (hb : fn.body.isSome = true) (hd : o.dst = some d) (hw : Region.wanted o (yielded ops L.toArray) = true)
    (hargs : xs.map (Act.eval ⟨L.toArray,D⟩) = args) (hc : Calls P f args w fun e w' => ∃ v,e = .returned v ∧ K ⟨(L.set d v).toArray,D⟩ w') : wpOp P ops Q i K ⟨L.toArray,D⟩ w:=by
  have hi' : ops[i]? = some o:=by rw [← Array.getElem?_toList];exact hi
  refine OE hi' hop hf hname hb hw hargs (hc.mono fun e w' ⟨v,he,h⟩ => ⟨v,he,?_⟩)
  rw [hd,Cv]
  exact h
/-- What comes next is one of these: each of them is taken. -/
theorem Ba {a : Act} (l : List Nat) (hok : (Region.ready .any ops (lsd ops.size done) == l && !l.isEmpty && decide (done.length < ops.size)) = true) (h : ∀ i ∈ l, ∀ w,S (lsd ops.size done) a w → wpOp P ops Q i (fun a' w' => S (lsd ops.size (i :: done)) a' w' ∧ Reg P ops Q S m (i :: done) a') a w) : Reg P ops Q S m done a:=by
  refine ⟨?_⟩
  simp only [Bool.and_eq_true,decide_eq_true_eq,beq_iff_eq,Bool.not_eq_true'] at hok
  rw [show ops.size - done.length = (ops.size - (done.length + 1)) + 1 by omega]
  refine ⟨fun h0 => (by rw [hok.1.1] at h0;rw [h0] at hok;simp at hok),fun j hj w hS => ?_⟩
  rw [hok.1.1] at hj
  refine wpOp_mono (fun a' w' h' => .inl ?_) (h j hj w hS)
  rw [Ie]
  exact ⟨h'.1,h'.2.out⟩
/-- One from m on, alone: the world is at hand from here on. -/
theorem Cg {a : Act} (hok : Ma ops done i = true) (hm : decide (m ≤ i) = true) (h : ∀ w,S (lsd ops.size done) a w → wpOp P ops Q i (fun a' w' => U1 P ops Q (i :: done) a' w') a w) : Reg P ops Q S m done a:=by
  refine ⟨?_⟩
  simp only [Ma,Bool.and_eq_true,decide_eq_true_eq,beq_iff_eq] at hok hm
  rw [show ops.size - done.length = (ops.size - (done.length + 1)) + 1 by omega]
  refine ⟨fun h0 => (by rw [hok.1] at h0;cases h0),fun j hj w hS => ?_⟩
  rw [hok.1,List.mem_singleton] at hj
  subst hj
  refine wpOp_mono (fun a' w' h' => .inr ⟨hm,?_⟩) (h w hS)
  rw [Ie]
  exact h'.out
theorem KA {a : Act} {w : World} (hok : Ma ops done i = true) (h : wpOp P ops Q i (fun a' w' => U1 P ops Q (i :: done) a' w') a w) : U1 P ops Q done a w:=by
  refine ⟨?_⟩
  simp only [Ma,Bool.and_eq_true,decide_eq_true_eq,beq_iff_eq] at hok
  rw [show ops.size - done.length = (ops.size - (done.length + 1)) + 1 by omega]
  refine ⟨fun h0 => (by rw [hok.1] at h0;cases h0),fun j hj => ?_⟩
  rw [hok.1,List.mem_singleton] at hj
  subst hj
  refine wpOp_mono (fun a' w' h' => ?_) h
  rw [Ie]
  exact h'.out
def WY (ops : Array Oper) (done : List Nat) : Bool:=Region.ready .any ops (lsd ops.size done) == []
theorem BQ {a : Act} {w : World} (hok : WY ops done = true) (h : Q .normal a w) : U1 P ops Q done a w:=by
  refine ⟨?_⟩
  have hr:=beq_iff_eq.1 hok
  generalize ops.size - done.length = n
  cases n with
  | zero => exact ⟨hr,h⟩
  | succ n => exact ⟨fun _ => h,fun i hi => by rw [hr] at hi;cases hi⟩
theorem AX {id : Nat} {a : Act} {w : World} (S : Array Bool → Act → World → Prop) (m : Nat) (hm : P.follows .mixedOrders = true) (ht : Jl ops m = true) (hS : S (lsd ops.size []) a w.drew)
    (h : Ac (Jl ops m = true) → Reg P ops Q S m [] a) : (Code.region id ops true).wp P Q a w:=by
  have h1:=(h ⟨ht⟩).out
  rw [JP] at h1 hS
  exact wp_region_any hm (Nq _ _ _ _ hS h1)
end
end Go.Proofs.YtpjmlpmhgfghbaaGreat
/- Pages of a call's own: copies of a page. -/
namespace Go.Proofs.YtpjmlpmhgfghbaaGreat
open Go.RowKit Go.Proofs.YtpjmlpmhgfghbaaGreatW.PrintWords Go.Proofs.YtpjmlpmhgfghbaaGreatW.PrintLast Go.Proofs.YtpjmlpmhgfghbaaGreatW.PrintMore
abbrev Page.own (p : Page) (v : Value) : Value:=.agg #[.int .i64 p.lsn, .int .i64 p.owner,v]
/-- A call that hands back a page of its own. -/
def Ox (w : World) (p : Page) (e : Ending) (w' : World) : Prop := ∃ v,e = .returned (p.own v) ∧ AV w' w.heap.size v p.vals ∧ Below w.heap.size w w'
abbrev Cw : Obj:=.cells #[.int .i64 0, .int .i64 0, .slice none 0 0] 81
theorem WM (w : World) (p : Page) (A : Option Addr) (c : Nat) : KP ((w.alloc (p.box A c)).alloc Cw) ⟨w.heap.size,0,none⟩ p A c:=(Xr w p A c).up ((Below.refl _ _).alloc (Nat.le_refl _) _)
/-- A page's variable: block g is one, and holds these three. -/
def AR (w : World) (g : Nat) (p : Page) (v : Value) : Prop:=w.heap[g]? = some (.cells #[.int .i64 p.lsn, .int .i64 p.owner,v] 81 (0,0))
theorem AR.c0 {w : World} {g : Nat} {p : Page} {v : Value} (h : AR w g p v) : w.cell? ⟨g,0,none⟩ = some (.int .i64 p.lsn):=by unfold AR at h;simp [World.cell?,h]
theorem AR.c1 {w : World} {g : Nat} {p : Page} {v : Value} (h : AR w g p v) : w.cell? ⟨g,1,none⟩ = some (.int .i64 p.owner):=by unfold AR at h;simp [World.cell?,h]
theorem AR.c2 {w : World} {g : Nat} {p : Page} {v : Value} (h : AR w g p v) : w.cell? ⟨g,2,none⟩ = some v:=by unfold AR at h;simp [World.cell?,h]
theorem AR.frz {w : World} {g : Nat} {p : Page} {v : Value} (h : AR w g p v) (k : Nat) : w.frozen? ⟨g,k,none⟩ = false:=by unfold AR at h;simp [World.frozen?,h]
theorem AR.up {w w1 : World} {g : Nat} {p : Page} {v : Value} (h : AR w g p v) (hb : Below w.heap.size w w1) : AR w1 g p v:=by
  have hg : g < w.heap.size:=(Array.getElem?_eq_some_iff.1 h).1
  exact (hb.block g hg).trans h
theorem AR.mk1 (w : World) (p : Page) (v : Value) : AR (w.alloc (.cells #[.int .i64 p.lsn, .int .i64 p.owner,v] 81)) w.heap.size p v:=by
  show (w.heap.push _)[w.heap.size]? = _
  simp
theorem heap_setCell_same {w : World} {g j : Nat} {cs : Array Value} {t : TypeId} {f : Nat × Nat} (h : w.heap[g]? = some (.cells cs t f)) (u : Value) : (w.setCell ⟨g,j,none⟩ u).heap[g]? = some (.cells (cs.setIfInBounds j u) t f):=by
  simp only [World.setCell,Array.getElem?_modify,h]
  simp
theorem AR.set0 {w : World} {g : Nat} {p : Page} {v : Value} (h : AR w g p v) (x : Int) : AR (w.setCell ⟨g,0,none⟩ (.int .i64 x)) g ⟨x,p.owner,p.vals⟩ v:=heap_setCell_same h _
theorem AR.set1 {w : World} {g : Nat} {p : Page} {v : Value} (h : AR w g p v) (x : Int) : AR (w.setCell ⟨g,1,none⟩ (.int .i64 x)) g ⟨p.lsn,x,p.vals⟩ v:=heap_setCell_same h _
theorem AR.set2 {w : World} {g : Nat} {p : Page} {v : Value} (h : AR w g p v) (x : Value) : AR (w.setCell ⟨g,2,none⟩ x) g p x:=heap_setCell_same h _
def zp : Page:=⟨0,0, []⟩
theorem Rk (w : World) (p : Page) (A : Option Addr) (c : Nat) : AR ((w.alloc (p.box A c)).alloc Cw) (w.heap.size + 1) zp (.slice none 0 0):=by
  have:=AR.mk1 (w.alloc (p.box A c)) zp (.slice none 0 0)
  rwa [show (w.alloc (p.box A c)).heap.size = w.heap.size + 1 by simp] at this
theorem AV.set {w : World} {b g : Nat} {v : Value} {xs : List Int} (h : AV w b v xs) (hg : g < b) (u : Value) (j : Nat) : AV (w.setCell ⟨g,j,none⟩ u) b v xs:=ownsRow_setCell_below h hg u
/-- All three cells written anew. -/
abbrev Cu (w : World) (g : Nat) (p : Page) (v : Value) : World:=((w.setCell ⟨g,0,none⟩ (.int .i64 p.lsn)).setCell ⟨g,1,none⟩ (.int .i64 p.owner)).setCell ⟨g,2,none⟩ v
theorem AR.Cu {w : World} {g : Nat} {q : Page} {u : Value} (h : AR w g q u) (p : Page) (v : Value) : AR (Cu w g p v) g p v:=((h.set0 p.lsn).set1 p.owner).set2 v
theorem AV.Cu {w : World} {b g : Nat} {v : Value} {xs : List Int} (h : AV w b v xs) (hg : g < b) (p : Page) (u : Value) : AV (Cu w g p u) b v xs:=((h.set hg _ _).set hg _ _).set hg _ _
theorem Cr {w0 w : World} {g : Nat} (h : Below w0.heap.size w0 w) (hg : w0.heap.size ≤ g) (p : Page) (u : Value) : Below w0.heap.size w0 (Cu w g p u):=((h.setCell (p:=⟨g,0,none⟩) hg _).setCell (p:=⟨g,1,none⟩) hg _).setCell (p:=⟨g,2,none⟩) hg _
theorem XM (w : World) (p : Page) (A : Option Addr) (c : Nat) : w.heap.size + 2 ≤ ((w.alloc (p.box A c)).alloc Cw).drew.heap.size:=by simp
theorem Rj (w : World) (p : Page) (A : Option Addr) (c : Nat) : Below w.heap.size w ((w.alloc (p.box A c)).alloc Cw):=bj (PW w p A c) ((Below.refl _ _).alloc (Nat.le_refl _) _)
set_option maxRecDepth 100000 in
set_option maxHeartbeats 4000000 in
theorem EA {w0 w : World} {A : Option Addr} {c : Nat} {p : Page} (hl : p.vals.length ≤ 17592186044416) (hb : Below w0.heap.size w0 w) (hr : Kd.C (Kd.int .i64) w0 A p.vals.length p.vals) : Calls Tryz.prog 61 #[p.val A c] w (Ox w p):=by
  have HR:=As (Bu hr hb)
  have HL:=As hl
  have HA:=As (WM w p A c)
  have HB:=As (Rj w p A c)
  have HA2:=As (Rk w p A c)
  clear hr hb hl
  go_enter Tryz.func61,Tryz.ntmps61
  go_wp2
  refine AX (fun lx a wx => (Below w.heap.size w wx ∧ w.heap.size + 2 ≤ wx.heap.size ∧ KP wx ⟨w.heap.size,0,none⟩ p A c ∧ AR wx (w.heap.size + 1) zp (.slice none 0 0)) ∧ Sl 6 9 (fun v wx => AV wx (w.heap.size + 2) v p.vals) lx a wx) 8 rfl (by kernel_rfl) (⟨⟨Ak HB.out,XM w p A c,HA.out.up (Ak (Below.refl _ _)),HA2.out.up (Ak (Below.refl _ _))⟩,Bc⟩) (fun HT => ?_)
  refine Ae (i:=0) (v:=?_) HT rfl (by kernel_rfl) rfl (kA Aa (Ab rfl rfl)) (by rfl) (fun _ _ _ h => h) (fun lx ax wx hS => ?_) ?_;rotate_left;(obtain ⟨⟨-, -,⟨x0,x1,x2⟩, -⟩, -⟩:=hS;go_simp;with_reducible rfl);rotate_left;simp only [sc0,sc1]
  refine Ae (i:=1) (v:=?_) HT rfl (by kernel_rfl) rfl (kA Aa (Ab rfl rfl)) (by rfl) (fun _ _ _ h => h) (fun lx ax wx hS => ?_) ?_;rotate_left;(obtain ⟨⟨-, -,⟨x0,x1,x2⟩, -⟩, -⟩:=hS;go_simp;with_reducible rfl);rotate_left;simp only [sc0,sc1]
  refine Ae (i:=2) (v:=?_) HT rfl (by kernel_rfl) rfl (kA Aa (Ab rfl rfl)) (by rfl) (fun _ _ _ h => h) (fun lx ax wx hS => ?_) ?_;rotate_left;(obtain ⟨⟨-, -,⟨x0,x1,x2⟩, -⟩, -⟩:=hS;go_simp;with_reducible rfl);rotate_left;simp only [sc0,sc1]
  refine Ae (i:=3) (v:=?_) HT rfl (by kernel_rfl) rfl (kA Aa (Ab rfl rfl)) (by rfl) (fun _ _ _ h => h) (fun lx ax wx hS => ?_) ?_;rotate_left;(obtain ⟨⟨-, -,⟨x0,x1,x2⟩, -⟩, -⟩:=hS;go_simp;with_reducible rfl);rotate_left;simp only [sc0,sc1]
  refine Ae (i:=4) (v:=?_) HT rfl (by kernel_rfl) rfl (kA Aa (Ab rfl rfl)) (by rfl) (fun _ _ _ h => h) (fun lx ax wx hS => ?_) ?_;rotate_left;(obtain ⟨⟨-, -,⟨x0,x1,x2⟩, -⟩, -⟩:=hS;go_simp;with_reducible rfl);rotate_left;simp only [sc0,sc1]
  refine Ae (i:=5) (v:=?_) HT rfl (by kernel_rfl) rfl (kA Aa (Ab rfl rfl)) (by rfl) (fun _ _ _ h => h) (fun lx ax wx hS => ?_) ?_;rotate_left;(obtain ⟨⟨-, -,⟨x0,x1,x2⟩, -⟩, -⟩:=hS;go_simp;with_reducible rfl);rotate_left;simp only [sc0,sc1]
  refine C9 (i:=6) (f:=121) (args:=#[.slice A p.vals.length c]) (fun v => ∃ A1 c1,v = .slice A1 p.vals.length c1) rfl (by kernel_rfl) rfl Tryz.func121 (by kernel_rfl) rfl rfl (by rfl) (by simp only [List.map_toArray,List.map_cons,List.map_nil];rfl) (fun wx hS => (MW HL.out hS.1.1 HR.out).mono (by rintro e w1 ⟨v,rfl,ho,hb⟩;obtain ⟨A1,c1,rfl, -, -⟩:=ho.reads;exact ⟨_,rfl,⟨A1,c1,rfl⟩,⟨bj hS.1.1 hb,by have:=hS.1.2.1;have:=hb.size;omega,hS.1.2.2.1.up hb,hS.1.2.2.2.up hb⟩,fun _ => ho.lower hS.1.2.1⟩)) (fun vx hg => ?_);simp only [sc0,sc1]
  obtain ⟨A1,c1,rfl⟩:=hg
  refine Ae (i:=7) (v:=?_) HT rfl (by kernel_rfl) rfl (kA Aa (Ab rfl rfl)) (by rfl) (fun _ _ _ h => h) (fun lx ax wx hS => ?_) ?_;rotate_left;(go_simp;with_reducible rfl);rotate_left;simp only [sc0,sc1]
  refine Cg (i:=8) (by kernel_rfl) rfl (fun wx hS => ?_)
  obtain ⟨⟨h1,h2, -,hy⟩,hs⟩:=hS
  have ho : AV wx (w.heap.size + 2) (.slice A1 p.vals.length c1) p.vals:=hs (by kernel_rfl)
  clear hs
  have y0:=hy.c0
  have y1:=hy.c1
  have y2:=hy.c2
  have f0:=hy.frz 0
  have f1:=hy.frz 1
  have f2:=hy.frz 2
  refine BJ (w1:=?_) rfl (by rfl) ?_ ?_
  rotate_left
  · go_simp
    with_reducible rfl
  have hy2:=((hy.set0 p.lsn).set1 p.owner).set2 (.slice A1 p.vals.length c1)
  have ho2:=(((ho.set (g:=w.heap.size + 1) (by omega) (Value.int .i64 p.lsn) 0).set (g:=w.heap.size + 1) (by omega) (Value.int .i64 p.owner) 1).set (g:=w.heap.size + 1) (by omega) (.slice A1 p.vals.length c1) 2)
  have h3:=((h1.setCell (p:=⟨w.heap.size + 1,0,none⟩) (by simp) (Value.int .i64 p.lsn)).setCell (p:=⟨w.heap.size + 1,1,none⟩) (by simp) (Value.int .i64 p.owner)).setCell (p:=⟨w.heap.size + 1,2,none⟩) (by simp) (.slice A1 p.vals.length c1)
  have z0:=hy2.c0
  have z1:=hy2.c1
  have z2:=hy2.c2
  refine BQ (by kernel_rfl) ?_
  go_wp2
  exact bodyPost_ret (v:=p.own (.slice A1 p.vals.length c1)) (by simp [results,Tryz.results61,go_sem,z0,z1,z2]) rfl ⟨_,rfl,ho2.lower (by omega),h3⟩
abbrev Kr (w : World) (base : Nat) (v : Value) (ps : List Page) : Prop:=Kd.R Dn 81 w base (fun _ => True) v ps
/-- The same, no two of which share their slots; their blocks are ok. -/
abbrev OwnPk (w : World) (base : Nat) (ok : Nat → Prop) (v : Value) (ps : List Page) : Prop:=Kd.S Dn 81 w base ok v ps
abbrev E9 (w : World) (base : Nat) (v : Value) (ps : List Page) : Prop:=OwnPk w base (fun _ => True) v ps
def O6 (w : World) (ps : List Page) (e : Ending) (w' : World) : Prop := ∃ v,e = .returned v ∧ E9 w' w.heap.size v ps ∧ Below w.heap.size w w'
theorem UB : (Tryz.prog.info? 81).map (fun i => (i.zero,i.size,i.bytes)) = some (some (.agg #[.int .i64 0, .int .i64 0, .slice none 0 0]),3,40):=by kernel_rfl
theorem Qk : Tryz.prog.underlying 25 = some (.slice 81):=Tryz.underlying25
theorem Tp {xs : List Page} {k : Nat} (h : k < xs.length) : xs.drop k = pg xs k :: xs.drop (k + 1):=by
  rw [List.drop_eq_getElem_cons h]
  simp [pg,List.getD_eq_getElem?_getD,h]
theorem Tk {xs : List Page} {k : Nat} (h : k < xs.length) : xs.take (k + 1) = xs.take k ++ [pg xs k]:=by
  rw [List.take_add_one]
  simp [pg,List.getD_eq_getElem?_getD,h]
theorem XR {w : World} {base : Nat} {v : Value} {ps : List Page} (h : Kr w base v ps) : ∀ k,v.ownBlock = some k → k < w.heap.size:=by
  obtain ⟨inner,ho⟩:=Kd.Kq h
  exact fun k hk => NM ho k hk
theorem Xg {w : World} {base : Nat} {ok : Nat → Prop} {v : Value} {ps : List Page} (h : OwnPk w base ok v ps) : ∀ k,v.ownBlock = some k → k < w.heap.size:=Kd.Yb h
theorem L8 {w : World} {base : Nat} {ok : Nat → Prop} {v : Value} {ps : List Page} (h : OwnPk w base ok v ps) : ∀ k,v.ownBlock = some k → ok k:=by
  obtain ⟨f,h0,_⟩:=h
  exact h0
section
variable {ops : Array Oper} {rest : List Oper} {o : Oper} {a : Act} {Q : Exit → Act → World → Prop}
/-- A page of the call's own goes behind pages of its own. N: the pages' blocks are elder than the page's slots. -/
theorem Gj {w0 W : World} {N : Nat} {v u : Value} {ps : List Page} {p : Page} (hgd : o.guard = none) (s x : Operand)
    (ho : o.op = .call { callee:=.builtin .append,args:=#[s,x],argTypes:=#[25,25] }) (hs : a.eval s = v) (hx : a.eval x = .slice (some ⟨W.heap.size,0,none⟩) 1 1)
    (hp : AV W N u p.vals) (HO : OwnPk W w0.heap.size (fun k => True ∧ k < N) v ps) (HB : Below w0.heap.size w0 W) (hl : ps.length + 1 ≤ 1000) (hN : w0.heap.size ≤ N)
    (h : ∀ v1 w1,E9 w1 w0.heap.size v1 (ps ++ [p]) → Below w0.heap.size w0 w1 → wpList Tryz.prog ops Q rest (a.put o.dst v1) w1) :
    wpList Tryz.prog ops Q (o :: rest) a (W.alloc (.cells #[.int .i64 p.lsn, .int .i64 p.owner,u] 81)):=by
  have hv:=L8 HO
  refine Kd.VS Dn w0.heap.size hgd s x 25 81 _ 40 ho Qk UB rfl (by decide) (by decide) v ps p [.int .i64 p.lsn, .int .i64 p.owner,u] (fun _ => True) (fun k => some k = u.ownBlock) hs hx ?_ (fun k hk => ⟨trivial,fun e => ?_⟩) (fun _ _ => trivial) (Kd.DN HO (fun k hk => ⟨trivial,fun e => ?_⟩)) HB HB.size (by omega) (fun v1 w1 h1 h2 _ _ => h v1 w1 h1 h2)
  · exact FQ W _ _ p (Kd.G5 (En hp hN) (fun k hk => hk.symm))
  · have h1:=Cq hp k hk.symm
    have h2:=(hv k e.symm).2
    omega
  · have h1:=Cq hp k e.symm
    have h2:=hk.2
    omega
end
/-- All pages' slots are few enough to be copied. -/
def Nk (ps : List Page) : Prop := ∀ p ∈ ps,p.vals.length ≤ 17592186044416
theorem VF {ps : List Page} (h : Nk ps) {k : Nat} (hk : k < ps.length) : (pg ps k).vals.length ≤ 17592186044416:=h _ (by simp [pg,List.getD_eq_getElem?_getD,hk])
set_option maxHeartbeats 4000000 in
theorem Ez {w0 w : World} {A : Option Addr} {c : Nat} {ps : List Page} (hf : Nk ps) (hn : ps.length ≤ 150) (hb : Below w0.heap.size w0 w) (hr : Kd.C Dn w0 A ps.length ps) : Calls Tryz.prog 49 #[.slice A ps.length c] w (O6 w ps):=by
  have HR:=As (Bu hr hb)
  have HF:=As hf
  clear hr hb hf
  go_enter Tryz.func49,Tryz.ntmps49
  go_wp2
  go_loopw [3,8] (fun v i wr => ∃ k : Nat,k ≤ ps.length ∧ i = .int .i64 (k : Int) ∧ Ac (E9 wr w.heap.size v (ps.take k)) ∧ Ac (Below w.heap.size w wr)) (fun _ i _ => (ps.length - intOf i).toNat)
  case atStart => exact ⟨0,Nat.zero_le _,rfl,⟨Kd.Rq _ _ _ _ _⟩,⟨Below.refl _ _⟩⟩
  case round =>
    obtain ⟨k,hk,rfl,HO,HW⟩:=hrel
    have hm : ps.length ≤ 9223372036854775807:=(CJ HR.out).2
    by_cases hlt : k < ps.length
    · obtain ⟨ad,A2,c2,rfl,QP, -,g2⟩:=EP (Bu HR.out HW.out) k hlt
      obtain ⟨x0,x1,x2⟩:=QP
      have HG:=As g2
      have HFk:=As (VF HF.out hlt)
      have HN:=As hn
      clear g2 hn
      go_wp2_with (first | (go_at_call 61;refine (EA (w0:=wr) HFk.out (by go_grown) HG.out).mono ?_;rintro e w2 ⟨v,rfl,ho,hb2⟩;have HOv:=As (ho.lower (b':=wr.heap.size) (by simp));have HW2:=As (bj ((Below.refl _ wr).alloc (Nat.le_refl _) _) hb2);have HO2:=As (Kd.DC HO.out HW2.out);clear ho hb2) | (at_builtin;refine Gj (p:=pg ps k) rfl (.tmp 12) (.tmp 15) rfl rfl rfl HOv.out HO2.out (bj HW.out HW2.out) (by have:=HN.out;simp;omega) HW.out.size ?_;intro v1 w3 hR hb3;have HR3:=As hR;have HW3:=As hb3;clear hR hb3))
      go_roundw
      case rel => exact ⟨k + 1,by omega,by go_num,⟨by rw [Tk hlt];exact HR3.out⟩,HW3⟩
      case measure => simp [intOf];omega
    · have HE:=As (show k = ps.length by omega)
      go_wp2
      go_ret
      exact ⟨_,rfl,by have:=HO.out;rwa [HE.out,List.take_length] at this,HW.out⟩
end Go.Proofs.YtpjmlpmhgfghbaaGreat
/- The reference's copies of pages. -/
namespace Go.Proofs.YtpjmlpmhgfghbaaGreat
open Go.RowKit Go.Proofs.YtpjmlpmhgfghbaaGreatW.PrintWords Go.Proofs.YtpjmlpmhgfghbaaGreatW.PrintLast Go.Proofs.YtpjmlpmhgfghbaaGreatW.PrintMore
theorem Vh (W : World) (base : Nat) (e : TypeId) (size : Nat) (hb : base ≤ W.heap.size) : (W.alloc (.cells #[] e)).ownsRow base e size (.slice (some ⟨W.heap.size,0,none⟩) 0 0) 0 []:=by
  refine ⟨by simp, .inr ⟨W.heap.size,0,#[],rfl,hb,?_,?_⟩⟩
  · show (W.heap.push _)[W.heap.size]? = _
    simp
  · simp
theorem own_none' {W : World} {g base : Nat} (e : TypeId) (size : Nat) (hg : g = W.heap.size) (hb : base ≤ W.heap.size) : (W.alloc (.cells #[] e)).ownsRow base e size (.slice (some ⟨g,0,none⟩) 0 0) 0 []:=hg ▸ Vh W base e size hb
theorem Xq (w : World) (p : Page) (A : Option Addr) (c : Nat) : AR ((w.alloc (p.box A c)).alloc Cw) w.heap.size p (.slice A p.vals.length c):=(AR.mk1 w p _).up ((Below.refl _ _).alloc (Nat.le_refl _) _)
theorem Xd (w : World) (p : Page) (A : Option Addr) (c : Nat) : ((w.alloc (p.box A c)).alloc Cw).heap.size = w.heap.size + 2:=by simp
theorem AR.far {w : World} {g h : Nat} {p : Page} {v : Value} (hy : AR w g p v) (hne : h ≠ g) (j : Nat) (u : Value) : AR (w.setCell ⟨h,j,none⟩ u) g p v:=(Below.heap_setCell w ⟨h,j,none⟩ u g (Ne.symm hne)).trans hy
set_option maxRecDepth 100000 in
set_option maxHeartbeats 4000000 in
theorem Eu {w0 w : World} {A : Option Addr} {c : Nat} {p : Page} (hl : p.vals.length ≤ 17592186044416) (hb : Below w0.heap.size w0 w) (hr : Kd.C (Kd.int .i64) w0 A p.vals.length p.vals) : Calls Tryz.prog 57 #[p.val A c] w (Ox w p):=by
  have HR:=As (Bu hr hb)
  have HL:=As hl
  have HA:=As (Xq w p A c)
  have HB:=As (Rj w p A c)
  have HA2:=As (Rk w p A c)
  have HZ:=As (Xd w p A c)
  clear hr hb hl
  obtain ⟨W2,hW2⟩ : ∃ W2,(w.alloc (p.box A c)).alloc Cw = W2:=⟨_,rfl⟩
  have HW2:=As hW2
  rw [hW2] at HA HB HA2 HZ
  clear hW2
  go_enter Tryz.func57,Tryz.ntmps57
  go_wp2_with (at_builtin;go_loud (rw [HW2.out]);go_loud (refine M7 (w0:=W2) W2.heap.size rfl (.tmp 3) (.tmp 5) 33 3 .i64 8 rfl Dy EL (by omega) _ [] p.vals A p.vals.length c rfl rfl (own_none' 3 1 HZ.out.symm (Nat.le_refl _)) (Kd.NF (enc:=Value.int .i64) (d:=(0 : Int)) (h1:=fun _ => rfl) (Bu HR.out (bj HB.out ((Below.refl _ _).alloc (Nat.le_refl _) _)))) ((Below.refl _ _).alloc (Nat.le_refl _) _) (by simp) (by have:=HL.out;simp;omega) ?_);intro v1 w1 hown hb1 _ _;have hown : AV w1 W2.heap.size v1 p.vals:=hown;obtain ⟨A1,c1,rfl, -, -⟩:=hown.reads;have HO:=As hown;have HA1:=As (HA.out.up hb1);have HA3:=As (HA2.out.up hb1);have HB1:=As (bj HB.out hb1);have x0:=HA1.out.c0;have x1:=HA1.out.c1;have x2:=HA1.out.c2;have x3:=HA1.out.frz 2;have y0:=HA3.out.c0;have y1:=HA3.out.c1;have y2:=HA3.out.c2;have f0:=HA3.out.frz 0;have f1:=HA3.out.frz 1;have f2:=HA3.out.frz 2;clear hown hb1)
  have HA5:=As (HA1.out.set2 (.slice A1 p.vals.length c1))
  have ho1:=HO.out
  rw [HZ.out] at ho1
  have ho2:=ho1.set (g:=w.heap.size) (by omega) (.slice A1 p.vals.length c1) 2
  have h2:=HB1.out.setCell (p:=⟨w.heap.size,2,none⟩) (by simp) (.slice A1 p.vals.length c1)
  have ho3:=ho2.Cu (g:=w.heap.size + 1) (by omega) p (.slice A1 p.vals.length c1)
  have h3:=Cr (g:=w.heap.size + 1) h2 (by omega) p (.slice A1 p.vals.length c1)
  have hy:=AR.Cu (show AR (w1.setCell ⟨w.heap.size,2,none⟩ (.slice A1 p.vals.length c1)) (w.heap.size + 1) zp (.slice none 0 0) from HA3.out.far (by omega) _ _) p (.slice A1 p.vals.length c1)
  have z0:=hy.c0
  have z1:=hy.c1
  have z2:=hy.c2
  exact bodyPost_ret (v:=p.own (.slice A1 p.vals.length c1)) (by simp [results,Tryz.results57,go_sem,z0,z1,z2]) rfl ⟨_,rfl,ho3.lower (by omega),h3⟩
theorem NG {W : World} {g base : Nat} (hg : g = W.heap.size) (hb : base ≤ W.heap.size) : E9 (W.alloc (.cells #[] 81)) base (.slice (some ⟨g,0,none⟩) 0 0) []:=⟨fun _ => 0,fun _ _ => trivial, [],own_none' _ 3 hg hb,Reps.none _ _⟩
set_option maxHeartbeats 4000000 in
theorem EU {w0 w : World} {A : Option Addr} {c : Nat} {ps : List Page} (hf : Nk ps) (hn : ps.length ≤ 150) (hb : Below w0.heap.size w0 w) (hr : Kd.C Dn w0 A ps.length ps) : Calls Tryz.prog 100 #[.slice A ps.length c] w (O6 w ps):=by
  have HR:=As (Bu hr hb)
  have HF:=As hf
  clear hr hb hf
  go_enter Tryz.func100,Tryz.ntmps100
  go_wp2
  go_loopw [3,4] (fun v i wr => ∃ k : Nat,k ≤ ps.length ∧ i = .int .i64 (k : Int) ∧ Ac (E9 wr w.heap.size v (ps.take k)) ∧ Ac (Below w.heap.size w wr)) (fun _ i _ => (ps.length - intOf i).toNat)
  case atStart => exact ⟨0,Nat.zero_le _,rfl,⟨NG rfl (Nat.le_refl _)⟩,⟨(Below.refl _ _).alloc (Nat.le_refl _) _⟩⟩
  case round =>
    obtain ⟨k,hk,rfl,HO,HW⟩:=hrel
    have hm : ps.length ≤ 9223372036854775807:=(CJ HR.out).2
    by_cases hlt : k < ps.length
    · obtain ⟨ad,A2,c2,rfl,QP, -,g2⟩:=EP (Bu HR.out HW.out) k hlt
      obtain ⟨x0,x1,x2⟩:=QP
      have HG:=As g2
      have HFk:=As (VF HF.out hlt)
      have HN:=As hn
      clear g2 hn
      go_wp2_with (first | (go_at_call 57;refine (Eu (w0:=wr) HFk.out (Below.refl _ _) HG.out).mono ?_;rintro e w2 ⟨v,rfl,ho,hb2⟩;have HOv:=As ho;have HW2:=As hb2;have HO2:=As (Kd.DC HO.out HW2.out);clear ho hb2) | (at_builtin;refine Gj (p:=pg ps k) rfl (.tmp 12) (.tmp 18) rfl rfl rfl HOv.out HO2.out (bj HW.out HW2.out) (by have:=HN.out;simp;omega) HW.out.size ?_;intro v1 w3 hR hb3;have HR3:=As hR;have HW3:=As hb3;clear hR hb3))
      go_roundw
      case rel => exact ⟨k + 1,by omega,by go_num,⟨by rw [Tk hlt];exact HR3.out⟩,HW3⟩
      case measure => simp [intOf];omega
    · have HE:=As (show k = ps.length by omega)
      go_wp2
      go_ret
      exact ⟨_,rfl,by have:=HO.out;rwa [HE.out,List.take_length] at this,HW.out⟩
/-- A page behind a record, its number as it was. -/
def AZ (p : Page) (r : Rec) : Page:=if 0 ≤ r.slot then ⟨p.lsn,p.owner,p.vals.set r.slot.toNat r.new⟩ else if r.new = 0 then ⟨p.lsn,0, [0,0,0]⟩ else ⟨p.lsn,r.new,p.vals⟩
abbrev Rec.box (r : Rec) : Obj:=.cells #[.int .i64 r.kind, .int .i64 r.tx, .int .i64 r.page, .int .i64 r.slot, .int .i64 r.old, .int .i64 r.new, .int .i64 r.prev, .int .i64 r.next] 98
theorem Gh (w : World) (r : Rec) : FZ (w.alloc r.box) ⟨w.heap.size,0,none⟩ r:=⟨by go_simp,by go_simp,by go_simp,by go_simp,by go_simp,by go_simp,by go_simp,by go_simp⟩
theorem Ah {w0 w : World} (h : Below w0.heap.size w0 w) (o : Obj) : Below w0.heap.size w0 (w.alloc o):=h.alloc h.size o
theorem BF (w : World) (o : Obj) : (w.alloc o).heap.size = w.heap.size + 1:=by simp
theorem AV.lt {w : World} {b k : Nat} {v : Value} {xs : List Int} (h : AV w b v xs) (hk : v.ownBlock = some k) : k < w.heap.size:=NM h k hk
theorem AV.base {w : World} {b k : Nat} {v : Value} {xs : List Int} (h : AV w b v xs) (hk : v.ownBlock = some k) : b ≤ k:=Cq h k hk
theorem AV.at {w : World} {b g cap : Nat} {xs : List Int} (h : AV w b (.slice (some ⟨g,0,none⟩) xs.length cap) xs) (i : Int) (h0 : 0 ≤ i) (h1 : i < xs.length) : w.cell? ⟨g,i.toNat,none⟩ = some (.int .i64 (rd xs i)) ∧ w.frozen? ⟨g,i.toNat,none⟩ = false:=Xj h i h0 h1
theorem AV.far {w : World} {b g : Nat} {v : Value} {xs : List Int} (h : AV w b v xs) (hg : ∀ k,v.ownBlock = some k → k ≠ g) (u : Value) (j : Nat) : AV (w.setCell ⟨g,j,none⟩ u) b v xs:=QA h (fun e => hg g e.symm rfl) u
theorem AV.put {w : World} {b g cap : Nat} {xs : List Int} (h : AV w b (.slice (some ⟨g,0,none⟩) xs.length cap) xs) (i x : Int) : AV (w.setCell ⟨g,i.toNat,none⟩ (.int .i64 x)) b (.slice (some ⟨g,0,none⟩) xs.length cap) (xs.set i.toNat x):=Wx h i x
/-- The world with a page's variable in it, under a name. -/
theorem FD {P : Program} {ops : Array Oper} {l : List Oper} {Q : Exit → Act → World → Prop} {a : Act} {w : World} (p : Page) {v : Value} (h : ∀ w1,Below w.heap.size w w1 → w1.heap.size = w.heap.size + 1 → AR w1 w.heap.size p v → wpList P ops Q l a w1) : wpList P ops Q l a (w.alloc (.cells #[.int .i64 p.lsn, .int .i64 p.owner,v] 81)):=
  h _ ((Below.refl _ _).alloc (Nat.le_refl _) _) (BF _ _) (AR.mk1 w p v)
theorem Ty : ∀ W : World,(Instr.makeSlice 33 (.int .i64 3) (.int .i64 3)).run Tryz.prog W = .ok (.slice (some ⟨W.heap.size,0,none⟩) 3 3) (W.alloc (.cells (madeCells #[.int .i64 0] 3) 3)):=RO 33 3 .i64 8 Dy EL (by decide) 3 (by decide)
set_option maxRecDepth 100000 in
set_option maxHeartbeats 4000000 in
theorem Ku {w0 w : World} {A : Option Addr} {c : Nat} {p : Page} (r : Rec) (hl : p.vals.length ≤ 17592186044416) (hs : r.slot < p.vals.length) (hb : Below w0.heap.size w0 w) (hr : Kd.C (Kd.int .i64) w0 A p.vals.length p.vals) : Calls Tryz.prog 106 #[p.val A c,r.val] w (Ox w (AZ p r)):=by
  have HR:=As (Bu hr hb)
  have HL:=As hl
  have HS:=As hs
  clear hr hb hl hs
  obtain ⟨W1,hW1⟩ : ∃ W1,w.alloc (p.box A c) = W1:=⟨_,rfl⟩
  obtain ⟨W2,hW2⟩ : ∃ W2,W1.alloc r.box = W2:=⟨_,rfl⟩
  obtain ⟨W3,hW3⟩ : ∃ W3,W2.alloc Cw = W3:=⟨_,rfl⟩
  have Z1 : W1.heap.size = w.heap.size + 1:=by rw [← hW1,BF]
  have Z2 : W2.heap.size = w.heap.size + 2:=by rw [← hW2,BF,Z1]
  have Z3 : W3.heap.size = w.heap.size + 3:=by rw [← hW3,BF,Z2]
  have hR3 : FZ W3 ⟨w.heap.size + 1,0,none⟩ r:=by
    have:=Gh W1 r
    rw [Z1,hW2] at this
    rw [← hW3]
    exact this.up (Ah (Below.refl _ _) _)
  have hP3 : AR W3 (w.heap.size + 2) zp (.slice none 0 0):=by
    have:=AR.mk1 W2 zp (.slice none 0 0)
    rw [Z2] at this
    rw [← hW3]
    exact this
  have hB3 : Below w.heap.size w W3:=by
    rw [← hW3, ← hW2, ← hW1]
    exact Ah (Ah (Ah (Below.refl _ _) _) _) _
  have HW3 : Ac (((w.alloc (p.box A c)).alloc r.box).alloc Cw = W3):=⟨by rw [hW1,hW2,hW3]⟩
  have HR3:=As hR3
  have HP3:=As hP3
  have HB3:=As hB3
  have HZ3:=As Z3
  clear hW1 hW2 hW3 Z1 Z2 Z3 hR3 hP3 hB3
  rcases lts r.slot 0 with ⟨e1,b1,c1⟩ | ⟨e1,b1,c1⟩
  · rcases BO r.new 0 with ⟨e2,b2,c2⟩ | ⟨e2,b2,c2⟩
    · go_enter Tryz.func106,Tryz.ntmps106
      go_wp2_with (first | (go_at_call 61;rw [HW3.out];refine (EA (w0:=w) HL.out HB3.out HR.out).mono ?_;rintro e w1 ⟨v,rfl,ho,hb1⟩;obtain ⟨A1,c1,rfl, -, -⟩:=ho.reads;have HO:=As ho;have HB1:=As hb1;clear ho hb1) | (with_reducible refine FD p ?_;intro w2 hb2 hz2 hq2;have HB2:=As (bj HB1.out hb2);have HW2:=As (bj HB3.out HB2.out);have HR2:=As (HR3.out.up HB2.out);have HP2:=As (HP3.out.up HB2.out);have HO2:=As (HO.out.below hb2);have HQ2:=As hq2;have hlt : w.heap.size + 3 ≤ w1.heap.size:=(by have:=HB1.out.size;have:=HZ3.out;omega);have hn1 : w.heap.size + 1 ≠ w1.heap.size:=(by omega);have hn2 : w.heap.size + 2 ≠ w1.heap.size:=(by omega);obtain ⟨-, -, -,x3, -,x5, -, -⟩:=HR2.out;simp only [Nat.zero_add] at x3 x5;have y0:=HP2.out.c0;have y1:=HP2.out.c1;have y2:=HP2.out.c2;have f0:=HP2.out.frz 0;have f1:=HP2.out.frz 1;have f2:=HP2.out.frz 2;have q0:=hq2.c0;have q1:=hq2.c1;have q2:=hq2.c2;have g1:=hq2.frz 1;have g2:=hq2.frz 2;clear hb2 hq2))
      have hmk:=Ty
      go_region
      obtain ⟨W5,hW5⟩ : ∃ W5,(((w2.setCell ⟨w1.heap.size,1,none⟩ (.int .i64 0)).setCell ⟨w1.heap.size,2,none⟩ (.slice (some ⟨w1.heap.size + 1,0,none⟩) 3 3)).alloc (.cells (madeCells #[.int .i64 0] 3) 3)).drew = W5:=⟨_,rfl⟩
      have hs : ((w2.setCell ⟨w1.heap.size,1,none⟩ (.int .i64 0)).setCell ⟨w1.heap.size,2,none⟩ (.slice (some ⟨w1.heap.size + 1,0,none⟩) 3 3)).heap.size = w1.heap.size + 1:=by simp [hz2]
      have hup : Below (w1.heap.size + 1) ((w2.setCell ⟨w1.heap.size,1,none⟩ (.int .i64 0)).setCell ⟨w1.heap.size,2,none⟩ (.slice (some ⟨w1.heap.size + 1,0,none⟩) 3 3)) W5:=by
        rw [← hW5]
        exact ((Below.refl _ _).alloc (by omega) _).drew
      have hup : Below ((w2.setCell ⟨w1.heap.size,1,none⟩ (.int .i64 0)).setCell ⟨w1.heap.size,2,none⟩ (.slice (some ⟨w1.heap.size + 1,0,none⟩) 3 3)).heap.size ((w2.setCell ⟨w1.heap.size,1,none⟩ (.int .i64 0)).setCell ⟨w1.heap.size,2,none⟩ (.slice (some ⟨w1.heap.size + 1,0,none⟩) 3 3)) W5:=(congrArg (fun n => Below n _ W5) hs).mpr hup
      have hQ5 : AR W5 w1.heap.size ⟨p.lsn,0,p.vals⟩ (.slice (some ⟨w1.heap.size + 1,0,none⟩) 3 3):=((HQ2.out.set1 0).set2 _).up hup
      have hP5 : AR W5 (w.heap.size + 2) zp (.slice none 0 0):=((HP2.out.far (h:=w1.heap.size) (by omega) 1 _).far (h:=w1.heap.size) (by omega) 2 _).up hup
      have hB5 : Below w.heap.size w W5:=bj ((HW2.out.setCell (p:=⟨w1.heap.size,1,none⟩) (by simp;omega) _).setCell (p:=⟨w1.heap.size,2,none⟩) (by simp;omega) _) hup
      have hO5 : AV W5 W3.heap.size (.slice (some ⟨w1.heap.size + 1,0,none⟩) 3 3) [0,0,0]:=by
        rw [← hW5]
        have:=JO ((w2.setCell ⟨w1.heap.size,1,none⟩ (.int .i64 0)).setCell ⟨w1.heap.size,2,none⟩ (.slice (some ⟨w1.heap.size + 1,0,none⟩) 3 3)) W3.heap.size 3 .i64 3 (by have:=HZ3.out;omega) (by decide)
        rw [hs] at this
        exact this
      rw [hW5]
      have q0:=hQ5.c0
      have q1:=hQ5.c1
      have q2:=hQ5.c2
      have y0:=hP5.c0
      have y1:=hP5.c1
      have y2:=hP5.c2
      have f0:=hP5.frz 0
      have f1:=hP5.frz 1
      have f2:=hP5.frz 2
      have HO5:=As hO5
      have HB5:=As hB5
      have HP5:=As hP5
      clear hO5 hB5 hP5 hQ5 hup hs hW5
      go_wp2
      have h1:=HO5.out.Cu (g:=w.heap.size + 2) (by have:=HZ3.out;omega) ⟨p.lsn,0, [0,0,0]⟩ (.slice (some ⟨w1.heap.size + 1,0,none⟩) 3 3)
      have h2:=Cr (g:=w.heap.size + 2) HB5.out (by omega) ⟨p.lsn,0, [0,0,0]⟩ (.slice (some ⟨w1.heap.size + 1,0,none⟩) 3 3)
      have hy:=HP5.out.Cu ⟨p.lsn,0, [0,0,0]⟩ (.slice (some ⟨w1.heap.size + 1,0,none⟩) 3 3)
      have z0:=hy.c0
      have z1:=hy.c1
      have z2:=hy.c2
      have hw : AZ p r = ⟨p.lsn,0, [0,0,0]⟩:=by rw [AZ,if_neg (by have:=e1.out;omega),if_pos e2.out]
      rw [hw]
      exact bodyPost_ret (v:=(⟨p.lsn,0, [0,0,0]⟩ : Page).own (.slice (some ⟨w1.heap.size + 1,0,none⟩) 3 3)) (by simp [results,Tryz.results106,go_sem,z0,z1,z2]) rfl ⟨_,rfl,h1.lower (by have:=HZ3.out;omega),h2⟩
    · go_enter Tryz.func106,Tryz.ntmps106
      go_wp2_with (first | (go_at_call 61;rw [HW3.out];refine (EA (w0:=w) HL.out HB3.out HR.out).mono ?_;rintro e w1 ⟨v,rfl,ho,hb1⟩;obtain ⟨A1,c1,rfl, -, -⟩:=ho.reads;have HO:=As ho;have HB1:=As hb1;clear ho hb1) | (with_reducible refine FD p ?_;intro w2 hb2 hz2 hq2;have HB2:=As (bj HB1.out hb2);have HW2:=As (bj HB3.out HB2.out);have HR2:=As (HR3.out.up HB2.out);have HP2:=As (HP3.out.up HB2.out);have HO2:=As (HO.out.below hb2);have HQ2:=As hq2;have hlt : w.heap.size + 3 ≤ w1.heap.size:=(by have:=HB1.out.size;have:=HZ3.out;omega);have hn1 : w.heap.size + 1 ≠ w1.heap.size:=(by omega);have hn2 : w.heap.size + 2 ≠ w1.heap.size:=(by omega);obtain ⟨-, -, -,x3, -,x5, -, -⟩:=HR2.out;simp only [Nat.zero_add] at x3 x5;have y0:=HP2.out.c0;have y1:=HP2.out.c1;have y2:=HP2.out.c2;have f0:=HP2.out.frz 0;have f1:=HP2.out.frz 1;have f2:=HP2.out.frz 2;have q0:=hq2.c0;have q1:=hq2.c1;have q2:=hq2.c2;have g1:=hq2.frz 1;have g2:=hq2.frz 2;clear hb2 hq2))
      have h1:=(HO2.out.far (g:=w1.heap.size) (fun k hk => by have:=HO.out.lt hk;omega) (Value.int .i64 r.new) 1).Cu (g:=w.heap.size + 2) (by have:=HZ3.out;omega) ⟨p.lsn,r.new,p.vals⟩ (.slice A1 p.vals.length c1)
      have h2:=Cr (g:=w.heap.size + 2) (HW2.out.setCell (p:=⟨w1.heap.size,1,none⟩) (by simp;omega) (Value.int .i64 r.new)) (by omega) ⟨p.lsn,r.new,p.vals⟩ (.slice A1 p.vals.length c1)
      have hy:=(HP2.out.far (h:=w1.heap.size) (by omega) 1 (Value.int .i64 r.new)).Cu ⟨p.lsn,r.new,p.vals⟩ (.slice A1 p.vals.length c1)
      have z0:=hy.c0
      have z1:=hy.c1
      have z2:=hy.c2
      have hw : AZ p r = ⟨p.lsn,r.new,p.vals⟩:=by rw [AZ,if_neg (by have:=e1.out;omega),if_neg e2.out]
      rw [hw]
      exact bodyPost_ret (v:=(⟨p.lsn,r.new,p.vals⟩ : Page).own (.slice A1 p.vals.length c1)) (by simp [results,Tryz.results106,go_sem,z0,z1,z2]) rfl ⟨_,rfl,h1.lower (by have:=HZ3.out;omega),h2⟩
  · have hs2:=HS.out
    have hs1:=e1.out
    go_enter Tryz.func106,Tryz.ntmps106
    go_wp2_with (first | (go_at_call 61;rw [HW3.out];refine (EA (w0:=w) HL.out HB3.out HR.out).mono ?_;rintro e w1 ⟨v,rfl,ho,hb1⟩;obtain ⟨g,cap,rfl,hgb,hgl⟩:=ho.form (by have:=HS.out;have:=e1.out;omega);have HG:=As (And.intro hgb hgl);clear hgb hgl;have HO:=As ho;have HB1:=As hb1;clear ho hb1) | (with_reducible refine FD p ?_;(intro w2 hb2 hz2 hq2;have HB2:=As (bj HB1.out hb2);have HW2:=As (bj HB3.out HB2.out);have HR2:=As (HR3.out.up HB2.out);have HP2:=As (HP3.out.up HB2.out);have HO2:=As (HO.out.below hb2);have HQ2:=As hq2;have hlt : w.heap.size + 3 ≤ w1.heap.size:=(by have:=HB1.out.size;have:=HZ3.out;omega);have hn1 : w.heap.size + 1 ≠ w1.heap.size:=(by omega);have hn2 : w.heap.size + 2 ≠ w1.heap.size:=(by omega);obtain ⟨-, -, -,x3, -,x5, -, -⟩:=HR2.out;simp only [Nat.zero_add] at x3 x5;have y0:=HP2.out.c0;have y1:=HP2.out.c1;have y2:=HP2.out.c2;have f0:=HP2.out.frz 0;have f1:=HP2.out.frz 1;have f2:=HP2.out.frz 2;have q0:=hq2.c0;have q1:=hq2.c1;have q2:=hq2.c2;have g1:=hq2.frz 1;have g2:=hq2.frz 2;have hgw : g < w1.heap.size:=HO.out.lt (k:=g) rfl;have hgb : w.heap.size + 3 ≤ g:=(by have:=HO.out.base (k:=g) rfl;have:=HZ3.out;omega);have hg1 : w1.heap.size ≠ g:=(by omega);have hg2 : w.heap.size + 1 ≠ g:=(by omega);have hg3 : w.heap.size + 2 ≠ g:=(by omega);obtain ⟨p1,p2⟩:=HO2.out.at r.slot e1.out (by have:=HS.out;omega);clear hb2 hq2)))
    have h1:=(HO2.out.put r.slot r.new).Cu (g:=w.heap.size + 2) (by have:=HZ3.out;omega) p (.slice (some ⟨g,0,none⟩) p.vals.length cap)
    have h2:=Cr (g:=w.heap.size + 2) (HW2.out.setCell (p:=⟨g,r.slot.toNat,none⟩) (by simp;omega) (Value.int .i64 r.new)) (by omega) p (.slice (some ⟨g,0,none⟩) p.vals.length cap)
    have hy:=(HP2.out.far (h:=g) (by omega) r.slot.toNat (Value.int .i64 r.new)).Cu p (.slice (some ⟨g,0,none⟩) p.vals.length cap)
    have z0:=hy.c0
    have z1:=hy.c1
    have z2:=hy.c2
    have hw : AZ p r = ⟨p.lsn,p.owner,p.vals.set r.slot.toNat r.new⟩:=by rw [AZ,if_pos e1.out]
    rw [hw]
    exact bodyPost_ret (v:=(⟨p.lsn,p.owner,p.vals.set r.slot.toNat r.new⟩ : Page).own (.slice (some ⟨g,0,none⟩) p.vals.length cap)) (by simp [results,Tryz.results106,go_sem,z0,z1,z2]) rfl ⟨_,rfl,h1.lower (by have:=HZ3.out;omega),h2⟩
/-- A page behind a record, of that record. -/
def doR (p : Page) (r : Rec) (n : Int) : Page:=⟨n,(AZ p r).owner,(AZ p r).vals⟩
theorem UO {P : Program} {ops : Array Oper} {l : List Oper} {Q : Exit → Act → World → Prop} {a : Act} {W : World} (h : ∀ w1,Below W.heap.size W w1 → AV w1 W.heap.size (.slice (some ⟨W.heap.size,0,none⟩) 3 3) [0,0,0] → wpList P ops Q l a w1) : wpList P ops Q l a (W.alloc (.cells (madeCells #[.int .i64 0] 3) 3)):=
  h _ ((Below.refl _ _).alloc (Nat.le_refl _) _) (JO W W.heap.size 3 .i64 3 (Nat.le_refl _) (by decide))
set_option maxRecDepth 100000 in
set_option maxHeartbeats 4000000 in
theorem NR {w0 w : World} {A : Option Addr} {c : Nat} {p : Page} (r : Rec) (n : Int) (hl : p.vals.length ≤ 17592186044416) (hs : r.slot < p.vals.length) (hb : Below w0.heap.size w0 w) (hr : Kd.C (Kd.int .i64) w0 A p.vals.length p.vals) : Calls Tryz.prog 160 #[p.val A c,r.val, .int .i64 n] w (Ox w (doR p r n)):=by
  have HR:=As (Bu hr hb)
  have HL:=As hl
  have HS:=As hs
  clear hr hb hl hs
  obtain ⟨W1,hW1⟩ : ∃ W1,w.alloc (p.box A c) = W1:=⟨_,rfl⟩
  obtain ⟨W2,hW2⟩ : ∃ W2,W1.alloc r.box = W2:=⟨_,rfl⟩
  obtain ⟨W3,hW3⟩ : ∃ W3,W2.alloc Cw = W3:=⟨_,rfl⟩
  have Z1 : W1.heap.size = w.heap.size + 1:=by rw [← hW1,BF]
  have Z2 : W2.heap.size = w.heap.size + 2:=by rw [← hW2,BF,Z1]
  have Z3 : W3.heap.size = w.heap.size + 3:=by rw [← hW3,BF,Z2]
  have hR3 : FZ W3 ⟨w.heap.size + 1,0,none⟩ r:=by
    have:=Gh W1 r
    rw [Z1,hW2] at this
    rw [← hW3]
    exact this.up (Ah (Below.refl _ _) _)
  have hP3 : AR W3 (w.heap.size + 2) zp (.slice none 0 0):=by
    have:=AR.mk1 W2 zp (.slice none 0 0)
    rw [Z2] at this
    rw [← hW3]
    exact this
  have hB3 : Below w.heap.size w W3:=by
    rw [← hW3, ← hW2, ← hW1]
    exact Ah (Ah (Ah (Below.refl _ _) _) _) _
  have HW3 : Ac (((w.alloc (p.box A c)).alloc r.box).alloc Cw = W3):=⟨by rw [hW1,hW2,hW3]⟩
  have HR3:=As hR3
  have HP3:=As hP3
  have HB3:=As hB3
  have HZ3:=As Z3
  clear hW1 hW2 hW3 Z1 Z2 Z3 hR3 hP3 hB3
  rcases lts r.slot 0 with ⟨e1,b1,c1⟩ | ⟨e1,b1,c1⟩
  · rcases BO r.new 0 with ⟨e2,b2,c2⟩ | ⟨e2,b2,c2⟩
    · have hmk:=Ty
      go_enter Tryz.func160,Tryz.ntmps160
      go_wp2_with (first | (go_at_call 57;rw [HW3.out];refine (Eu (w0:=w) HL.out HB3.out HR.out).mono ?_;rintro e w1 ⟨v,rfl,ho,hb1⟩;obtain ⟨A1,c1,rfl, -, -⟩:=ho.reads;have HO:=As ho;have HB1:=As hb1;clear ho hb1) | (with_reducible refine FD p ?_;intro w2 hb2 hz2 hq2;have HB2:=As (bj HB1.out hb2);have HW2:=As (bj HB3.out HB2.out);have HR2:=As (HR3.out.up HB2.out);have HP2:=As (HP3.out.up HB2.out);have HO2:=As (HO.out.below hb2);have HQ2:=As hq2;have hlt : w.heap.size + 3 ≤ w1.heap.size:=(by have:=HB1.out.size;have:=HZ3.out;omega);have hn1 : w.heap.size + 1 ≠ w1.heap.size:=(by omega);have hn2 : w.heap.size + 2 ≠ w1.heap.size:=(by omega);obtain ⟨-, -, -,x3, -,x5, -, -⟩:=HR2.out;simp only [Nat.zero_add] at x3 x5;have y0:=HP2.out.c0;have y1:=HP2.out.c1;have y2:=HP2.out.c2;have f0:=HP2.out.frz 0;have f1:=HP2.out.frz 1;have f2:=HP2.out.frz 2;have q0:=hq2.c0;have q1:=hq2.c1;have q2:=hq2.c2;have g0:=hq2.frz 0;have g1:=hq2.frz 1;have g2:=hq2.frz 2;clear hb2 hq2) | (with_reducible refine UO ?_;intro w4 hb4 ho4;have hQ4:=((HQ2.out.set0 n).set1 r.new).up hb4;have hP4:=((HP2.out.far (h:=w1.heap.size) (by omega) 0 (Value.int .i64 n)).far (h:=w1.heap.size) (by omega) 1 (Value.int .i64 r.new)).up hb4;have HB4:=As (bj ((HW2.out.setCell (p:=⟨w1.heap.size,0,none⟩) (by simp;omega) (Value.int .i64 n)).setCell (p:=⟨w1.heap.size,1,none⟩) (by simp;omega) (Value.int .i64 r.new)) hb4);simp only [World.size_setCell,hz2] at ho4;have HO4:=As ho4;have HQ4:=As hQ4;have HP4:=As hP4;have q0':=hQ4.c0;have q1':=hQ4.c1;have q2':=hQ4.c2;have g2':=hQ4.frz 2;have y0':=hP4.c0;have y1':=hP4.c1;have y2':=hP4.c2;have f0':=hP4.frz 0;have f1':=hP4.frz 1;have f2':=hP4.frz 2;clear hb4 ho4 hQ4 hP4))
      have h1:=(HO4.out.set (g:=w1.heap.size) (by omega) (.slice (some ⟨w1.heap.size + 1,0,none⟩) 3 3) 2).Cu (g:=w.heap.size + 2) (by omega) ⟨n,r.new, []⟩ (.slice (some ⟨w1.heap.size + 1,0,none⟩) 3 3)
      have h2:=Cr (g:=w.heap.size + 2) (HB4.out.setCell (p:=⟨w1.heap.size,2,none⟩) (by simp;omega) (.slice (some ⟨w1.heap.size + 1,0,none⟩) 3 3)) (by omega) ⟨n,r.new, []⟩ (.slice (some ⟨w1.heap.size + 1,0,none⟩) 3 3)
      have hy:=(HP4.out.far (h:=w1.heap.size) (by omega) 2 (.slice (some ⟨w1.heap.size + 1,0,none⟩) 3 3)).Cu ⟨n,r.new, []⟩ (.slice (some ⟨w1.heap.size + 1,0,none⟩) 3 3)
      have z0:=hy.c0
      have z1:=hy.c1
      have z2:=hy.c2
      have hw : doR p r n = ⟨n,r.new, [0,0,0]⟩:=by rw [doR,AZ,if_neg (by have:=e1.out;omega),if_pos e2.out,e2.out]
      rw [hw]
      exact bodyPost_ret (v:=(⟨n,r.new, [0,0,0]⟩ : Page).own (.slice (some ⟨w1.heap.size + 1,0,none⟩) 3 3)) (by simp [results,Tryz.results160,go_sem,z0,z1,z2]) rfl ⟨_,rfl,h1.lower (by omega),h2⟩
    · go_enter Tryz.func160,Tryz.ntmps160
      go_wp2_with (first | (go_at_call 57;rw [HW3.out];refine (Eu (w0:=w) HL.out HB3.out HR.out).mono ?_;rintro e w1 ⟨v,rfl,ho,hb1⟩;obtain ⟨A1,c1,rfl, -, -⟩:=ho.reads;have HO:=As ho;have HB1:=As hb1;clear ho hb1) | (with_reducible refine FD p ?_;intro w2 hb2 hz2 hq2;have HB2:=As (bj HB1.out hb2);have HW2:=As (bj HB3.out HB2.out);have HR2:=As (HR3.out.up HB2.out);have HP2:=As (HP3.out.up HB2.out);have HO2:=As (HO.out.below hb2);have HQ2:=As hq2;have hlt : w.heap.size + 3 ≤ w1.heap.size:=(by have:=HB1.out.size;have:=HZ3.out;omega);have hn1 : w.heap.size + 1 ≠ w1.heap.size:=(by omega);have hn2 : w.heap.size + 2 ≠ w1.heap.size:=(by omega);obtain ⟨-, -, -,x3, -,x5, -, -⟩:=HR2.out;simp only [Nat.zero_add] at x3 x5;have y0:=HP2.out.c0;have y1:=HP2.out.c1;have y2:=HP2.out.c2;have f0:=HP2.out.frz 0;have f1:=HP2.out.frz 1;have f2:=HP2.out.frz 2;have q0:=hq2.c0;have q1:=hq2.c1;have q2:=hq2.c2;have g0:=hq2.frz 0;have g1:=hq2.frz 1;have g2:=hq2.frz 2;clear hb2 hq2))
      have h1:=((HO2.out.far (g:=w1.heap.size) (fun k hk => by have:=HO.out.lt hk;omega) (Value.int .i64 n) 0).far (g:=w1.heap.size) (fun k hk => by have:=HO.out.lt hk;omega) (Value.int .i64 r.new) 1).Cu (g:=w.heap.size + 2) (by have:=HZ3.out;omega) ⟨n,r.new,p.vals⟩ (.slice A1 p.vals.length c1)
      have h2:=Cr (g:=w.heap.size + 2) ((HW2.out.setCell (p:=⟨w1.heap.size,0,none⟩) (by simp;omega) (Value.int .i64 n)).setCell (p:=⟨w1.heap.size,1,none⟩) (by simp;omega) (Value.int .i64 r.new)) (by omega) ⟨n,r.new,p.vals⟩ (.slice A1 p.vals.length c1)
      have hy:=((HP2.out.far (h:=w1.heap.size) (by omega) 0 (Value.int .i64 n)).far (h:=w1.heap.size) (by omega) 1 (Value.int .i64 r.new)).Cu ⟨n,r.new,p.vals⟩ (.slice A1 p.vals.length c1)
      have z0:=hy.c0
      have z1:=hy.c1
      have z2:=hy.c2
      have hw : doR p r n = ⟨n,r.new,p.vals⟩:=by rw [doR,AZ,if_neg (by have:=e1.out;omega),if_neg e2.out]
      rw [hw]
      exact bodyPost_ret (v:=(⟨n,r.new,p.vals⟩ : Page).own (.slice A1 p.vals.length c1)) (by simp [results,Tryz.results160,go_sem,z0,z1,z2]) rfl ⟨_,rfl,h1.lower (by have:=HZ3.out;omega),h2⟩
  · have hs2:=HS.out
    have hs1:=e1.out
    go_enter Tryz.func160,Tryz.ntmps160
    go_wp2_with (first | (go_at_call 57;rw [HW3.out];refine (Eu (w0:=w) HL.out HB3.out HR.out).mono ?_;rintro e w1 ⟨v,rfl,ho,hb1⟩;obtain ⟨g,cap,rfl,hgb,hgl⟩:=ho.form (by have:=HS.out;have:=e1.out;omega);have HG:=As (And.intro hgb hgl);clear hgb hgl;have HO:=As ho;have HB1:=As hb1;clear ho hb1) | (with_reducible refine FD p ?_;(intro w2 hb2 hz2 hq2;have HB2:=As (bj HB1.out hb2);have HW2:=As (bj HB3.out HB2.out);have HR2:=As (HR3.out.up HB2.out);have HP2:=As (HP3.out.up HB2.out);have HO2:=As (HO.out.below hb2);have HQ2:=As hq2;have hlt : w.heap.size + 3 ≤ w1.heap.size:=(by have:=HB1.out.size;have:=HZ3.out;omega);have hn1 : w.heap.size + 1 ≠ w1.heap.size:=(by omega);have hn2 : w.heap.size + 2 ≠ w1.heap.size:=(by omega);obtain ⟨-, -, -,x3, -,x5, -, -⟩:=HR2.out;simp only [Nat.zero_add] at x3 x5;have y0:=HP2.out.c0;have y1:=HP2.out.c1;have y2:=HP2.out.c2;have f0:=HP2.out.frz 0;have f1:=HP2.out.frz 1;have f2:=HP2.out.frz 2;have q0:=hq2.c0;have q1:=hq2.c1;have q2:=hq2.c2;have g0:=hq2.frz 0;have g1:=hq2.frz 1;have g2:=hq2.frz 2;have hgw : g < w1.heap.size:=HO.out.lt (k:=g) rfl;have hgb : w.heap.size + 3 ≤ g:=(by have:=HO.out.base (k:=g) rfl;have:=HZ3.out;omega);have hg1 : w1.heap.size ≠ g:=(by omega);have hg2 : w.heap.size + 1 ≠ g:=(by omega);have hg3 : w.heap.size + 2 ≠ g:=(by omega);obtain ⟨p1,p2⟩:=HO2.out.at r.slot e1.out (by have:=HS.out;omega);clear hb2 hq2)))
    have h1:=((HO2.out.far (g:=w1.heap.size) (fun k hk => by have:=HO.out.lt hk;omega) (Value.int .i64 n) 0).put r.slot r.new).Cu (g:=w.heap.size + 2) (by have:=HZ3.out;omega) ⟨n,p.owner, []⟩ (.slice (some ⟨g,0,none⟩) p.vals.length cap)
    have h2:=Cr (g:=w.heap.size + 2) ((HW2.out.setCell (p:=⟨w1.heap.size,0,none⟩) (by simp;omega) (Value.int .i64 n)).setCell (p:=⟨g,r.slot.toNat,none⟩) (by simp;omega) (Value.int .i64 r.new)) (by omega) ⟨n,p.owner, []⟩ (.slice (some ⟨g,0,none⟩) p.vals.length cap)
    have hy:=((HP2.out.far (h:=w1.heap.size) (by omega) 0 (Value.int .i64 n)).far (h:=g) (by omega) r.slot.toNat (Value.int .i64 r.new)).Cu ⟨n,p.owner, []⟩ (.slice (some ⟨g,0,none⟩) p.vals.length cap)
    have z0:=hy.c0
    have z1:=hy.c1
    have z2:=hy.c2
    have hw : doR p r n = ⟨n,p.owner,p.vals.set r.slot.toNat r.new⟩:=by rw [doR,AZ,if_pos e1.out]
    rw [hw]
    exact bodyPost_ret (v:=(⟨n,p.owner,p.vals.set r.slot.toNat r.new⟩ : Page).own (.slice (some ⟨g,0,none⟩) p.vals.length cap)) (by simp [results,Tryz.results160,go_sem,z0,z1,z2]) rfl ⟨_,rfl,h1.lower (by have:=HZ3.out;omega),h2⟩
def VT (b : Bool) (w : World) (e : Ending) (w' : World) : Prop := ∃ i : Int,e = .returned (.int .i64 i) ∧ decide (0 ≤ i) = b ∧ Below w.heap.size w w'
theorem Uv {w0 w : World} {A : Option Addr} {c : Nat} {p : Page} {b : Bool} (hv : Bt p = b) (hb : Below w0.heap.size w0 w) (hr : Kd.C (Kd.int .i64) w0 A p.vals.length p.vals) : Calls Tryz.prog 130 #[p.val A c] w fun e w' => e = .returned (.bool (!b)) ∧ Below w.heap.size w w':=by
  have HR:=As (Bu hr hb)
  have HV:=As hv
  have HB:=As (PW w p A c)
  clear hr hb hv
  go_enter Tryz.func130,Tryz.ntmps130
  go_wp2_with (go_at_call 131;refine (Dx HV.out HB.out HR.out).mono ?_;rintro e w1 ⟨rfl,hb1⟩;have HX:=As (bj HB.out hb1);clear hb1)
  go_ret
  exact ⟨rfl,HX.out⟩
set_option maxHeartbeats 4000000 in
theorem R9 {w0 w : World} {A : Option Addr} {c : Nat} {l : List Page} (hb : Below w0.heap.size w0 w) (hr : Kd.C Dn w0 A l.length l) : Calls Tryz.prog 171 #[.slice A l.length c, .func (.func 130) #[] #[]] w (VT (l.any fun x => !Bt x) w):=by
  have HR:=As (Bu hr hb)
  have hm:=(CJ hr).2
  clear hr hb
  go_enter Tryz.func171,Tryz.ntmps171
  go_wp2
  go_loopw [8] (fun i wr => ∃ k : Nat,k ≤ l.length ∧ i = .int .i64 (k : Int) ∧ Ac ((l.any fun x => !Bt x) = (l.drop k).any fun x => !Bt x) ∧ Ac (Below w.heap.size w wr)) (fun i _ => (l.length - intOf i).toNat)
  case atStart => exact ⟨0,Nat.zero_le _,rfl,⟨rfl⟩,⟨Below.refl _ _⟩⟩
  case round =>
    obtain ⟨k,hk,rfl,HK,HW⟩:=hrel
    by_cases hlt : k < l.length
    · obtain ⟨ad,A2,c2,rfl,QP, -,g2⟩:=EP (Bu HR.out HW.out) k hlt
      obtain ⟨x0,x1,x2⟩:=QP
      have HG:=As g2
      have HD:=As (Tp hlt)
      clear g2
      cases hp : Bt (pg l k)
      all_goals
        have HP:=As hp
        clear hp
        go_wp2_with (go_at_call 130;refine (Uv HP.out (Below.refl _ _) HG.out).mono ?_;rintro e w1 ⟨rfl,hb1⟩;have HX:=As (bj HW.out hb1);clear hb1)
      · go_ret
        exact ⟨k,rfl,by rw [HK.out,HD.out,List.any_cons,HP.out];simp,HX.out⟩
      · go_roundw
        case rel => exact ⟨k + 1,by omega,by go_num,⟨by rw [HK.out,HD.out,List.any_cons,HP.out];rfl⟩,HX⟩
        case measure => simp [intOf];omega
    · have hke : k = l.length:=by omega
      go_wp2
      go_ret
      exact ⟨-1,rfl,by rw [HK.out,hke,List.drop_length];rfl,HW.out⟩
theorem NZ {w0 w : World} {A : Option Addr} {c : Nat} {l : List Page} (hb : Below w0.heap.size w0 w) (hr : Kd.C Dn w0 A l.length l) : Calls Tryz.prog 129 #[.slice A l.length c, .func (.func 130) #[] #[]] w fun e w' => e = .returned (.bool (l.any fun x => !Bt x)) ∧ Below w.heap.size w w':=by
  have HR:=As (Bu hr hb)
  clear hr hb
  go_enter Tryz.func129,Tryz.ntmps129
  go_wp2_with (go_at_call 171;refine (R9 (Below.refl _ _) HR.out).mono ?_;rintro e w' ⟨i,rfl,hi,hb⟩)
  go_ret
  exact ⟨by first | exact AB hi | rfl,hb⟩
/-- Five pages, valid all. -/
def GZ (l : List Page) : Bool:=l.length == 5 && !(l.any fun x => !Bt x)
set_option maxHeartbeats 2000000 in
theorem BP {w0 w : World} {A : Option Addr} {c : Nat} {l : List Page} {b : Bool} (hv : GZ l = b) (hb : Below w0.heap.size w0 w) (hr : Kd.C Dn w0 A l.length l) : Calls Tryz.prog 75 #[.slice A l.length c] w fun e w' => e = .returned (.bool b) ∧ Below w.heap.size w w':=by
  have HR:=As (Bu hr hb)
  have HV:=As hv
  clear hr hb hv
  rcases BO (l.length : Int) 5 with ⟨e1,b1,c1⟩ | ⟨e1,b1,c1⟩
  · go_enter Tryz.func75,Tryz.ntmps75
    go_wp2_with (go_at_call 129;refine (NZ (Below.refl _ _) HR.out).mono ?_;rintro e w1 ⟨rfl,hb1⟩;have HX:=As hb1;clear hb1)
    go_ret
    exact ⟨AB (by rw [← HV.out,GZ,show (l.length == 5) = true by have:=e1.out;simp;omega];rfl),HX.out⟩
  · go_enter Tryz.func75,Tryz.ntmps75
    go_wp2
    go_ret
    exact ⟨AB (by rw [← HV.out,GZ,show (l.length == 5) = false by have:=e1.out;simp;omega];rfl),Below.refl _ _⟩
theorem Uj {w0 w : World} {A : Option Addr} {n c : Nat} {l : List Page} {b : Bool} (hn : l.length = n) (hv : GZ l = b) (hb : Below w0.heap.size w0 w) (hr : Kd.C Dn w0 A l.length l) : Calls Tryz.prog 75 #[.slice A n c] w fun e w' => e = .returned (.bool b) ∧ Below w.heap.size w w':=hn ▸ BP hv hb hr
def DZ (ps : List Page) (r : Rec) (n : Nat) : List Page:=if Cx r.kind = true ∧ (pg ps r.page.toNat).lsn < n then ps.set r.page.toNat (doR (pg ps r.page.toNat) r n) else ps
/-- The pages behind the first n records. -/
def Ck (ps : List Page) (l : List Rec) : Nat → List Page
  | 0 => ps
  | n + 1 => DZ (Ck ps l n) (rc l n) (n + 1)
/-- Five pages of three slots. -/
def geo (ps : List Page) : Prop:=ps.length = 5 ∧ ∀ p ∈ ps,p.vals.length = 3
theorem Aw {ps : List Page} (h : GZ ps = true) : geo ps:=by
  simp only [GZ,Bool.and_eq_true,beq_iff_eq,Bool.not_eq_true',List.any_eq_false] at h
  exact ⟨h.1,fun p hp => (Ci.1 (by simpa using h.2 p hp)).2.2.2.2.1⟩
theorem EW {ps : List Page} (h : geo ps) {k : Nat} (hk : k < 5) : (pg ps k).vals.length = 3:=h.2 _ (by simp [pg,List.getD_eq_getElem?_getD,h.1,hk])
theorem Gr {ps : List Page} (h : geo ps) : Nk ps:=fun p hp => by rw [h.2 p hp];decide
theorem JL {p : Page} {r : Rec} (h : p.vals.length = 3) : (AZ p r).vals.length = 3:=by
  unfold AZ
  split
  · simpa using h
  · split
    · rfl
    · exact h
theorem Ls {ps : List Page} {k : Nat} {q : Page} (h : geo ps) (hq : q.vals.length = 3) : geo (ps.set k q):=by
  refine ⟨by simpa using h.1,fun p hp => ?_⟩
  rcases List.mem_or_eq_of_mem_set hp with hp | rfl
  · exact h.2 p hp
  · exact hq
theorem Vz {ps : List Page} {r : Rec} {n : Nat} (h : geo ps) (hr : Cx r.kind = true → 0 ≤ r.page ∧ r.page ≤ 4) : geo (DZ ps r n):=by
  unfold DZ
  split
  · rename_i hc
    have:=hr hc.1
    exact Ls h (JL (EW h (by omega)))
  · exact h
theorem GU {r : Rec} (h : CS r = true) (hc : Cx r.kind = true) : 0 ≤ r.page ∧ r.page ≤ 4 ∧ -1 ≤ r.slot ∧ r.slot ≤ 2 ∧ 0 ≤ r.new ∧ r.new ≤ 9 ∧ (r.slot = -1 → r.new ≤ 3):=by
  rw [D7] at h
  simp only [Cx,Bool.or_eq_true,beq_iff_eq] at hc
  omega
theorem JE {ps : List Page} {l : List Rec} (h : geo ps) (hl : ∀ k,k < l.length → CS (rc l k) = true) : ∀ n,n ≤ l.length → geo (Ck ps l n)
  | 0,_ => h
  | n + 1,hn => Vz (JE h hl n (by omega)) (fun hc => by have:=GU (hl n hn) hc;omega)
theorem Eo {w : World} {b B : Nat} {v u : Value} {xs : List Int} {p : Page} (h : AV w b v xs) (hp : AR w B p u) : ∀ k,v.ownBlock = some k → k ≠ B:=by
  rintro k hk rfl
  obtain ⟨cells,hc⟩:=Dr h k hk
  have h1 : w.heap[k]? = _:=hp
  rw [hc] at h1
  injection h1 with h1
  injection h1 with _ h2
  exact absurd h2 (by decide)
theorem Wv {w : World} {b : Nat} {v : Value} {ps : List Page} (h : Kr w b v ps) (hn : 0 < ps.length) : ∃ g cap,v = .slice (some ⟨g,0,none⟩) ps.length cap ∧ b ≤ g ∧ g < w.heap.size:=by
  obtain ⟨inner,ho⟩:=Kd.Kq h
  rcases ho.2 with ⟨_,h2⟩ | ⟨g,cap,cur,h1,h2,_⟩
  · omega
  · exact ⟨g,cap,h1,Cq ho g (by rw [h1];rfl),NM ho g (by rw [h1];rfl)⟩
/-- Page i of a row of one's own: its cells. -/
theorem WW {w : World} {b g n cap : Nat} {ps : List Page} (h : Kr w b (.slice (some ⟨g,0,none⟩) n cap) ps) (i : Nat) (hi : i < n) : ∃ A c,w.cell? ⟨g,i * 3,none⟩ = some (.int .i64 (pg ps i).lsn) ∧ w.cell? ⟨g,i * 3 + 1,none⟩ = some (.int .i64 (pg ps i).owner) ∧ w.cell? ⟨g,i * 3 + 2,none⟩ = some (.slice A (pg ps i).vals.length c) ∧ Kd.C (Kd.int .i64) w A (pg ps i).vals.length (pg ps i).vals ∧ ∀ j,w.frozen? ⟨g,i * 3 + j,none⟩ = false:=by
  obtain ⟨c,hl,hM,hc,hf⟩:=Kd.Ml h z0 (i : Int) (by omega) (by omega)
  obtain ⟨v,rfl,hv⟩:=MO hM
  obtain ⟨A,c2,rfl,_,hC⟩:=Kd.DI hv
  exact ⟨A,c2,hc 0 _ rfl,hc 1 _ rfl,hc 2 _ rfl,hC,hf⟩
theorem Cb {w : World} {b : Nat} {ok : Nat → Prop} {v : Value} {ps : List Page} (h : OwnPk w b ok v ps) (hn : 0 < ps.length) : ∃ g cap,v = .slice (some ⟨g,0,none⟩) ps.length cap ∧ b ≤ g ∧ g < w.heap.size:=Wv (Kd.Eh (Kd.S_R h) (fun _ _ => trivial)) hn
theorem Dz {w : World} {b g n cap : Nat} {ok : Nat → Prop} {ps : List Page} (h : OwnPk w b ok (.slice (some ⟨g,0,none⟩) n cap) ps) (i : Nat) (hi : i < n) : ∃ A c,w.cell? ⟨g,i * 3,none⟩ = some (.int .i64 (pg ps i).lsn) ∧ w.cell? ⟨g,i * 3 + 1,none⟩ = some (.int .i64 (pg ps i).owner) ∧ w.cell? ⟨g,i * 3 + 2,none⟩ = some (.slice A (pg ps i).vals.length c) ∧ Kd.C (Kd.int .i64) w A (pg ps i).vals.length (pg ps i).vals ∧ ∀ j,w.frozen? ⟨g,i * 3 + j,none⟩ = false:=WW (Kd.Eh (Kd.S_R h) (fun _ _ => trivial)) i hi
theorem P9 {α : Type} (xs : List α) (i : Nat) (x : α) : (xs.set i x).zipIdx = xs.zipIdx.set i (x,i):=by
  apply List.ext_getElem?
  intro j
  rw [List.getElem?_zipIdx,List.getElem?_set,List.getElem?_set,List.getElem?_zipIdx,List.length_zipIdx]
  split
  · rename_i e
    subst e
    split <;> simp
  · rfl
section
variable {ops : Array Oper} {rest : List Oper} {o : Oper} {a : Act} {Q : Exit → Act → World → Prop}
/-- out[i] = p, p a page of the call's own that is younger than the row, or elder. -/
theorem MG {w0 W : World} {g n cap N : Nat} {ps : List Page} {q : Page} {v : Value} (i : Nat) (hn : ps.length = n) (hN : o.dst = none) (hgd : o.guard = none) (s x : Operand) (ho : o.op = .store 81 s x)
    (haddr : a.eval s = .pointer (some ⟨g,i * 3,none⟩)) (hx : a.eval x = q.own v) (hp : AV W N v q.vals) (hN0 : w0.heap.size ≤ N) (HO : Kr W w0.heap.size (.slice (some ⟨g,0,none⟩) n cap) ps) (hi : i < n) (HB : Below w0.heap.size w0 W)
    (h : ∀ w1,Kr w1 w0.heap.size (.slice (some ⟨g,0,none⟩) n cap) (ps.set i q) → Below w0.heap.size w0 w1 → W.grownBy w1 (some g) → wpList Tryz.prog ops Q rest a w1) : wpList Tryz.prog ops Q (o :: rest) a W:=by
  subst hn
  obtain ⟨c,hl,hM,hc,hf⟩:=Kd.Ml HO z0 (i : Int) (by omega) (by omega)
  have hne : ∀ k,v.ownBlock = some k → True ∧ k ≠ g:=by
    rintro k hk
    refine ⟨trivial,?_⟩
    rintro rfl
    obtain ⟨cells,hc1⟩:=Dr hp k hk
    obtain ⟨inner,ho2⟩:=Kd.Kq HO
    obtain ⟨cells2,hc2⟩:=Dr ho2 k rfl
    rw [hc1] at hc2
    injection hc2 with h1
    injection h1 with _ h2
    exact absurd h2 (by decide)
  obtain ⟨A1,c1,rfl,_,_⟩:=AV.reads hp
  refine Kd.Q9 Dn w0.heap.size hN hgd 81 s x ho _ (i : Int) 0 ps q _ [.int .i64 q.lsn, .int .i64 q.owner, .slice A1 q.vals.length c1] c (fun _ => True) (fun k => True ∧ k ≠ g) haddr (by rw [Nat.add_zero];rfl) hx rfl (by kernel_rfl) (by simp [Value.oneCell']) HO (by omega) (by omega) hl hc (Nat.le_refl 3) ?_ (fun k hk => hk) HB (fun w1 h1 h2 h3 => h w1 h1 h2 h3)
  have hl3 : c.length = 3:=hl
  rw [List.take_zero,List.nil_append,List.drop_of_length_le (by simp [hl3]),List.append_nil]
  exact FQ W _ _ q (Kd.G5 (En hp hN0) hne)
/-- The same, no two pages sharing slots: the page's slots are from N on, the row's blocks elder. -/
theorem Gi {w0 W : World} {g n cap N : Nat} {ps : List Page} {q : Page} {v : Value} {ok : Nat → Prop} (i : Nat) (hn : ps.length = n) (hN : o.dst = none) (hgd : o.guard = none) (s x : Operand) (ho : o.op = .store 81 s x)
    (haddr : a.eval s = .pointer (some ⟨g,i * 3,none⟩)) (hx : a.eval x = q.own v) (hp : AV W N v q.vals) (hN0 : w0.heap.size ≤ N) (HO : OwnPk W w0.heap.size (fun k => ok k ∧ k < N) (.slice (some ⟨g,0,none⟩) n cap) ps) (hi : i < n) (HB : Below w0.heap.size w0 W)
    (h : ∀ w1,OwnPk w1 w0.heap.size (fun k => ok k ∨ some k = v.ownBlock) (.slice (some ⟨g,0,none⟩) n cap) (ps.set i q) → Below w0.heap.size w0 w1 → W.grownBy w1 (some g) → wpList Tryz.prog ops Q rest a w1) : wpList Tryz.prog ops Q (o :: rest) a W:=by
  subst hn
  have hgN:=L8 HO g rfl
  obtain ⟨f,hf,hR⟩:=Kd.TW HO i (fun k => some k = v.ownBlock) (fun k hk h2 => by have:=Cq hp k hk.symm;omega)
  have hR2:=Kd.Eh (ok':=fun k => ok k ∨ some k = v.ownBlock) hR (fun k hk => .inl hk.1)
  obtain ⟨c,hl,hM,hc,hfz⟩:=Kd.Ml hR2 (z0,0) (i : Int) (by omega) (by omega)
  obtain ⟨A1,c1,rfl,_,_⟩:=AV.reads hp
  refine Kd.Q9 (Kd.tag f Dn) w0.heap.size hN hgd 81 s x ho _ (i : Int) 0 ps.zipIdx (q,i) _ [.int .i64 q.lsn, .int .i64 q.owner, .slice A1 q.vals.length c1] c (fun k => ok k ∨ some k = (Value.slice A1 q.vals.length c1).ownBlock) (fun k => some k = (Value.slice A1 q.vals.length c1).ownBlock) haddr (by rw [Nat.add_zero];rfl) hx rfl (by kernel_rfl) (by simp [Value.oneCell']) hR2 (by omega) (by omega) hl hc (Nat.le_refl 3) ?_ (fun k hk => ⟨.inr hk,fun e => ?_⟩) HB (fun w1 h1 h2 h3 => ?_)
  · have hl3 : c.length = 3:=hl
    rw [List.take_zero,List.nil_append,List.drop_of_length_le (by simp [hl3]),List.append_nil]
    exact FQ W _ _ q (Kd.G5 (En hp hN0) (fun k hk => ⟨hk.symm,hf k hk.symm⟩))
  · have h1:=Cq hp k hk.symm
    omega
  · refine h w1 ⟨f,?_⟩ h2 h3
    rw [P9]
    exact h1
end
end Go.Proofs.YtpjmlpmhgfghbaaGreat
/- The program's redo. -/
namespace Go.Proofs.YtpjmlpmhgfghbaaGreat
open Go.RowKit Go.Proofs.YtpjmlpmhgfghbaaGreatW.PrintWords Go.Proofs.YtpjmlpmhgfghbaaGreatW.PrintLast Go.Proofs.YtpjmlpmhgfghbaaGreatW.PrintMore
theorem Ct {P : Program} {ops : Array Oper} {l : List Oper} {Q : Exit → Act → World → Prop} {a : Act} {w : World} (r : Rec) (h : ∀ w1,Below w.heap.size w w1 → w1.heap.size = w.heap.size + 1 → FZ w1 ⟨w.heap.size,0,none⟩ r → wpList P ops Q l a w1) : wpList P ops Q l a (w.alloc (.cells #[.int .i64 r.kind, .int .i64 r.tx, .int .i64 r.page, .int .i64 r.slot, .int .i64 r.old, .int .i64 r.new, .int .i64 r.prev, .int .i64 r.next] 98)):=
  h _ ((Below.refl _ _).alloc (Nat.le_refl _) _) (BF _ _) (Gh w r)
theorem Lu {ps : List Page} (h : geo ps) : ps.length = 5:=h.1
theorem AL {b : Bool} (h : b = true) (k : b = false) : False:=by rw [h] at k;cases k
theorem He {w : World} {b B : Nat} {v : Value} {xs : List Int} (h : AV w b v xs) (hg : ∀ k,v.ownBlock = some k → k ≠ B) (p : Page) (u : Value) : AV (Cu w B p u) b v xs:=((h.far hg _ _).far hg _ _).far hg _ _
/-- A call that hands back pages of its own, and a yes or no. -/
def X6 (w : World) (ps : List Page) (b : Bool) (e : Ending) (w' : World) : Prop := ∃ v,e = .returned (.tuple #[v, .bool b]) ∧ E9 w' w.heap.size v ps ∧ Below w.heap.size w w'
set_option maxRecDepth 100000 in
set_option maxHeartbeats 4000000 in
theorem KC {w0 w : World} {A B : Option Addr} {c d : Nat} {ps : List Page} {l : List Rec} (hg : geo ps) (hok : ∀ k,k < l.length → CS (rc l k) = true) (hl : l.length ≤ 150) (hb : Below w0.heap.size w0 w) (hr : Kd.C Dn w0 A ps.length ps) (hr2 : Kd.C Ca w0 B l.length l) : Calls Tryz.prog 46 #[.slice A ps.length c, .slice B l.length d] w (X6 w (Ck ps l l.length) (GZ (Ck ps l l.length))):=by
  have HR:=As (Bu hr hb)
  have HR2:=As (Bu hr2 hb)
  have HG:=As hg
  have HK:=As hok
  clear hr hr2 hb hok hg
  go_enter Tryz.func46,Tryz.ntmps46
  go_wp2_with (go_at_call 49;refine (Ez (Gr HG.out) (by have:=HG.out.1;omega) (Below.refl _ _) HR.out).mono ?_;rintro e w1 ⟨v,rfl,hO,hb1⟩;obtain ⟨g,cap,rfl,hgb,hgl⟩:=Cb hO (by have:=HG.out.1;omega);have HO:=As hO;have HB:=As hb1;have HGB:=As (And.intro hgb hgl);clear hO hb1 hgb hgl)
  have h5:=HG.out.1
  rw [h5] at HO ⊢
  clear h5
  go_loopw [14] (fun i wr => ∃ k : Nat,k ≤ l.length ∧ i = .int .i64 (k : Int) ∧ Ac (E9 wr w.heap.size (.slice (some ⟨g,0,none⟩) 5 cap) (Ck ps l k)) ∧ Ac (Below w.heap.size w wr)) (fun i _ => (l.length - intOf i).toNat)
  case atStart => exact ⟨0,Nat.zero_le _,rfl,HO,HB⟩
  case round =>
    obtain ⟨k,hk,rfl,HO,HW⟩:=hrel
    have HGk:=As (JE HG.out HK.out k hk)
    by_cases hlt : k < l.length
    · obtain ⟨ad,rfl,QR⟩:=Ce (Bu HR2.out HW.out) k hlt
      obtain ⟨z0,z1,z2,z3,z4,z5,z6,z7⟩:=QR
      cases hc : Cx (rc l k).kind
      · have HC:=As hc
        clear hc
        go_wp2_with (first | (with_reducible refine Ct (rc l k) ?_;intro w2 hb2 hz2 hq2;have HW2:=As (bj HW.out hb2);have HO2:=As (Kd.Br HO.out hb2);obtain ⟨x0,x1,x2,x3,x4,x5,x6,x7⟩:=hq2;simp only [Nat.zero_add] at x1 x2 x3 x4 x5 x6 x7;clear hb2) | (go_at_call 105;refine (EX HC.out _).mono ?_;rintro e w3 ⟨rfl,hb3⟩;have hs3:=hb3.size;have HW3:=As (bj HW2.out hb3);have HO3:=As (Kd.Br HO2.out hb3);clear hb3))
        go_roundw
        case rel => exact ⟨k + 1,by omega,by go_num,⟨by rw [Ck,DZ,if_neg (by rw [HC.out];simp)];exact HO3.out⟩,HW3⟩
        case measure => simp [intOf];omega
      · have HC:=As hc
        have hP:=GU (HK.out k hlt) hc
        have hp0 : 0 ≤ (rc l k).page:=hP.1
        have hp5 : (rc l k).page < 5:=by omega
        have hpn : (rc l k).page.toNat < 5:=by omega
        have HP:=As hP
        clear hc hP
        rcases lts (pg (Ck ps l k) (rc l k).page.toNat).lsn (k + 1 : Int) with ⟨e1,b1,c1⟩ | ⟨e1,b1,c1⟩
        · go_wp2_with (first | (with_reducible refine Ct (rc l k) ?_;intro w2 hb2 hz2 hq2;have HW2:=As (bj HW.out hb2);have HO2:=As (Kd.Br HO.out hb2);have HQ2:=As hq2;obtain ⟨x0,x1,x2,x3,x4,x5,x6,x7⟩:=hq2;simp only [Nat.zero_add] at x1 x2 x3 x4 x5 x6 x7;clear hb2) | (go_at_call 105;refine (EX HC.out _).mono ?_;rintro e w3 ⟨rfl,hb3⟩;have hs3:=hb3.size;have HW3:=As (bj HW2.out hb3);have HO3:=As (Kd.Br HO2.out hb3);have HQ3:=As (HQ2.out.up hb3);obtain ⟨-, -,y2, -, -, -, -, -⟩:=HQ2.out.up hb3;simp only [Nat.zero_add] at y2;obtain ⟨A3,c3,p0,p1,p2,pC, -⟩:=Dz HO3.out (rc l k).page.toNat hpn;have HPC:=As pC;clear hb3 pC))
          obtain ⟨q,hq⟩ : ∃ q,AZ (pg (Ck ps l k) (rc l k).page.toNat) (rc l k) = q:=⟨_,rfl⟩
          have HQ:=As hq
          have hg3:=EW HGk.out hpn
          have HG3:=As hg3
          have hgw : g < w3.heap.size:=by have:=HGB.out.2;have:=HW3.out.size;have:=Xg HO3.out g rfl;omega
          have hcall : ∀ wx,Below w3.heap.size w3 wx → Calls Tryz.prog 106 #[(pg (Ck ps l k) (rc l k).page.toNat).val A3 c3,(rc l k).val] wx (Ox wx q):=fun wx hb => HQ.out ▸ Ku (rc l k) (by rw [HG3.out];decide) (by rw [HG3.out];have:=HP.out;omega) hb HPC.out
          clear hq hg3
          refine AX (fun lx a wx => (Below w.heap.size w wx ∧ Below w3.heap.size w3 wx) ∧ (Sl 6 39 (fun v wx => ∃ u,v = q.own u ∧ AV wx w3.heap.size u q.vals) lx a wx ∧ Sl 7 9 (fun v wx => ∃ B,v = .pointer (some ⟨B,0,none⟩) ∧ w3.heap.size ≤ B ∧ AR wx B zp (.slice none 0 0)) lx a wx)) 8 rfl (by kernel_rfl) (⟨⟨Ak HW3.out,Ak (Below.refl _ _)⟩,Bc,Bc⟩) (fun HT => ?_)
          refine Ae (i:=0) (v:=?_) HT rfl (by kernel_rfl) rfl (kA Aa (kA (Ab rfl rfl) (Ab rfl rfl))) (by rfl) (fun _ _ _ h => h) (fun lx ax wx hS => ?_) ?_;rotate_left;(obtain ⟨⟨-,hbx⟩, -⟩:=hS;obtain ⟨x0,x1,x2,x3,x4,x5,x6,x7⟩:=HQ3.out.up hbx;simp only [Nat.zero_add] at x1 x2 x3 x4 x5 x6 x7;replace p0:=bc hbx p0;replace p1:=bc hbx p1;replace p2:=bc hbx p2;go_simp;with_reducible rfl);rotate_left;simp only [sc0,sc1]
          refine Ae (i:=1) (v:=?_) HT rfl (by kernel_rfl) rfl (kA Aa (kA (Ab rfl rfl) (Ab rfl rfl))) (by rfl) (fun _ _ _ h => h) (fun lx ax wx hS => ?_) ?_;rotate_left;(obtain ⟨⟨-,hbx⟩, -⟩:=hS;obtain ⟨x0,x1,x2,x3,x4,x5,x6,x7⟩:=HQ3.out.up hbx;simp only [Nat.zero_add] at x1 x2 x3 x4 x5 x6 x7;replace p0:=bc hbx p0;replace p1:=bc hbx p1;replace p2:=bc hbx p2;go_simp;with_reducible rfl);rotate_left;simp only [sc0,sc1]
          refine Ae (i:=2) (v:=?_) HT rfl (by kernel_rfl) rfl (kA Aa (kA (Ab rfl rfl) (Ab rfl rfl))) (by rfl) (fun _ _ _ h => h) (fun lx ax wx hS => ?_) ?_;rotate_left;(obtain ⟨⟨-,hbx⟩, -⟩:=hS;obtain ⟨x0,x1,x2,x3,x4,x5,x6,x7⟩:=HQ3.out.up hbx;simp only [Nat.zero_add] at x1 x2 x3 x4 x5 x6 x7;replace p0:=bc hbx p0;replace p1:=bc hbx p1;replace p2:=bc hbx p2;go_simp;with_reducible rfl);rotate_left;simp only [sc0,sc1]
          refine Ae (i:=3) (v:=?_) HT rfl (by kernel_rfl) rfl (kA Aa (kA (Ab rfl rfl) (Ab rfl rfl))) (by rfl) (fun _ _ _ h => h) (fun lx ax wx hS => ?_) ?_;rotate_left;(obtain ⟨⟨-,hbx⟩, -⟩:=hS;obtain ⟨x0,x1,x2,x3,x4,x5,x6,x7⟩:=HQ3.out.up hbx;simp only [Nat.zero_add] at x1 x2 x3 x4 x5 x6 x7;replace p0:=bc hbx p0;replace p1:=bc hbx p1;replace p2:=bc hbx p2;go_simp;with_reducible rfl);rotate_left;simp only [sc0,sc1]
          refine Ae (i:=4) (v:=?_) HT rfl (by kernel_rfl) rfl (kA Aa (kA (Ab rfl rfl) (Ab rfl rfl))) (by rfl) (fun _ _ _ h => h) (fun lx ax wx hS => ?_) ?_;rotate_left;(obtain ⟨⟨-,hbx⟩, -⟩:=hS;obtain ⟨x0,x1,x2,x3,x4,x5,x6,x7⟩:=HQ3.out.up hbx;simp only [Nat.zero_add] at x1 x2 x3 x4 x5 x6 x7;replace p0:=bc hbx p0;replace p1:=bc hbx p1;replace p2:=bc hbx p2;go_simp;with_reducible rfl);rotate_left;simp only [sc0,sc1]
          refine Ae (i:=5) (v:=?_) HT rfl (by kernel_rfl) rfl (kA Aa (kA (Ab rfl rfl) (Ab rfl rfl))) (by rfl) (fun _ _ _ h => h) (fun lx ax wx hS => ?_) ?_;rotate_left;(obtain ⟨⟨-,hbx⟩, -⟩:=hS;obtain ⟨x0,x1,x2,x3,x4,x5,x6,x7⟩:=HQ3.out.up hbx;simp only [Nat.zero_add] at x1 x2 x3 x4 x5 x6 x7;replace p0:=bc hbx p0;replace p1:=bc hbx p1;replace p2:=bc hbx p2;go_simp;with_reducible rfl);rotate_left;simp only [sc0,sc1]
          refine Ba [6,7] (by kernel_rfl) (fun i hi w4 hS => ?_)
          rcases List.mem_cons.1 hi with rfl | hi
          · refine EZ (f:=106) (args:=#[(pg (Ck ps l k) (rc l k).page.toNat).val A3 c3,(rc l k).val]) rfl rfl Tryz.func106 (by kernel_rfl) rfl rfl (by rfl) (by simp only [List.map_toArray,List.map_cons,List.map_nil];rfl) ((hcall w4 hS.1.2).mono ?_)
            rintro e w6 ⟨u,rfl,ho,hb⟩
            refine ⟨_,rfl,⟨⟨bj hS.1.1 hb,bj hS.1.2 hb⟩,fun _ => ⟨u,rfl,ho.lower hS.1.2.size⟩,fun h => ?_⟩,?_⟩
            · exact (AL h (by kernel_rfl)).elim
            simp only [sc0,sc1]
            refine Ba [7] (by kernel_rfl) (fun i hi w5 hS => ?_)
            obtain rfl:=List.mem_singleton.1 hi
            refine BX (w1:=?_) (.pointer (some ⟨w5.heap.size,0,none⟩)) rfl rfl (by rfl) ?_ ?_
            rotate_left
            · go_simp
              with_reducible rfl
            refine ⟨⟨⟨Ah hS.1.1 _,Ah hS.1.2 _⟩,fun h => ?_,fun _ => ⟨w5.heap.size,rfl,hS.1.2.size,AR.mk1 w5 zp _⟩⟩,?_⟩
            · obtain ⟨u1,hu1,ho1⟩:=hS.2.1 (by kernel_rfl)
              exact ⟨u1,hu1,ho1.below (Ah (Below.refl _ _) _)⟩
            simp only [sc0,sc1]
            refine Cg (i:=8) (by kernel_rfl) rfl (fun w7 hS => ?_)
            obtain ⟨⟨h1,h2⟩,h3,h4⟩:=hS
            obtain ⟨u1,hu1,hown⟩:=h3 (by kernel_rfl)
            obtain ⟨B,hB,hBle,hbox⟩:=h4 (by kernel_rfl)
            have hu1 : q.own u = q.own u1:=hu1
            obtain rfl : u = u1:=by simpa using hu1
            obtain rfl : B = w5.heap.size:=by
              have hB : Value.pointer (some ⟨w5.heap.size,0,none⟩) = .pointer (some ⟨B,0,none⟩):=hB
              injection hB with hB
              injection hB with hB
              injection hB with hB
              exact hB.symm
            have H2:=As (Cr h2 hBle q u)
            have H1:=As (Cr (g:=w5.heap.size) h1 (by have:=HW3.out.size;omega) q u)
            have HBX:=As (hbox.Cu q u)
            have HU:=As (He hown (Eo hown hbox) q u)
            have HUN:=As (Eo hown hbox)
            have b0:=hbox.c0
            have b1:=hbox.c1
            have b2:=hbox.c2
            have d0:=hbox.frz 0
            have d1:=hbox.frz 1
            have d2:=hbox.frz 2
            obtain ⟨A8,c8,rfl, -, -⟩:=hown.reads
            refine BJ (w1:=?_) rfl (by rfl) ?_ ?_
            rotate_left
            · go_simp
              with_reducible rfl
            refine BQ (by kernel_rfl) ?_
            clear hu1 hB h1 h2 h3 h4 hown hbox b0 b1 b2 d0 d1 d2 p0 p1 p2 hcall ho
            obtain ⟨W8,hW8⟩ : ∃ W8,Cu w7 w5.heap.size q (.slice A8 q.vals.length c8) = W8:=⟨_,rfl⟩
            rw [hW8] at H1 H2 HBX HU
            have e8:=hW8
            unfold Cu at e8
            rw [e8]
            clear e8 hW8
            have b0:=HBX.out.c0
            have b1:=HBX.out.c1
            have b2:=HBX.out.c2
            have d0:=HBX.out.frz 0
            obtain ⟨-, -,x2, -, -, -, -, -⟩:=HQ3.out.up H2.out
            simp only [Nat.zero_add] at x2
            have HS8:=As (And.intro hBle (And.intro hz2 hs3))
            have hne : wr.heap.size ≠ w5.heap.size:=by omega
            have hne2 : w5.heap.size ≠ wr.heap.size:=by omega
            have hne3 : g ≠ w5.heap.size:=by omega
            have HLB:=As hBle
            have HLN:=As hpn
            go_wp2_with (with_reducible refine MP (.store 81 (.tmp 47) (.tmp 46)) rfl ?_;go_loud (refine Gi (ok:=fun _ => True) (w0:=w) (N:=w3.heap.size) (q:=⟨(k : Int) + 1,q.owner,q.vals⟩) (rc l k).page.toNat (Lu HGk.out) rfl rfl (.tmp 47) (.tmp 46) rfl rfl rfl (HU.out.far HUN.out _ _) HW3.out.size (Kd.DC HO3.out (H2.out.setCell (p:=⟨w5.heap.size,0,none⟩) HLB.out _)) HLN.out (H1.out.setCell (p:=⟨w5.heap.size,0,none⟩) (by have:=HW3.out.size;have:=HLB.out;simp only;omega) _) ?_);intro w9 hO9 hB9 hg9;have HO9:=As (Kd.DN (ok':=fun _ => True) hO9 (fun _ _ => trivial));have HB9:=As hB9;clear hO9 hB9 hg9)
            go_roundw
            case rel => exact ⟨k + 1,by omega,by go_num,⟨by rw [Ck,DZ,if_pos ⟨HC.out,by have:=e1.out;push_cast;omega⟩,doR,HQ.out];exact HO9.out⟩,HB9⟩
            case measure => simp [intOf];omega
          · obtain rfl:=List.mem_singleton.1 hi
            refine BX (w1:=?_) (.pointer (some ⟨w4.heap.size,0,none⟩)) rfl rfl (by rfl) ?_ ?_
            rotate_left
            · go_simp
              with_reducible rfl
            refine ⟨⟨⟨Ah hS.1.1 _,Ah hS.1.2 _⟩,fun h => ?_,fun _ => ⟨w4.heap.size,rfl,hS.1.2.size,AR.mk1 w4 zp _⟩⟩,?_⟩
            · exact (AL h (by kernel_rfl)).elim
            simp only [sc0,sc1]
            refine Ba [6] (by kernel_rfl) (fun i hi w5 hS => ?_)
            obtain rfl:=List.mem_singleton.1 hi
            refine EZ (f:=106) (args:=#[(pg (Ck ps l k) (rc l k).page.toNat).val A3 c3,(rc l k).val]) rfl rfl Tryz.func106 (by kernel_rfl) rfl rfl (by rfl) (by simp only [List.map_toArray,List.map_cons,List.map_nil];rfl) ((hcall w5 hS.1.2).mono ?_)
            rintro e w6 ⟨u,rfl,ho,hb⟩
            refine ⟨_,rfl,⟨⟨bj hS.1.1 hb,bj hS.1.2 hb⟩,fun _ => ⟨u,rfl,ho.lower hS.1.2.size⟩,fun h => ?_⟩,?_⟩
            · obtain ⟨B,hB,hBle,hbox⟩:=hS.2.2 (by kernel_rfl)
              exact ⟨B,hB,hBle,hbox.up hb⟩
            simp only [sc0,sc1]
            refine Cg (i:=8) (by kernel_rfl) rfl (fun w7 hS => ?_)
            obtain ⟨⟨h1,h2⟩,h3,h4⟩:=hS
            obtain ⟨u1,hu1,hown⟩:=h3 (by kernel_rfl)
            obtain ⟨B,hB,hBle,hbox⟩:=h4 (by kernel_rfl)
            have hu1 : q.own u = q.own u1:=hu1
            obtain rfl : u = u1:=by simpa using hu1
            obtain rfl : B = w4.heap.size:=by
              have hB : Value.pointer (some ⟨w4.heap.size,0,none⟩) = .pointer (some ⟨B,0,none⟩):=hB
              injection hB with hB
              injection hB with hB
              injection hB with hB
              exact hB.symm
            have H2:=As (Cr h2 hBle q u)
            have H1:=As (Cr (g:=w4.heap.size) h1 (by have:=HW3.out.size;omega) q u)
            have HBX:=As (hbox.Cu q u)
            have HU:=As (He hown (Eo hown hbox) q u)
            have HUN:=As (Eo hown hbox)
            have b0:=hbox.c0
            have b1:=hbox.c1
            have b2:=hbox.c2
            have d0:=hbox.frz 0
            have d1:=hbox.frz 1
            have d2:=hbox.frz 2
            obtain ⟨A8,c8,rfl, -, -⟩:=hown.reads
            refine BJ (w1:=?_) rfl (by rfl) ?_ ?_
            rotate_left
            · go_simp
              with_reducible rfl
            refine BQ (by kernel_rfl) ?_
            clear hu1 hB h1 h2 h3 h4 hown hbox b0 b1 b2 d0 d1 d2 p0 p1 p2 hcall ho
            obtain ⟨W8,hW8⟩ : ∃ W8,Cu w7 w4.heap.size q (.slice A8 q.vals.length c8) = W8:=⟨_,rfl⟩
            rw [hW8] at H1 H2 HBX HU
            have e8:=hW8
            unfold Cu at e8
            rw [e8]
            clear e8 hW8
            have b0:=HBX.out.c0
            have b1:=HBX.out.c1
            have b2:=HBX.out.c2
            have d0:=HBX.out.frz 0
            obtain ⟨-, -,x2, -, -, -, -, -⟩:=HQ3.out.up H2.out
            simp only [Nat.zero_add] at x2
            have HS8:=As (And.intro hBle (And.intro hz2 hs3))
            have hne : wr.heap.size ≠ w4.heap.size:=by omega
            have hne2 : w4.heap.size ≠ wr.heap.size:=by omega
            have hne3 : g ≠ w4.heap.size:=by omega
            have HLB:=As hBle
            have HLN:=As hpn
            go_wp2_with (with_reducible refine MP (.store 81 (.tmp 47) (.tmp 46)) rfl ?_;go_loud (refine Gi (ok:=fun _ => True) (w0:=w) (N:=w3.heap.size) (q:=⟨(k : Int) + 1,q.owner,q.vals⟩) (rc l k).page.toNat (Lu HGk.out) rfl rfl (.tmp 47) (.tmp 46) rfl rfl rfl (HU.out.far HUN.out _ _) HW3.out.size (Kd.DC HO3.out (H2.out.setCell (p:=⟨w4.heap.size,0,none⟩) HLB.out _)) HLN.out (H1.out.setCell (p:=⟨w4.heap.size,0,none⟩) (by have:=HW3.out.size;have:=HLB.out;simp only;omega) _) ?_);intro w9 hO9 hB9 hg9;have HO9:=As (Kd.DN (ok':=fun _ => True) hO9 (fun _ _ => trivial));have HB9:=As hB9;clear hO9 hB9 hg9)
            go_roundw
            case rel => exact ⟨k + 1,by omega,by go_num,⟨by rw [Ck,DZ,if_pos ⟨HC.out,by have:=e1.out;push_cast;omega⟩,doR,HQ.out];exact HO9.out⟩,HB9⟩
            case measure => simp [intOf];omega
        · go_wp2_with (first | (with_reducible refine Ct (rc l k) ?_;intro w2 hb2 hz2 hq2;have HW2:=As (bj HW.out hb2);have HO2:=As (Kd.Br HO.out hb2);have HQ2:=As hq2;obtain ⟨x0,x1,x2,x3,x4,x5,x6,x7⟩:=hq2;simp only [Nat.zero_add] at x1 x2 x3 x4 x5 x6 x7;clear hb2) | (go_at_call 105;refine (EX HC.out _).mono ?_;rintro e w3 ⟨rfl,hb3⟩;have hs3:=hb3.size;have HW3:=As (bj HW2.out hb3);have HO3:=As (Kd.Br HO2.out hb3);have HQ3:=As (HQ2.out.up hb3);obtain ⟨-, -,y2, -, -, -, -, -⟩:=HQ2.out.up hb3;simp only [Nat.zero_add] at y2;obtain ⟨A3,c3,p0,p1,p2,pC, -⟩:=Dz HO3.out (rc l k).page.toNat hpn;have HPC:=As pC;clear hb3 pC))
          go_roundw
          case rel => exact ⟨k + 1,by omega,by go_num,⟨by rw [Ck,DZ,if_neg (by have:=e1.out;simp;intro _;omega)];exact HO3.out⟩,HW3⟩
          case measure => simp [intOf];omega
    · have hke : k = l.length:=by omega
      have HE:=As hke
      clear hke
      go_wp2_with (go_at_call 75;refine (Uj HGk.out.1 rfl (Below.refl _ _) (Kd.Rp HO.out).2.2).mono ?_;rintro e w2 ⟨rfl,hb2⟩;have HW2:=As (bj HW.out hb2);have HO2:=As (Kd.Br HO.out hb2);clear hb2)
      go_ret2
      exact ⟨.slice (some ⟨g,0,none⟩) 5 cap,by rw [HE.out];rfl,by rw [← HE.out];exact HO2.out,HW2.out⟩
section
variable {w w1 : World} {b g n cap : Nat} {ok : Nat → Prop} {ps : List Page}
/-- A page of a row of one's own: its cells; what it is when a field of it, or its slots, were written. -/
theorem NH (h : OwnPk w b ok (.slice (some ⟨g,0,none⟩) n cap) ps) {i : Nat} (hi : i < n) :
    ∃ (oki : Nat → Prop) (v : Value),(∀ k,oki k → ok k ∧ k ≠ g) ∧ ok g ∧ RI w b oki v (pg ps i).vals ∧ (w.cell? ⟨g,i * 3,none⟩ = some (.int .i64 (pg ps i).lsn) ∧ w.cell? ⟨g,i * 3 + 1,none⟩ = some (.int .i64 (pg ps i).owner) ∧ w.cell? ⟨g,i * 3 + 2,none⟩ = some v) ∧ (∀ j,w.frozen? ⟨g,i * 3 + j,none⟩ = false) ∧
      Kd.H Dn 81 w b ok (.slice (some ⟨g,0,none⟩) n cap) ps (i : Int) oki [.int .i64 (pg ps i).lsn, .int .i64 (pg ps i).owner,v]:=by
  obtain ⟨oki,c,hcl,hM,hcc,hfr,hok,hH⟩:=Kd.VR h z0 (i : Int) (by omega) (by omega)
  rw [Int.toNat_natCast] at hM hcc hfr
  obtain ⟨v,rfl,hv⟩:=MO hM
  have hg : ok g:=by
    obtain ⟨f,h0,_⟩:=h
    exact h0 g (by simp [Value.ownBlock])
  exact ⟨oki,v,hok,hg,hv,⟨hcc 0 _ rfl,hcc 1 _ rfl,hcc 2 _ rfl⟩,fun j => hfr j,hH⟩
/-- The first, or the second field is written. -/
theorem Vb (h : OwnPk w b ok (.slice (some ⟨g,0,none⟩) n cap) ps) {i : Nat} (hi : i < n) (x : Int) : OwnPk (w.setCell ⟨g,i * 3,none⟩ (.int .i64 x)) b ok (.slice (some ⟨g,0,none⟩) n cap) (ps.set i { pg ps i with lsn:=x }):=by
  obtain ⟨oki,v,hok,hg,hv, -, -,hH⟩:=NH h hi
  have:=(Kd.SE (seg := [.int .i64 x]) (j:=0) (x':={ pg ps i with lsn:=x }) (okp:=oki) hH (by omega) (by omega) (by show 0 + 1 ≤ 3;decide) (FQ w b oki { pg ps i with lsn:=x } hv) (fun _ hk => hk)).1
  rw [Int.toNat_natCast] at this
  exact this
theorem Va (h : OwnPk w b ok (.slice (some ⟨g,0,none⟩) n cap) ps) {i : Nat} (hi : i < n) (x : Int) : OwnPk (w.setCell ⟨g,i * 3 + 1,none⟩ (.int .i64 x)) b ok (.slice (some ⟨g,0,none⟩) n cap) (ps.set i { pg ps i with owner:=x }):=by
  obtain ⟨oki,v,hok,hg,hv, -, -,hH⟩:=NH h hi
  have:=(Kd.SE (seg := [.int .i64 x]) (j:=1) (x':={ pg ps i with owner:=x }) (okp:=oki) hH (by omega) (by omega) (by show 1 + 1 ≤ 3;decide) (FQ w b oki { pg ps i with owner:=x } hv) (fun _ hk => hk)).1
  rw [Int.toNat_natCast] at this
  exact this
/-- Its slots are. -/
theorem Ww {oki : Nat → Prop} {v : Value} {i : Nat} {xs : List Int} (hH : Kd.H Dn 81 w b ok (.slice (some ⟨g,0,none⟩) n cap) ps (i : Int) oki [.int .i64 (pg ps i).lsn, .int .i64 (pg ps i).owner,v]) (hv : RI w1 b oki v xs) (hk : Kept w w1 (fun m => some m = v.ownBlock)) : OwnPk w1 b ok (.slice (some ⟨g,0,none⟩) n cap) (ps.set i { pg ps i with vals:=xs }):=by
  have h1:=Kd.Wi hH hk (fun k _ hn e => hn (hv.1 k e.symm))
  have:=Kd.SI h1 (FQ w1 b oki { pg ps i with vals:=xs } hv) (fun _ hk => hk)
  rw [Int.toNat_natCast] at this
  exact this
end
def RetMkP (w : World) (b : Nat) (ok : Nat → Prop) (v : Value) (ps : List Page) (k : Int) (x : Ending) (w' : World) : Prop:=x = .returned (.int .i64 (k + (cntP ps : Int))) ∧ OwnPk w' b ok v (mkPs ps k) ∧ Wrote w w' ok
theorem V9 {w : World} {b : Nat} {ok : Nat → Prop} {v : Value} {ps : List Page} (h : OwnPk w b ok v ps) (hn : 0 < ps.length) : ∃ g cap,v = .slice (some ⟨g,0,none⟩) ps.length cap ∧ b ≤ g ∧ g < w.heap.size:=by
  obtain ⟨g,cap,h1,h2,h3, -⟩:=Kd.VQ h hn
  exact ⟨g,cap,h1,h2,h3⟩
set_option maxRecDepth 100000 in
set_option maxHeartbeats 8000000 in
theorem Nb {w : World} {b : Nat} {ok : Nat → Prop} {v : Value} {ps : List Page} (k : Int) (hk0 : 0 ≤ k) (hk1 : k + cntP ps ≤ 8000000000000000000) (h : OwnPk w b ok v ps) : Calls Tryz.prog 26 #[v, .int .i64 k] w (RetMkP w b ok v ps k):=by
  obtain ⟨A,c,hv, -,hC⟩:=Kd.Cn h
  have hm:=(CJ hC).2
  have HR:=As h
  subst hv
  clear h hC
  go_enter Tryz.func26,Tryz.ntmps26
  go_wp2
  go_loopw [1,5] (fun x i wr => ∃ (j : Nat) (ys : List Page),j ≤ ps.length ∧ x = .int .i64 (k + CR ps j) ∧ i = .int .i64 (j : Int) ∧ Ac (OwnPk wr b ok (.slice A ps.length c) ys) ∧ Ac (ys.length = ps.length ∧ ∀ m,m < ps.length → pg ys m = if m < j then mkP (pg ps m) (k + CR ps m) else pg ps m) ∧ Ac (Wrote w wr ok)) (fun _ i _ => (ps.length - intOf i).toNat)
  case atStart => exact ⟨0,ps,Nat.zero_le _,by simp [CR],rfl,HR,⟨rfl,fun m hm => by simp⟩,⟨Wrote.refl _ _⟩⟩
  case round =>
    obtain ⟨j,ys,hj,rfl,rfl,HY,HL,HG⟩:=hrel
    by_cases hlt : j < ps.length
    · have hy:=HY.out
      obtain ⟨g,cap,hv, -, -⟩:=V9 hy (by rw [HL.out.1];omega)
      rw [HL.out.1] at hv
      injection hv with h1 h2 h3
      subst h1 h3
      have hpj : pg ys j = pg ps j:=by rw [HL.out.2 j hlt,if_neg (Nat.lt_irrefl _)]
      have hst:=OV hlt
      have hof : (CR ps (j + 1) : Int) = CR ps j + (2 + (pg ps j).vals.length : Nat):=by rw [CR];omega
      -- the three fields, one behind the other
      obtain ⟨oki,v,hok,hg,hv,⟨a0,a1,a2⟩,hfr, -⟩:=NH hy hlt
      have f0:=hfr 0
      simp only [Nat.add_zero] at f0
      have s1:=Vb hy hlt (k + CR ps j)
      obtain ⟨W1,hW1⟩ : ∃ W1,wr.setCell ⟨g,j * 3,none⟩ (.int .i64 (k + CR ps j)) = W1:=⟨_,rfl⟩
      rw [hW1] at s1
      have k1 : Wrote w W1 ok:=by rw [← hW1];exact HG.out.setCell (p:=⟨g,j * 3,none⟩) (.inl hg) _
      obtain ⟨ok2,v2, -, -,hv2,⟨b0,b1,b2⟩,hfr2, -⟩:=NH s1 hlt
      have f1:=hfr2 1
      have s2:=Va s1 hlt (k + CR ps j + 1)
      obtain ⟨W2,hW2⟩ : ∃ W2,W1.setCell ⟨g,j * 3 + 1,none⟩ (.int .i64 (k + CR ps j + 1)) = W2:=⟨_,rfl⟩
      rw [hW2] at s2
      have k2 : Wrote w W2 ok:=by rw [← hW2];exact k1.setCell (p:=⟨g,j * 3 + 1,none⟩) (.inl hg) _
      obtain ⟨ok3,v3,hok3, -,hv3,⟨c0,c1,c2⟩, -,hH⟩:=NH s2 hlt
      have hl1 : (ys.set j { pg ys j with lsn:=k + CR ps j }).length = ps.length:=by rw [List.length_set];exact HL.out.1
      have e1 : pg (ys.set j { pg ys j with lsn:=k + CR ps j }) j = { pg ps j with lsn:=k + CR ps j }:=by rw [La (by rw [HL.out.1];exact hlt),if_pos rfl,hpj]
      have e2 : pg ((ys.set j { pg ys j with lsn:=k + CR ps j }).set j { pg (ys.set j { pg ys j with lsn:=k + CR ps j }) j with owner:=k + CR ps j + 1 }) j = ⟨k + CR ps j,k + CR ps j + 1,(pg ps j).vals⟩:=by rw [La (by rw [hl1];exact hlt),if_pos rfl,e1]
      rw [e2] at hv3
      obtain ⟨zs,hzs⟩ : ∃ zs,(ys.set j { pg ys j with lsn:=k + CR ps j }).set j { pg (ys.set j { pg ys j with lsn:=k + CR ps j }) j with owner:=k + CR ps j + 1 } = zs:=⟨_,rfl⟩
      have hzl : zs.length = ps.length:=by rw [← hzs,List.length_set];exact hl1
      have hzj : pg zs j = ⟨k + CR ps j,k + CR ps j + 1,(pg ps j).vals⟩:=by rw [← hzs];exact e2
      have hzm : ∀ m,m ≠ j → m < ps.length → pg zs m = if m < j then mkP (pg ps m) (k + CR ps m) else pg ps m:=fun m hm hml => by
        rw [← hzs,La (by rw [hl1];exact hlt),if_neg (Ne.symm hm),La (by rw [HL.out.1];exact hlt),if_neg (Ne.symm hm),HL.out.2 m hml]
      rw [hzs] at hH
      have e3 : v3 = v:=by
        have h:=c2
        rw [← hW2,World.cell?_setCell_other (h:=show (⟨g,j * 3 + 1,none⟩ : Addr) ≠ ⟨g,j * 3 + 2,none⟩ from fun e => by injection e;omega), ← hW1,World.cell?_setCell_other (h:=show (⟨g,j * 3,none⟩ : Addr) ≠ ⟨g,j * 3 + 2,none⟩ from fun e => by injection e;omega),a2] at h
        injection h with h
        exact h.symm
      subst e3
      have HH:=As hH
      have HZ:=As (And.intro hzl (And.intro hzj hzm))
      have HV3:=As (show RI W2 b ok3 v3 (pg ps j).vals from hv3)
      have HK2:=As k2
      have HG2:=As hg
      have HOK3:=As (fun m hm => (hok3 m hm).1)
      have HW12 : Ac ((wr.setCell ⟨g,j * 3,none⟩ (.int .i64 (k + CR ps j))).setCell ⟨g,j * 3 + 1,none⟩ (.int .i64 (k + CR ps j + 1)) = W2):=⟨by rw [hW1,hW2]⟩
      have HOF:=As hof
      have f1':=hfr 1
      have hwr1 : IntKind.i64.wrap (k + (CR ps j : Int) + 1) = k + (CR ps j : Int) + 1:=by simp (disch:=omega) only [IntWalk.i64_in]
      have hwr2 : IntKind.i64.wrap (k + (CR ps j : Int) + 1 + 1) = k + (CR ps j : Int) + 1 + 1:=by simp (disch:=omega) only [IntWalk.i64_in]
      have HN:=As (show 0 ≤ k + (CR ps j : Int) + 1 + 1 ∧ k + (CR ps j : Int) + 1 + 1 + (pg ps j).vals.length ≤ 9000000000000000000 by omega)
      clear hy hv hok hfr s1 k1 hfr2 hv2 s2 k2 hok3 hH hl1 e1 e2 hzs hzl hzj hzm hW1 hW2 hpj h2 hv3 b0 b1 b2 c0 c1 c2 f1 hg hof
      go_wp2_with (go_at_call 64;rw [HW12.out];refine (JA (k + (CR ps j : Int) + 1 + 1) HN.out.1 HN.out.2 HV3.out).mono ?_;rintro x w4 ⟨rfl,hv4,hk4⟩;have HS4:=As (Ww HH.out hv4 hk4.kept);have HK4:=As (HK2.out.D6 hk4 (fun m hm => .inl (HOK3.out m (hv4.1 m hm.symm))));clear hv4 hk4)
      go_roundw
      case rel =>
        refine ⟨j + 1,_,by omega,congrArg (Value.int .i64) (by have:=HOF.out;omega),by go_num,HS4,⟨by rw [List.length_set];exact HZ.out.1,fun m hm => ?_⟩,HK4⟩
        rw [La (by rw [HZ.out.1];exact hlt),HZ.out.2.1]
        by_cases e : j = m
        · subst e
          rw [if_pos rfl,if_pos (Nat.lt_succ_self _),mkP,show k + (CR ps j : Int) + 2 = k + (CR ps j : Int) + 1 + 1 by omega]
        · rw [if_neg e,HZ.out.2.2 m (Ne.symm e) hm]
          by_cases e4 : m < j
          · rw [if_pos e4,if_pos (by omega)]
          · rw [if_neg e4,if_neg (by omega)]
      case measure => simp [intOf];omega
    · have HE:=As (show j = ps.length by omega)
      go_wp2
      go_ret
      refine ⟨Cs (by rw [HE.out];rfl),?_,HG.out⟩
      have e : ys = mkPs ps k:=Xh (by rw [HL.out.1,QG]) (fun m hm => by rw [HL.out.1] at hm;rw [Tn k hm,HL.out.2 m hm,if_pos (by have:=HE.out;omega)])
      rw [← e]
      exact HY.out
set_option maxRecDepth 100000 in
set_option maxHeartbeats 8000000 in
theorem J8 {w0 w : World} {A : Option Addr} {c : Nat} {ps : List Page} (k : Int) (hk0 : 0 ≤ k) (hk1 : k + cntP ps ≤ 8000000000000000000) (hb : Below w0.heap.size w0 w) (hr : Kd.C Dn w0 A ps.length (mkPs ps k)) : Calls Tryz.prog 27 #[.slice A ps.length c, .int .i64 k] w fun x w' => x = .returned (.int .i64 (k + (cntP ps : Int))) ∧ w' = w:=by
  have HR:=As (Bu hr hb)
  have hm:=(CJ hr).2
  clear hr hb
  go_enter Tryz.func27,Tryz.ntmps27
  go_wp2
  go_loopw [1,5] (fun x i wr => ∃ j : Nat,j ≤ ps.length ∧ x = .int .i64 (k + CR ps j) ∧ i = .int .i64 (j : Int) ∧ wr = w) (fun _ i _ => (ps.length - intOf i).toNat)
  case atStart => exact ⟨0,Nat.zero_le _,by simp [CR],rfl,by first | rfl | trivial⟩
  case round =>
    obtain ⟨j,hj,rfl,rfl,rfl⟩:=hrel
    by_cases hlt : j < ps.length
    · obtain ⟨ad,A2,c2,rfl,QP, -,g2⟩:=EP HR.out j hlt
      rw [Tn k hlt] at QP g2
      obtain ⟨q0,q1,x2⟩:=QP
      have hlen : (mkP (pg ps j) (k + (CR ps j : Int))).vals.length = (pg ps j).vals.length:=Ps _ _
      rw [hlen] at g2 x2
      have hst:=OV hlt
      have HOF:=As (show (CR ps (j + 1) : Int) = CR ps j + (2 + (pg ps j).vals.length : Nat) by rw [CR];omega)
      have HG:=As (show Kd.C (Kd.int .i64) wr A2 (pg ps j).vals.length (mkI (pg ps j).vals.length (k + (CR ps j : Int) + 1 + 1)) by rw [show k + (CR ps j : Int) + 1 + 1 = k + (CR ps j : Int) + 2 by omega];exact g2)
      obtain ⟨z,hz⟩ : ∃ z,k + (CR ps j : Int) = z:=⟨_,rfl⟩
      rw [hz] at HG
      have x0 : wr.cell? (ad.add (j * 3)) = some (.int .i64 z):=by rw [← hz];exact q0
      have x1 : wr.cell? ⟨(ad.add (j * 3)).block,(ad.add (j * 3)).off + 1,none⟩ = some (.int .i64 (z + 1)):=by rw [← hz];exact q1
      have hne1 : (z != z) = false:=by simp
      have hne2 : (z + 1 != z + 1) = false:=by simp
      have hwr1 : IntKind.i64.wrap (z + 1) = z + 1:=by simp (disch:=omega) only [IntWalk.i64_in]
      have hwr2 : IntKind.i64.wrap (z + 1 + 1) = z + 1 + 1:=by simp (disch:=omega) only [IntWalk.i64_in]
      have HN:=As (show 0 ≤ z + 1 + 1 ∧ z + 1 + 1 + (pg ps j).vals.length ≤ 9000000000000000000 by omega)
      have hlz : decide (z + 1 + 1 + ((pg ps j).vals.length : Int) < 0) = false:=by simp;omega
      have HZ:=As hz
      rw [hz]
      clear g2 hlen hz hst q0 q1
      go_wp2_with (go_at_call 65;refine (NU (w0:=wr) (z + 1 + 1) HN.out.1 HN.out.2 (Below.refl _ _) HG.out).mono ?_;rintro x w4 ⟨rfl,rfl⟩)
      go_roundw
      case rel => exact ⟨j + 1,by omega,congrArg (Value.int .i64) (by have:=HOF.out;have:=HZ.out;omega),by go_num,by first | rfl | trivial⟩
      case measure => simp [intOf];omega
    · have HE:=As (show j = ps.length by omega)
      go_wp2
      go_ret
      exact ⟨Cs (by rw [HE.out];rfl),rfl⟩
end Go.Proofs.YtpjmlpmhgfghbaaGreat
