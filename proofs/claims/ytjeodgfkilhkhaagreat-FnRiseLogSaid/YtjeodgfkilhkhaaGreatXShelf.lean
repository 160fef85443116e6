/- Words that the print of this claim is made of: what the claim does not reach is struck, names are shortened. -/
import Derived.Shelf.Sort.Plain
import Derived.Shelf.Slices.Turned
import Derived.Shelf.Slices.Equal
import Derived.Ground.Names2Prog
import Derived.Shelf.Slices.Clone
import Derived.Shelf.Slices.CompactI
import Derived.Shelf.Slices.Cells
import Derived.Shelf.Slices.In.SortNone
import Derived.Shelf.Slices.Empties2
import Derived.Test.YtjeodgfkilhkhaaGreatProg
namespace Go.Proofs
open Go.Shelf
def Tryz.QA : Go.Shelf.Ren:=⟨fun | 189 => 112 | 125 => 131 | 257 => 130 | 128 => 150 | 129 => 151 | 294 => 141 | 295 => 142 | 296 => 143 | 297 => 144 | 298 => 145 | 299 => 146 | 216 => 147 | 300 => 148 | 301 => 149 | 328 => 155 | 329 => 156 | 330 => 157 | 331 => 158 | 332 => 159 | 215 => 160 | 343 => 161 | n => n,fun | 28 => 39 | 3 => 3 | 46 => 120 | 0 => 0 | 51 => 137 | 53 => 139 | 4 => 4 | 183 => 130 | 182 => 129 | 131 => 62 | 5 => 5 | 9 => 9 | 218 => 141 | 222 => 145 | 228 => 147 | 229 => 148 | n => n,fun | n => n⟩
theorem Tryz.SQ : Go.Proofs.Lays.n189 Tryz.prog Tryz.QA:={
  mixed:=by kernel_rfl
  f125:=Tryz.func131.trans (congrArg some (by kernel_rfl))
  f128:=Tryz.func150.trans (congrArg some (by kernel_rfl))
  f129:=Tryz.func151.trans (congrArg some (by kernel_rfl))
  f189:=Tryz.func112.trans (congrArg some (by kernel_rfl))
  f215:=Tryz.func160.trans (congrArg some (by kernel_rfl))
  f216:=Tryz.func147.trans (congrArg some (by kernel_rfl))
  f257:=Tryz.func130.trans (congrArg some (by kernel_rfl))
  f294:=Tryz.func141.trans (congrArg some (by kernel_rfl))
  f295:=Tryz.func142.trans (congrArg some (by kernel_rfl))
  f296:=Tryz.func143.trans (congrArg some (by kernel_rfl))
  f297:=Tryz.func144.trans (congrArg some (by kernel_rfl))
  f298:=Tryz.func145.trans (congrArg some (by kernel_rfl))
  f299:=Tryz.func146.trans (congrArg some (by kernel_rfl))
  f300:=Tryz.func148.trans (congrArg some (by kernel_rfl))
  f301:=Tryz.func149.trans (congrArg some (by kernel_rfl))
  f328:=Tryz.func155.trans (congrArg some (by kernel_rfl))
  f329:=Tryz.func156.trans (congrArg some (by kernel_rfl))
  f330:=Tryz.func157.trans (congrArg some (by kernel_rfl))
  f331:=Tryz.func158.trans (congrArg some (by kernel_rfl))
  f332:=Tryz.func159.trans (congrArg some (by kernel_rfl))
  f343:=Tryz.func161.trans (congrArg some (by kernel_rfl))
  t0:=Tryz.underlying0
  a0:=Tryz.isAgg0
  z0:=Tryz.sizeOf0
  v0:=Tryz.zeroValue0
  t3:=Tryz.underlying3
  a3:=Tryz.isAgg3
  z3:=Tryz.sizeOf3
  v3:=Tryz.zeroValue3
  t4:=Tryz.underlying4
  a4:=Tryz.isAgg4
  z4:=Tryz.sizeOf4
  v4:=Tryz.zeroValue4
  t5:=Tryz.underlying5
  a5:=Tryz.isAgg5
  z5:=Tryz.sizeOf5
  v5:=Tryz.zeroValue5
  t9:=Tryz.underlying9
  a9:=Tryz.isAgg9
  z9:=Tryz.sizeOf9
  v9:=Tryz.zeroValue9
  t28:=Tryz.underlying39
  a28:=Tryz.isAgg39
  z28:=Tryz.sizeOf39
  v28:=Tryz.zeroValue39
  t46:=Tryz.underlying120
  a46:=Tryz.isAgg120
  z46:=Tryz.sizeOf120
  v46:=Tryz.zeroValue120
  t51:=Tryz.underlying137
  a51:=Tryz.isAgg137
  z51:=Tryz.sizeOf137
  v51:=Tryz.zeroValue137
  t53:=Tryz.underlying139
  a53:=Tryz.isAgg139
  z53:=Tryz.sizeOf139
  v53:=Tryz.zeroValue139
  t131:=Tryz.underlying62
  a131:=Tryz.isAgg62
  z131:=Tryz.sizeOf62
  v131:=Tryz.zeroValue62
  t182:=Tryz.underlying129
  a182:=Tryz.isAgg129
  z182:=Tryz.sizeOf129
  v182:=Tryz.zeroValue129
  t183:=Tryz.underlying130
  a183:=Tryz.isAgg130
  z183:=Tryz.sizeOf130
  v183:=Tryz.zeroValue130
  t218:=Tryz.underlying141
  a218:=Tryz.isAgg141
  z218:=Tryz.sizeOf141
  v218:=Tryz.zeroValue141
  t222:=Tryz.underlying145
  a222:=Tryz.isAgg145
  z222:=Tryz.sizeOf145
  v222:=Tryz.zeroValue145
  t228:=Tryz.underlying147
  a228:=Tryz.isAgg147
  z228:=Tryz.sizeOf147
  v228:=Tryz.zeroValue147
  t229:=Tryz.underlying148
  a229:=Tryz.isAgg148
  z229:=Tryz.sizeOf148
  v229:=Tryz.zeroValue148 }
open Go.Sort Go.RowKit in
theorem Tryz.slices_Sort_int (blk off cap : Nat) (zs : List Int) (w : World) (hH : Holds (Value.int .i64) w blk off zs.toArray) (hblk : blk < w.heap.size) (hsz : zs.length < 4611686018427387904) :
    Calls Tryz.prog 112 #[.slice (some ⟨blk,off,none⟩) zs.length cap] w fun e w' =>
      e = .returned (.tuple #[]) ∧ ∃ n os,w' = grow (putRow (Value.int .i64) (Sort.ahead w n) blk off (zs.mergeSort fun x y => decide (x ≤ y)).toArray) os:=Any.slices_Sort_int Tryz.SQ blk off cap zs w hH hblk hsz
def Tryz.QC : Go.Shelf.Ren:=⟨fun | 107 => 78 | 108 => 110 | n => n,fun | 28 => 39 | 3 => 3 | 4 => 4 | 0 => 0 | n => n,fun | n => n⟩
theorem Tryz.SS : Go.Proofs.Lays.n107 Tryz.prog Tryz.QC:={
  mixed:=by kernel_rfl
  f107:=Tryz.func78.trans (congrArg some (by kernel_rfl))
  f108:=Tryz.func110.trans (congrArg some (by kernel_rfl))
  t0:=Tryz.underlying0
  a0:=Tryz.isAgg0
  z0:=Tryz.sizeOf0
  v0:=Tryz.zeroValue0
  t3:=Tryz.underlying3
  a3:=Tryz.isAgg3
  z3:=Tryz.sizeOf3
  v3:=Tryz.zeroValue3
  t4:=Tryz.underlying4
  a4:=Tryz.isAgg4
  z4:=Tryz.sizeOf4
  v4:=Tryz.zeroValue4
  t28:=Tryz.underlying39
  a28:=Tryz.isAgg39
  z28:=Tryz.sizeOf39
  v28:=Tryz.zeroValue39 }
open Go.Lib in
theorem Tryz.slices_Contains_int (b off n c : Nat) (zs : List Int) (x : Int) (w : World) (hz : n ≤ zs.length) (hbig : n ≤ 9223372036854775807) (hc : ∀ j,j < zs.length → w.cell? ⟨b,off + j,none⟩ = some (.int .i64 (zs.getD j 0))) :
    Calls Tryz.prog 78 #[.slice (some ⟨b,off,none⟩) n c, .int .i64 x] w fun e w' => e = .returned (.bool ((zs.take n).contains x)) ∧ w' = w:=Any.slices_Contains_int Tryz.SS b off n c zs x w hz hbig hc
open Go.Lib in
theorem Tryz.slices_Contains_int_empty (a : Option Addr) (c : Nat) (x : Int) (w : World) :
    Calls Tryz.prog 78 #[.slice a 0 c, .int .i64 x] w fun e w' => e = .returned (.bool false) ∧ w' = w:=Any.slices_Contains_int_empty Tryz.SS a c x w
def Tryz.QB : Go.Shelf.Ren:=⟨fun | 111 => 81 | n => n,fun | 28 => 39 | 3 => 3 | 4 => 4 | 0 => 0 | n => n,fun | n => n⟩
theorem Tryz.Pf : Go.Proofs.Lays.n111 Tryz.prog Tryz.QB:={
  mixed:=by kernel_rfl
  f111:=Tryz.func81.trans (congrArg some (by kernel_rfl))
  t0:=Tryz.underlying0
  a0:=Tryz.isAgg0
  z0:=Tryz.sizeOf0
  v0:=Tryz.zeroValue0
  t3:=Tryz.underlying3
  a3:=Tryz.isAgg3
  z3:=Tryz.sizeOf3
  v3:=Tryz.zeroValue3
  t4:=Tryz.underlying4
  a4:=Tryz.isAgg4
  z4:=Tryz.sizeOf4
  v4:=Tryz.zeroValue4
  t28:=Tryz.underlying39
  a28:=Tryz.isAgg39
  z28:=Tryz.sizeOf39
  v28:=Tryz.zeroValue39 }
open Go.RowKit Go.Lib in
theorem Tryz.slices_Equal_int (b1 o1 n c b2 o2 m d : Nat) (xs ys : List Int) (w : World) (hx : n ≤ xs.length) (hy : m ≤ ys.length) (hbig : n ≤ 9223372036854775807) (hbig2 : m ≤ 9223372036854775807) (hc1 : ∀ j,j < xs.length → w.cell? ⟨b1,o1 + j,none⟩ = some (.int .i64 (xs.getD j 0))) (hc2 : ∀ j,j < ys.length → w.cell? ⟨b2,o2 + j,none⟩ = some (.int .i64 (ys.getD j 0))) :
    Calls Tryz.prog 81 #[.slice (some ⟨b1,o1,none⟩) n c, .slice (some ⟨b2,o2,none⟩) m d] w fun e w' => e = .returned (.bool (xs.take n == ys.take m)) ∧ ∃ q,w' = w.drewN q:=Any.slices_Equal_int Tryz.Pf b1 o1 n c b2 o2 m d xs ys w hx hy hbig hbig2 hc1 hc2
open Go.RowKit Go.Lib in
theorem Tryz.slices_Equal_int_empty (a1 a2 : Option Addr) (c m d : Nat) (w : World) (hbig2 : m ≤ 9223372036854775807) :
    Calls Tryz.prog 81 #[.slice a1 0 c, .slice a2 m d] w fun e w' => e = .returned (.bool (decide (m = 0))) ∧ w' = w:=Any.slices_Equal_int_empty Tryz.Pf a1 a2 c m d w hbig2
def Tryz.O0 : Go.Shelf.Ren:=⟨fun | 15 => 105 | n => n,fun | 22 => 39 | 3 => 3 | 4 => 4 | n => n,fun | n => n⟩
theorem Tryz.M7 : Go.Proofs.Lays2.n15 Tryz.prog Tryz.O0:={
  mixed:=by kernel_rfl
  f15:=Tryz.func105.trans (congrArg some (by kernel_rfl))
  t3:=Tryz.underlying3
  a3:=Tryz.isAgg3
  z3:=Tryz.sizeOf3
  v3:=Tryz.zeroValue3
  t4:=Tryz.underlying4
  a4:=Tryz.isAgg4
  z4:=Tryz.sizeOf4
  v4:=Tryz.zeroValue4
  t22:=Tryz.underlying39
  a22:=Tryz.isAgg39
  z22:=Tryz.sizeOf39
  v22:=Tryz.zeroValue39
  i3:=by kernel_rfl }
open Go.RowKit Go.Lib in
theorem Tryz.slices_Clone_int (b off n c : Nat) (zs : List Int) (w : World) (hz : n ≤ zs.length) (hbig : n * 8 ≤ 140737488355328) (hc : ∀ j,j < zs.length → w.cell? ⟨b,off + j,none⟩ = some (.int .i64 (zs.getD j 0))) :
    Calls Tryz.prog 105 #[.slice (some ⟨b,off,none⟩) n c] w fun e w' => ∃ v',e = .returned v' ∧ w'.ownsRow w.heap.size 3 1 v' n ((zs.take n).map (Value.int .i64)) ∧ v' ≠ .slice none 0 0 ∧ Below w.heap.size w w':=Any.slices_Clone_int Tryz.M7 b off n c zs w hz hbig hc
open Go.RowKit Go.Lib in
theorem Tryz.slices_Clone_int_nil (n c : Nat) (w : World) :
    Calls Tryz.prog 105 #[.slice none n c] w fun e w' => e = .returned (.slice none 0 0) ∧ w' = w:=Any.slices_Clone_int_nil Tryz.M7 n c w
open Go.RowKit Go.Lib in
theorem Tryz.slices_Clone_int_zero (a : Addr) (c : Nat) (w : World) :
    Calls Tryz.prog 105 #[.slice (some a) 0 c] w fun e w' => ∃ v',e = .returned v' ∧ w'.ownsRow w.heap.size 3 1 v' 0 [] ∧ v' ≠ .slice none 0 0 ∧ Below w.heap.size w w':=Any.slices_Clone_int_zero Tryz.M7 a c w
def Tryz.NZ : Go.Shelf.Ren:=⟨fun | 20 => 114 | n => n,fun | 22 => 39 | 3 => 3 | 4 => 4 | 0 => 0 | n => n,fun | n => n⟩
theorem Tryz.Oz : Go.Proofs.Lays2.n20 Tryz.prog Tryz.NZ:={
  mixed:=by kernel_rfl
  f20:=Tryz.func114.trans (congrArg some (by kernel_rfl))
  t0:=Tryz.underlying0
  a0:=Tryz.isAgg0
  z0:=Tryz.sizeOf0
  v0:=Tryz.zeroValue0
  t3:=Tryz.underlying3
  a3:=Tryz.isAgg3
  z3:=Tryz.sizeOf3
  v3:=Tryz.zeroValue3
  t4:=Tryz.underlying4
  a4:=Tryz.isAgg4
  z4:=Tryz.sizeOf4
  v4:=Tryz.zeroValue4
  t22:=Tryz.underlying39
  a22:=Tryz.isAgg39
  z22:=Tryz.sizeOf39
  v22:=Tryz.zeroValue39
  i3:=by kernel_rfl }
open Go.RowKit Go.Lib Go.Sort in
theorem Tryz.slices_Compact_int (blk off cap : Nat) (zs : List Int) (w : World) (hH : Holds (Value.int .i64) w blk off zs.toArray) (hsz : zs.length ≤ 9223372036854775807) (hcap : zs.length ≤ cap) :
    Calls Tryz.prog 114 #[.slice (some ⟨blk,off,none⟩) zs.length cap] w fun e w' => e = .returned (.slice (some ⟨blk,off,none⟩) (Lib.compact zs).length cap) ∧ ∃ q,w' = putRow (Value.int .i64) (Sort.ahead w q) blk off (Lib.compact zs ++ List.replicate (zs.length - (Lib.compact zs).length) 0).toArray:=Any.slices_Compact_int Tryz.Oz blk off cap zs w hH hsz hcap
open Go.RowKit Go.Lib Go.Sort in
theorem Tryz.slices_Compact_int_empty (a : Option Addr) (cap : Nat) (w : World) :
    Calls Tryz.prog 114 #[.slice a 0 cap] w fun e w' => e = .returned (.slice a 0 cap) ∧ w' = w:=Any.slices_Compact_int_empty Tryz.Oz a cap w
open Go.RowKit Go.Sort in
theorem Tryz.slices_Sort_int_none (p : Option Addr) (cap : Nat) (w : World) :
    Calls Tryz.prog 112 #[.slice p 0 cap] w fun e w' => e = .returned (.tuple #[]) ∧ w' = w:=Any.slices_Sort_int_none Tryz.SQ p cap w
open Go.RowKit Go.Lib in
theorem Tryz.slices_Equal_int_lens (a1 a2 : Option Addr) (n c m d : Nat) (w : World) (hnm : n ≠ m) :
    Calls Tryz.prog 81 #[.slice a1 n c, .slice a2 m d] w fun e w' => e = .returned (.bool false) ∧ w' = w:=Any.slices_Equal_int_lens Tryz.Pf a1 a2 n c m d w hnm
end Go.Proofs
