/- Words that the print of this claim is made of: what the claim does not reach is struck, names are shortened. -/
import Derived.Shelf.Small.Bits
import Derived.Shelf.Strconv.Itoa0
import Derived.Shelf.Sort.Plain
import Derived.Shelf.Slices.Turned
import Derived.Shelf.Slices.Equal
import Derived.Ground.Names2Prog
import Derived.Shelf.Slices.Clone
import Derived.Shelf.Slices.CompactI
import Derived.Shelf.Slices.SearchI
import Derived.Shelf.Slices.Cells
import Derived.Shelf.Slices.In.SortNone
import Derived.Shelf.Slices.Empties2
import Derived.Ground.SlgnProg
import Derived.Shelf.SlicesE.Clone
import Derived.Test.YtofgeajaajfiaaaGreatProg
namespace Go.Proofs
open Go.Shelf
def Tryz.Sj : Go.Shelf.Ren:=⟨fun | 189 => 98 | 125 => 138 | 257 => 137 | 128 => 163 | 129 => 164 | 294 => 154 | 295 => 155 | 296 => 156 | 297 => 157 | 298 => 158 | 299 => 159 | 216 => 160 | 300 => 161 | 301 => 162 | 328 => 165 | 329 => 166 | 330 => 167 | 331 => 168 | 332 => 169 | 215 => 170 | 343 => 171 | n => n,fun | 28 => 32 | 3 => 3 | 46 => 120 | 0 => 0 | 51 => 136 | 53 => 138 | 4 => 4 | 183 => 130 | 182 => 129 | 131 => 79 | 5 => 5 | 9 => 9 | 218 => 139 | 222 => 143 | 228 => 145 | 229 => 49 | n => n,fun | n => n⟩
theorem Tryz.Uz : Go.Proofs.Lays.n189 Tryz.prog Tryz.Sj:={
  mixed:=by kernel_rfl
  f125:=Tryz.func138.trans (congrArg some (by kernel_rfl))
  f128:=Tryz.func163.trans (congrArg some (by kernel_rfl))
  f129:=Tryz.func164.trans (congrArg some (by kernel_rfl))
  f189:=Tryz.func98.trans (congrArg some (by kernel_rfl))
  f215:=Tryz.func170.trans (congrArg some (by kernel_rfl))
  f216:=Tryz.func160.trans (congrArg some (by kernel_rfl))
  f257:=Tryz.func137.trans (congrArg some (by kernel_rfl))
  f294:=Tryz.func154.trans (congrArg some (by kernel_rfl))
  f295:=Tryz.func155.trans (congrArg some (by kernel_rfl))
  f296:=Tryz.func156.trans (congrArg some (by kernel_rfl))
  f297:=Tryz.func157.trans (congrArg some (by kernel_rfl))
  f298:=Tryz.func158.trans (congrArg some (by kernel_rfl))
  f299:=Tryz.func159.trans (congrArg some (by kernel_rfl))
  f300:=Tryz.func161.trans (congrArg some (by kernel_rfl))
  f301:=Tryz.func162.trans (congrArg some (by kernel_rfl))
  f328:=Tryz.func165.trans (congrArg some (by kernel_rfl))
  f329:=Tryz.func166.trans (congrArg some (by kernel_rfl))
  f330:=Tryz.func167.trans (congrArg some (by kernel_rfl))
  f331:=Tryz.func168.trans (congrArg some (by kernel_rfl))
  f332:=Tryz.func169.trans (congrArg some (by kernel_rfl))
  f343:=Tryz.func171.trans (congrArg some (by kernel_rfl))
  t0:=Tryz.underlying0
  a0:=Tryz.isAgg0
  z0:=Tryz.sizeOf0
  v0:=Tryz.zeroValue0
  t3:=Tryz.underlying3
  a3:=Tryz.isAgg3
  z3:=Tryz.sizeOf3
  v3:=Tryz.zeroValue3
  t4:=Tryz.underlying4
  a4:=Tryz.isAgg4
  z4:=Tryz.sizeOf4
  v4:=Tryz.zeroValue4
  t5:=Tryz.underlying5
  a5:=Tryz.isAgg5
  z5:=Tryz.sizeOf5
  v5:=Tryz.zeroValue5
  t9:=Tryz.underlying9
  a9:=Tryz.isAgg9
  z9:=Tryz.sizeOf9
  v9:=Tryz.zeroValue9
  t28:=Tryz.underlying32
  a28:=Tryz.isAgg32
  z28:=Tryz.sizeOf32
  v28:=Tryz.zeroValue32
  t46:=Tryz.underlying120
  a46:=Tryz.isAgg120
  z46:=Tryz.sizeOf120
  v46:=Tryz.zeroValue120
  t51:=Tryz.underlying136
  a51:=Tryz.isAgg136
  z51:=Tryz.sizeOf136
  v51:=Tryz.zeroValue136
  t53:=Tryz.underlying138
  a53:=Tryz.isAgg138
  z53:=Tryz.sizeOf138
  v53:=Tryz.zeroValue138
  t131:=Tryz.underlying79
  a131:=Tryz.isAgg79
  z131:=Tryz.sizeOf79
  v131:=Tryz.zeroValue79
  t182:=Tryz.underlying129
  a182:=Tryz.isAgg129
  z182:=Tryz.sizeOf129
  v182:=Tryz.zeroValue129
  t183:=Tryz.underlying130
  a183:=Tryz.isAgg130
  z183:=Tryz.sizeOf130
  v183:=Tryz.zeroValue130
  t218:=Tryz.underlying139
  a218:=Tryz.isAgg139
  z218:=Tryz.sizeOf139
  v218:=Tryz.zeroValue139
  t222:=Tryz.underlying143
  a222:=Tryz.isAgg143
  z222:=Tryz.sizeOf143
  v222:=Tryz.zeroValue143
  t228:=Tryz.underlying145
  a228:=Tryz.isAgg145
  z228:=Tryz.sizeOf145
  v228:=Tryz.zeroValue145
  t229:=Tryz.underlying49
  a229:=Tryz.isAgg49
  z229:=Tryz.sizeOf49
  v229:=Tryz.zeroValue49 }
open Go.Sort Go.RowKit in
theorem Tryz.slices_Sort_int (blk off cap : Nat) (zs : List Int) (w : World) (hH : Holds (Value.int .i64) w blk off zs.toArray) (hblk : blk < w.heap.size) (hsz : zs.length < 4611686018427387904) :
    Calls Tryz.prog 98 #[.slice (some ⟨blk,off,none⟩) zs.length cap] w fun e w' =>
      e = .returned (.tuple #[]) ∧ ∃ n os,w' = grow (putRow (Value.int .i64) (Sort.ahead w n) blk off (zs.mergeSort fun x y => decide (x ≤ y)).toArray) os:=Any.slices_Sort_int Tryz.Uz blk off cap zs w hH hblk hsz
def Tryz.Sm : Go.Shelf.Ren:=⟨fun | 107 => 105 | 108 => 140 | n => n,fun | 28 => 32 | 3 => 3 | 4 => 4 | 0 => 0 | n => n,fun | n => n⟩
theorem Tryz.UB : Go.Proofs.Lays.n107 Tryz.prog Tryz.Sm:={
  mixed:=by kernel_rfl
  f107:=Tryz.func105.trans (congrArg some (by kernel_rfl))
  f108:=Tryz.func140.trans (congrArg some (by kernel_rfl))
  t0:=Tryz.underlying0
  a0:=Tryz.isAgg0
  z0:=Tryz.sizeOf0
  v0:=Tryz.zeroValue0
  t3:=Tryz.underlying3
  a3:=Tryz.isAgg3
  z3:=Tryz.sizeOf3
  v3:=Tryz.zeroValue3
  t4:=Tryz.underlying4
  a4:=Tryz.isAgg4
  z4:=Tryz.sizeOf4
  v4:=Tryz.zeroValue4
  t28:=Tryz.underlying32
  a28:=Tryz.isAgg32
  z28:=Tryz.sizeOf32
  v28:=Tryz.zeroValue32 }
open Go.Lib in
theorem Tryz.slices_Contains_int (b off n c : Nat) (zs : List Int) (x : Int) (w : World) (hz : n ≤ zs.length) (hbig : n ≤ 9223372036854775807) (hc : ∀ j,j < zs.length → w.cell? ⟨b,off + j,none⟩ = some (.int .i64 (zs.getD j 0))) :
    Calls Tryz.prog 105 #[.slice (some ⟨b,off,none⟩) n c, .int .i64 x] w fun e w' => e = .returned (.bool ((zs.take n).contains x)) ∧ w' = w:=Any.slices_Contains_int Tryz.UB b off n c zs x w hz hbig hc
open Go.Lib in
theorem Tryz.slices_Contains_int_empty (a : Option Addr) (c : Nat) (x : Int) (w : World) :
    Calls Tryz.prog 105 #[.slice a 0 c, .int .i64 x] w fun e w' => e = .returned (.bool false) ∧ w' = w:=Any.slices_Contains_int_empty Tryz.UB a c x w
def Tryz.Sk : Go.Shelf.Ren:=⟨fun | 111 => 127 | n => n,fun | 28 => 32 | 3 => 3 | 4 => 4 | 0 => 0 | n => n,fun | n => n⟩
theorem Tryz.QF : Go.Proofs.Lays.n111 Tryz.prog Tryz.Sk:={
  mixed:=by kernel_rfl
  f111:=Tryz.func127.trans (congrArg some (by kernel_rfl))
  t0:=Tryz.underlying0
  a0:=Tryz.isAgg0
  z0:=Tryz.sizeOf0
  v0:=Tryz.zeroValue0
  t3:=Tryz.underlying3
  a3:=Tryz.isAgg3
  z3:=Tryz.sizeOf3
  v3:=Tryz.zeroValue3
  t4:=Tryz.underlying4
  a4:=Tryz.isAgg4
  z4:=Tryz.sizeOf4
  v4:=Tryz.zeroValue4
  t28:=Tryz.underlying32
  a28:=Tryz.isAgg32
  z28:=Tryz.sizeOf32
  v28:=Tryz.zeroValue32 }
open Go.RowKit Go.Lib in
theorem Tryz.slices_Equal_int (b1 o1 n c b2 o2 m d : Nat) (xs ys : List Int) (w : World) (hx : n ≤ xs.length) (hy : m ≤ ys.length) (hbig : n ≤ 9223372036854775807) (hbig2 : m ≤ 9223372036854775807) (hc1 : ∀ j,j < xs.length → w.cell? ⟨b1,o1 + j,none⟩ = some (.int .i64 (xs.getD j 0))) (hc2 : ∀ j,j < ys.length → w.cell? ⟨b2,o2 + j,none⟩ = some (.int .i64 (ys.getD j 0))) :
    Calls Tryz.prog 127 #[.slice (some ⟨b1,o1,none⟩) n c, .slice (some ⟨b2,o2,none⟩) m d] w fun e w' => e = .returned (.bool (xs.take n == ys.take m)) ∧ ∃ q,w' = w.drewN q:=Any.slices_Equal_int Tryz.QF b1 o1 n c b2 o2 m d xs ys w hx hy hbig hbig2 hc1 hc2
open Go.RowKit Go.Lib in
theorem Tryz.slices_Equal_int_empty (a1 a2 : Option Addr) (c m d : Nat) (w : World) (hbig2 : m ≤ 9223372036854775807) :
    Calls Tryz.prog 127 #[.slice a1 0 c, .slice a2 m d] w fun e w' => e = .returned (.bool (decide (m = 0))) ∧ w' = w:=Any.slices_Equal_int_empty Tryz.QF a1 a2 c m d w hbig2
def Tryz.PD : Go.Shelf.Ren:=⟨fun | 15 => 107 | n => n,fun | 22 => 32 | 3 => 3 | 4 => 4 | n => n,fun | n => n⟩
theorem Tryz.Nz : Go.Proofs.Lays2.n15 Tryz.prog Tryz.PD:={
  mixed:=by kernel_rfl
  f15:=Tryz.func107.trans (congrArg some (by kernel_rfl))
  t3:=Tryz.underlying3
  a3:=Tryz.isAgg3
  z3:=Tryz.sizeOf3
  v3:=Tryz.zeroValue3
  t4:=Tryz.underlying4
  a4:=Tryz.isAgg4
  z4:=Tryz.sizeOf4
  v4:=Tryz.zeroValue4
  t22:=Tryz.underlying32
  a22:=Tryz.isAgg32
  z22:=Tryz.sizeOf32
  v22:=Tryz.zeroValue32
  i3:=by kernel_rfl }
open Go.RowKit Go.Lib in
theorem Tryz.slices_Clone_int (b off n c : Nat) (zs : List Int) (w : World) (hz : n ≤ zs.length) (hbig : n * 8 ≤ 140737488355328) (hc : ∀ j,j < zs.length → w.cell? ⟨b,off + j,none⟩ = some (.int .i64 (zs.getD j 0))) :
    Calls Tryz.prog 107 #[.slice (some ⟨b,off,none⟩) n c] w fun e w' => ∃ v',e = .returned v' ∧ w'.ownsRow w.heap.size 3 1 v' n ((zs.take n).map (Value.int .i64)) ∧ v' ≠ .slice none 0 0 ∧ Below w.heap.size w w':=Any.slices_Clone_int Tryz.Nz b off n c zs w hz hbig hc
open Go.RowKit Go.Lib in
theorem Tryz.slices_Clone_int_nil (n c : Nat) (w : World) :
    Calls Tryz.prog 107 #[.slice none n c] w fun e w' => e = .returned (.slice none 0 0) ∧ w' = w:=Any.slices_Clone_int_nil Tryz.Nz n c w
open Go.RowKit Go.Lib in
theorem Tryz.slices_Clone_int_zero (a : Addr) (c : Nat) (w : World) :
    Calls Tryz.prog 107 #[.slice (some a) 0 c] w fun e w' => ∃ v',e = .returned v' ∧ w'.ownsRow w.heap.size 3 1 v' 0 [] ∧ v' ≠ .slice none 0 0 ∧ Below w.heap.size w w':=Any.slices_Clone_int_zero Tryz.Nz a c w
def Tryz.Pz : Go.Shelf.Ren:=⟨fun | 20 => 100 | n => n,fun | 22 => 32 | 3 => 3 | 4 => 4 | 0 => 0 | n => n,fun | n => n⟩
theorem Tryz.Qi : Go.Proofs.Lays2.n20 Tryz.prog Tryz.Pz:={
  mixed:=by kernel_rfl
  f20:=Tryz.func100.trans (congrArg some (by kernel_rfl))
  t0:=Tryz.underlying0
  a0:=Tryz.isAgg0
  z0:=Tryz.sizeOf0
  v0:=Tryz.zeroValue0
  t3:=Tryz.underlying3
  a3:=Tryz.isAgg3
  z3:=Tryz.sizeOf3
  v3:=Tryz.zeroValue3
  t4:=Tryz.underlying4
  a4:=Tryz.isAgg4
  z4:=Tryz.sizeOf4
  v4:=Tryz.zeroValue4
  t22:=Tryz.underlying32
  a22:=Tryz.isAgg32
  z22:=Tryz.sizeOf32
  v22:=Tryz.zeroValue32
  i3:=by kernel_rfl }
open Go.RowKit Go.Lib Go.Sort in
theorem Tryz.slices_Compact_int (blk off cap : Nat) (zs : List Int) (w : World) (hH : Holds (Value.int .i64) w blk off zs.toArray) (hsz : zs.length ≤ 9223372036854775807) (hcap : zs.length ≤ cap) :
    Calls Tryz.prog 100 #[.slice (some ⟨blk,off,none⟩) zs.length cap] w fun e w' => e = .returned (.slice (some ⟨blk,off,none⟩) (Lib.compact zs).length cap) ∧ ∃ q,w' = putRow (Value.int .i64) (Sort.ahead w q) blk off (Lib.compact zs ++ List.replicate (zs.length - (Lib.compact zs).length) 0).toArray:=Any.slices_Compact_int Tryz.Qi blk off cap zs w hH hsz hcap
open Go.RowKit Go.Lib Go.Sort in
theorem Tryz.slices_Compact_int_empty (a : Option Addr) (cap : Nat) (w : World) :
    Calls Tryz.prog 100 #[.slice a 0 cap] w fun e w' => e = .returned (.slice a 0 cap) ∧ w' = w:=Any.slices_Compact_int_empty Tryz.Qi a cap w
open Go.RowKit Go.Sort in
theorem Tryz.slices_Sort_int_none (p : Option Addr) (cap : Nat) (w : World) :
    Calls Tryz.prog 98 #[.slice p 0 cap] w fun e w' => e = .returned (.tuple #[]) ∧ w' = w:=Any.slices_Sort_int_none Tryz.Uz p cap w
open Go.RowKit Go.Lib in
theorem Tryz.slices_Equal_int_lens (a1 a2 : Option Addr) (n c m d : Nat) (w : World) (hnm : n ≠ m) :
    Calls Tryz.prog 127 #[.slice a1 n c, .slice a2 m d] w fun e w' => e = .returned (.bool false) ∧ w' = w:=Any.slices_Equal_int_lens Tryz.QF a1 a2 n c m d w hnm
end Go.Proofs
