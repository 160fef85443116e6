/- Words that the print of this claim is made of: what the claim does not reach is struck, names are shortened. -/
import Derived.Shelf.Sort.Plain
import Derived.Shelf.Slices.Turned
import Derived.Shelf.Slices.Equal
import Derived.Ground.Names2Prog
import Derived.Shelf.Slices.Clone
import Derived.Shelf.Slices.CompactI
import Derived.Shelf.Slices.Cells
import Derived.Shelf.Slices.In.SortNone
import Derived.Shelf.Slices.Empties2
import Derived.Test.YtpjmlpmhgfghbaaGreatProg
namespace Go.Proofs
open Go.Shelf
def Tryz.Qx : Go.Shelf.Ren:=⟨fun | 189 => 168 | 125 => 183 | 257 => 182 | 128 => 194 | 129 => 195 | 294 => 185 | 295 => 186 | 296 => 187 | 297 => 188 | 298 => 189 | 299 => 190 | 216 => 191 | 300 => 192 | 301 => 193 | 328 => 196 | 329 => 197 | 330 => 198 | 331 => 199 | 332 => 200 | 215 => 201 | 343 => 202 | n => n,fun | 28 => 33 | 3 => 3 | 46 => 155 | 0 => 0 | 51 => 164 | 53 => 166 | 4 => 4 | 183 => 158 | 182 => 157 | 131 => 84 | 5 => 5 | 9 => 9 | 218 => 167 | 222 => 171 | 228 => 173 | 229 => 174 | n => n,fun | n => n⟩
theorem Tryz.SE : Go.Proofs.Lays.n189 Tryz.prog Tryz.Qx:={
  mixed:=by kernel_rfl
  f125:=Tryz.func183.trans (congrArg some (by kernel_rfl))
  f128:=Tryz.func194.trans (congrArg some (by kernel_rfl))
  f129:=Tryz.func195.trans (congrArg some (by kernel_rfl))
  f189:=Tryz.func168.trans (congrArg some (by kernel_rfl))
  f215:=Tryz.func201.trans (congrArg some (by kernel_rfl))
  f216:=Tryz.func191.trans (congrArg some (by kernel_rfl))
  f257:=Tryz.func182.trans (congrArg some (by kernel_rfl))
  f294:=Tryz.func185.trans (congrArg some (by kernel_rfl))
  f295:=Tryz.func186.trans (congrArg some (by kernel_rfl))
  f296:=Tryz.func187.trans (congrArg some (by kernel_rfl))
  f297:=Tryz.func188.trans (congrArg some (by kernel_rfl))
  f298:=Tryz.func189.trans (congrArg some (by kernel_rfl))
  f299:=Tryz.func190.trans (congrArg some (by kernel_rfl))
  f300:=Tryz.func192.trans (congrArg some (by kernel_rfl))
  f301:=Tryz.func193.trans (congrArg some (by kernel_rfl))
  f328:=Tryz.func196.trans (congrArg some (by kernel_rfl))
  f329:=Tryz.func197.trans (congrArg some (by kernel_rfl))
  f330:=Tryz.func198.trans (congrArg some (by kernel_rfl))
  f331:=Tryz.func199.trans (congrArg some (by kernel_rfl))
  f332:=Tryz.func200.trans (congrArg some (by kernel_rfl))
  f343:=Tryz.func202.trans (congrArg some (by kernel_rfl))
  t0:=Tryz.underlying0
  a0:=Tryz.isAgg0
  z0:=Tryz.sizeOf0
  v0:=Tryz.zeroValue0
  t3:=Tryz.underlying3
  a3:=Tryz.isAgg3
  z3:=Tryz.sizeOf3
  v3:=Tryz.zeroValue3
  t4:=Tryz.underlying4
  a4:=Tryz.isAgg4
  z4:=Tryz.sizeOf4
  v4:=Tryz.zeroValue4
  t5:=Tryz.underlying5
  a5:=Tryz.isAgg5
  z5:=Tryz.sizeOf5
  v5:=Tryz.zeroValue5
  t9:=Tryz.underlying9
  a9:=Tryz.isAgg9
  z9:=Tryz.sizeOf9
  v9:=Tryz.zeroValue9
  t28:=Tryz.underlying33
  a28:=Tryz.isAgg33
  z28:=Tryz.sizeOf33
  v28:=Tryz.zeroValue33
  t46:=Tryz.underlying155
  a46:=Tryz.isAgg155
  z46:=Tryz.sizeOf155
  v46:=Tryz.zeroValue155
  t51:=Tryz.underlying164
  a51:=Tryz.isAgg164
  z51:=Tryz.sizeOf164
  v51:=Tryz.zeroValue164
  t53:=Tryz.underlying166
  a53:=Tryz.isAgg166
  z53:=Tryz.sizeOf166
  v53:=Tryz.zeroValue166
  t131:=Tryz.underlying84
  a131:=Tryz.isAgg84
  z131:=Tryz.sizeOf84
  v131:=Tryz.zeroValue84
  t182:=Tryz.underlying157
  a182:=Tryz.isAgg157
  z182:=Tryz.sizeOf157
  v182:=Tryz.zeroValue157
  t183:=Tryz.underlying158
  a183:=Tryz.isAgg158
  z183:=Tryz.sizeOf158
  v183:=Tryz.zeroValue158
  t218:=Tryz.underlying167
  a218:=Tryz.isAgg167
  z218:=Tryz.sizeOf167
  v218:=Tryz.zeroValue167
  t222:=Tryz.underlying171
  a222:=Tryz.isAgg171
  z222:=Tryz.sizeOf171
  v222:=Tryz.zeroValue171
  t228:=Tryz.underlying173
  a228:=Tryz.isAgg173
  z228:=Tryz.sizeOf173
  v228:=Tryz.zeroValue173
  t229:=Tryz.underlying174
  a229:=Tryz.isAgg174
  z229:=Tryz.sizeOf174
  v229:=Tryz.zeroValue174 }
open Go.Sort Go.RowKit in
theorem Tryz.slices_Sort_int (blk off cap : Nat) (zs : List Int) (w : World) (hH : Holds (Value.int .i64) w blk off zs.toArray) (hblk : blk < w.heap.size) (hsz : zs.length < 4611686018427387904) :
    Calls Tryz.prog 168 #[.slice (some ⟨blk,off,none⟩) zs.length cap] w fun e w' =>
      e = .returned (.tuple #[]) ∧ ∃ n os,w' = grow (putRow (Value.int .i64) (Sort.ahead w n) blk off (zs.mergeSort fun x y => decide (x ≤ y)).toArray) os:=Any.slices_Sort_int Tryz.SE blk off cap zs w hH hblk hsz
def Tryz.Qz : Go.Shelf.Ren:=⟨fun | 107 => 118 | 108 => 167 | n => n,fun | 28 => 33 | 3 => 3 | 4 => 4 | 0 => 0 | n => n,fun | n => n⟩
theorem Tryz.SF : Go.Proofs.Lays.n107 Tryz.prog Tryz.Qz:={
  mixed:=by kernel_rfl
  f107:=Tryz.func118.trans (congrArg some (by kernel_rfl))
  f108:=Tryz.func167.trans (congrArg some (by kernel_rfl))
  t0:=Tryz.underlying0
  a0:=Tryz.isAgg0
  z0:=Tryz.sizeOf0
  v0:=Tryz.zeroValue0
  t3:=Tryz.underlying3
  a3:=Tryz.isAgg3
  z3:=Tryz.sizeOf3
  v3:=Tryz.zeroValue3
  t4:=Tryz.underlying4
  a4:=Tryz.isAgg4
  z4:=Tryz.sizeOf4
  v4:=Tryz.zeroValue4
  t28:=Tryz.underlying33
  a28:=Tryz.isAgg33
  z28:=Tryz.sizeOf33
  v28:=Tryz.zeroValue33 }
open Go.Lib in
theorem Tryz.slices_Contains_int (b off n c : Nat) (zs : List Int) (x : Int) (w : World) (hz : n ≤ zs.length) (hbig : n ≤ 9223372036854775807) (hc : ∀ j,j < zs.length → w.cell? ⟨b,off + j,none⟩ = some (.int .i64 (zs.getD j 0))) :
    Calls Tryz.prog 118 #[.slice (some ⟨b,off,none⟩) n c, .int .i64 x] w fun e w' => e = .returned (.bool ((zs.take n).contains x)) ∧ w' = w:=Any.slices_Contains_int Tryz.SF b off n c zs x w hz hbig hc
open Go.Lib in
theorem Tryz.slices_Contains_int_empty (a : Option Addr) (c : Nat) (x : Int) (w : World) :
    Calls Tryz.prog 118 #[.slice a 0 c, .int .i64 x] w fun e w' => e = .returned (.bool false) ∧ w' = w:=Any.slices_Contains_int_empty Tryz.SF a c x w
def Tryz.Qy : Go.Shelf.Ren:=⟨fun | 111 => 136 | n => n,fun | 28 => 33 | 3 => 3 | 4 => 4 | 0 => 0 | n => n,fun | n => n⟩
theorem Tryz.P8 : Go.Proofs.Lays.n111 Tryz.prog Tryz.Qy:={
  mixed:=by kernel_rfl
  f111:=Tryz.func136.trans (congrArg some (by kernel_rfl))
  t0:=Tryz.underlying0
  a0:=Tryz.isAgg0
  z0:=Tryz.sizeOf0
  v0:=Tryz.zeroValue0
  t3:=Tryz.underlying3
  a3:=Tryz.isAgg3
  z3:=Tryz.sizeOf3
  v3:=Tryz.zeroValue3
  t4:=Tryz.underlying4
  a4:=Tryz.isAgg4
  z4:=Tryz.sizeOf4
  v4:=Tryz.zeroValue4
  t28:=Tryz.underlying33
  a28:=Tryz.isAgg33
  z28:=Tryz.sizeOf33
  v28:=Tryz.zeroValue33 }
open Go.RowKit Go.Lib in
theorem Tryz.slices_Equal_int (b1 o1 n c b2 o2 m d : Nat) (xs ys : List Int) (w : World) (hx : n ≤ xs.length) (hy : m ≤ ys.length) (hbig : n ≤ 9223372036854775807) (hbig2 : m ≤ 9223372036854775807) (hc1 : ∀ j,j < xs.length → w.cell? ⟨b1,o1 + j,none⟩ = some (.int .i64 (xs.getD j 0))) (hc2 : ∀ j,j < ys.length → w.cell? ⟨b2,o2 + j,none⟩ = some (.int .i64 (ys.getD j 0))) :
    Calls Tryz.prog 136 #[.slice (some ⟨b1,o1,none⟩) n c, .slice (some ⟨b2,o2,none⟩) m d] w fun e w' => e = .returned (.bool (xs.take n == ys.take m)) ∧ ∃ q,w' = w.drewN q:=Any.slices_Equal_int Tryz.P8 b1 o1 n c b2 o2 m d xs ys w hx hy hbig hbig2 hc1 hc2
open Go.RowKit Go.Lib in
theorem Tryz.slices_Equal_int_empty (a1 a2 : Option Addr) (c m d : Nat) (w : World) (hbig2 : m ≤ 9223372036854775807) :
    Calls Tryz.prog 136 #[.slice a1 0 c, .slice a2 m d] w fun e w' => e = .returned (.bool (decide (m = 0))) ∧ w' = w:=Any.slices_Equal_int_empty Tryz.P8 a1 a2 c m d w hbig2
def Tryz.O3 : Go.Shelf.Ren:=⟨fun | 15 => 121 | n => n,fun | 22 => 33 | 3 => 3 | 4 => 4 | n => n,fun | n => n⟩
theorem Tryz.Mc : Go.Proofs.Lays2.n15 Tryz.prog Tryz.O3:={
  mixed:=by kernel_rfl
  f15:=Tryz.func121.trans (congrArg some (by kernel_rfl))
  t3:=Tryz.underlying3
  a3:=Tryz.isAgg3
  z3:=Tryz.sizeOf3
  v3:=Tryz.zeroValue3
  t4:=Tryz.underlying4
  a4:=Tryz.isAgg4
  z4:=Tryz.sizeOf4
  v4:=Tryz.zeroValue4
  t22:=Tryz.underlying33
  a22:=Tryz.isAgg33
  z22:=Tryz.sizeOf33
  v22:=Tryz.zeroValue33
  i3:=by kernel_rfl }
open Go.RowKit Go.Lib in
theorem Tryz.slices_Clone_int (b off n c : Nat) (zs : List Int) (w : World) (hz : n ≤ zs.length) (hbig : n * 8 ≤ 140737488355328) (hc : ∀ j,j < zs.length → w.cell? ⟨b,off + j,none⟩ = some (.int .i64 (zs.getD j 0))) :
    Calls Tryz.prog 121 #[.slice (some ⟨b,off,none⟩) n c] w fun e w' => ∃ v',e = .returned v' ∧ w'.ownsRow w.heap.size 3 1 v' n ((zs.take n).map (Value.int .i64)) ∧ v' ≠ .slice none 0 0 ∧ Below w.heap.size w w':=Any.slices_Clone_int Tryz.Mc b off n c zs w hz hbig hc
open Go.RowKit Go.Lib in
theorem Tryz.slices_Clone_int_nil (n c : Nat) (w : World) :
    Calls Tryz.prog 121 #[.slice none n c] w fun e w' => e = .returned (.slice none 0 0) ∧ w' = w:=Any.slices_Clone_int_nil Tryz.Mc n c w
open Go.RowKit Go.Lib in
theorem Tryz.slices_Clone_int_zero (a : Addr) (c : Nat) (w : World) :
    Calls Tryz.prog 121 #[.slice (some a) 0 c] w fun e w' => ∃ v',e = .returned v' ∧ w'.ownsRow w.heap.size 3 1 v' 0 [] ∧ v' ≠ .slice none 0 0 ∧ Below w.heap.size w w':=Any.slices_Clone_int_zero Tryz.Mc a c w
def Tryz.O1 : Go.Shelf.Ren:=⟨fun | 20 => 170 | n => n,fun | 22 => 33 | 3 => 3 | 4 => 4 | 0 => 0 | n => n,fun | n => n⟩
theorem Tryz.OA : Go.Proofs.Lays2.n20 Tryz.prog Tryz.O1:={
  mixed:=by kernel_rfl
  f20:=Tryz.func170.trans (congrArg some (by kernel_rfl))
  t0:=Tryz.underlying0
  a0:=Tryz.isAgg0
  z0:=Tryz.sizeOf0
  v0:=Tryz.zeroValue0
  t3:=Tryz.underlying3
  a3:=Tryz.isAgg3
  z3:=Tryz.sizeOf3
  v3:=Tryz.zeroValue3
  t4:=Tryz.underlying4
  a4:=Tryz.isAgg4
  z4:=Tryz.sizeOf4
  v4:=Tryz.zeroValue4
  t22:=Tryz.underlying33
  a22:=Tryz.isAgg33
  z22:=Tryz.sizeOf33
  v22:=Tryz.zeroValue33
  i3:=by kernel_rfl }
open Go.RowKit Go.Lib Go.Sort in
theorem Tryz.slices_Compact_int (blk off cap : Nat) (zs : List Int) (w : World) (hH : Holds (Value.int .i64) w blk off zs.toArray) (hsz : zs.length ≤ 9223372036854775807) (hcap : zs.length ≤ cap) :
    Calls Tryz.prog 170 #[.slice (some ⟨blk,off,none⟩) zs.length cap] w fun e w' => e = .returned (.slice (some ⟨blk,off,none⟩) (Lib.compact zs).length cap) ∧ ∃ q,w' = putRow (Value.int .i64) (Sort.ahead w q) blk off (Lib.compact zs ++ List.replicate (zs.length - (Lib.compact zs).length) 0).toArray:=Any.slices_Compact_int Tryz.OA blk off cap zs w hH hsz hcap
open Go.RowKit Go.Lib Go.Sort in
theorem Tryz.slices_Compact_int_empty (a : Option Addr) (cap : Nat) (w : World) :
    Calls Tryz.prog 170 #[.slice a 0 cap] w fun e w' => e = .returned (.slice a 0 cap) ∧ w' = w:=Any.slices_Compact_int_empty Tryz.OA a cap w
open Go.RowKit Go.Sort in
theorem Tryz.slices_Sort_int_none (p : Option Addr) (cap : Nat) (w : World) :
    Calls Tryz.prog 168 #[.slice p 0 cap] w fun e w' => e = .returned (.tuple #[]) ∧ w' = w:=Any.slices_Sort_int_none Tryz.SE p cap w
open Go.RowKit Go.Lib in
theorem Tryz.slices_Equal_int_lens (a1 a2 : Option Addr) (n c m d : Nat) (w : World) (hnm : n ≠ m) :
    Calls Tryz.prog 136 #[.slice a1 n c, .slice a2 m d] w fun e w' => e = .returned (.bool false) ∧ w' = w:=Any.slices_Equal_int_lens Tryz.P8 a1 a2 n c m d w hnm
end Go.Proofs
