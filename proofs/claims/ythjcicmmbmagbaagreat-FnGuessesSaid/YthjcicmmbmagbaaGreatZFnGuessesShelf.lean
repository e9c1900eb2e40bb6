/- Contracts of the library's functions at this program: each is one application of a library's theorem. -/
import Derived.Shelf.Small.Bits
import Derived.Shelf.Strconv.Itoa0
import Derived.Shelf.Slices.Turned
import Derived.Test.YthjcicmmbmagbaaGreatProg
import Derived.Shelf.SlicesE.Reverse
import Derived.Ground.SlgnProg
import Derived.Shelf.SlGeneric
namespace Go.Proofs
open Go.Shelf
def Tryz.sN : Go.Shelf.Ren := ⟨fun | 125 => 90 | 128 => 100 | 129 => 101 | n => n, fun | 46 => 80 | 3 => 3 | 51 => 103 | 53 => 105 | 4 => 4 | 5 => 5 | 9 => 9 | n => n, fun | n => n⟩
theorem Tryz.AL : Go.Proofs.Lays.n125 Tryz.prog Tryz.sN := {
 mixed := by kernel_rfl
 f125 := Tryz.func90.trans (congrArg some (by kernel_rfl))
 f128 := Tryz.func100.trans (congrArg some (by kernel_rfl))
 f129 := Tryz.func101.trans (congrArg some (by kernel_rfl))
 t3 := Tryz.underlying3
 a3 := Tryz.isAgg3
 z3 := Tryz.sizeOf3
 v3 := Tryz.zeroValue3
 t4 := Tryz.underlying4
 a4 := Tryz.isAgg4
 z4 := Tryz.sizeOf4
 v4 := Tryz.zeroValue4
 t5 := Tryz.underlying5
 a5 := Tryz.isAgg5
 z5 := Tryz.sizeOf5
 v5 := Tryz.zeroValue5
 t9 := Tryz.underlying9
 a9 := Tryz.isAgg9
 z9 := Tryz.sizeOf9
 v9 := Tryz.zeroValue9
 t46 := Tryz.underlying80
 a46 := Tryz.isAgg80
 z46 := Tryz.sizeOf80
 v46 := Tryz.zeroValue80
 t51 := Tryz.underlying103
 a51 := Tryz.isAgg103
 z51 := Tryz.sizeOf103
 v51 := Tryz.zeroValue103
 t53 := Tryz.underlying105
 a53 := Tryz.isAgg105
 z53 := Tryz.sizeOf105
 v53 := Tryz.zeroValue105 }
theorem Tryz.bits_Len (x : Int) (w : World) (h0 : 0 ≤ x) (h1 : x ≤ 18446744073709551615) :
  Calls Tryz.prog 90 #[.int .u64 x] w fun e w' => e = .returned (.int .i64 (Lib.bitLen x.toNat)) ∧ w' = w := Any.bits_Len Tryz.AL x w h0 h1
def Tryz.ny : Go.Shelf.Ren := ⟨fun | 35 => 81 | n => n, fun | 22 => 22 | 23 => 5 | 3 => 3 | 4 => 4 | 0 => 0 | n => n, fun | n => n⟩
theorem Tryz.qD : Go.Proofs.SlLaysE.n35 Tryz.prog Tryz.ny := {
 mixed := by kernel_rfl
 f35 := ⟨Tryz.f81.name, by decide, Tryz.func81.trans (congrArg some (by kernel_rfl))⟩
 t0 := Tryz.underlying0
 a0 := Tryz.isAgg0
 z0 := Tryz.sizeOf0
 v0 := Tryz.zeroValue0
 t3 := Tryz.underlying3
 a3 := Tryz.isAgg3
 z3 := Tryz.sizeOf3
 v3 := Tryz.zeroValue3
 t4 := Tryz.underlying4
 a4 := Tryz.isAgg4
 z4 := Tryz.sizeOf4
 v4 := Tryz.zeroValue4
 t22 := Tryz.underlying22
 a22 := Tryz.isAgg22
 z22 := Tryz.sizeOf22
 v22 := Tryz.zeroValue22
 a23 := Tryz.isAgg5
 z23 := Tryz.sizeOf5 }
theorem Tryz.wJ (blk off cap : Nat) (d : Array Int) (w : World) (hH : Go.Sort.Holds (Value.int .u8) w blk off d) (hsz : d.size ≤ 9223372036854775807) :
  Calls Tryz.prog 81 #[.slice (some ⟨blk, off, none⟩) d.size cap] w fun e w' => e = .returned (.tuple #[]) ∧ ∃ n, w' = Go.Sort.putRow (Value.int .u8) (Go.Sort.ahead w n) blk off d.reverse := AnyE.slices_Reverse_arr Tryz.qD (Value.int .u8) (fun _ => rfl) blk off cap d w hH hsz
end Go.Proofs
