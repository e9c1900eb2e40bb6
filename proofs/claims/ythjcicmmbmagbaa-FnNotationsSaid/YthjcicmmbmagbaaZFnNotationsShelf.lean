/- Contracts of the library's functions at this program: each is one application of a library's theorem. -/
import Derived.Shelf.Small.Bits
import Derived.Shelf.Small.Wraps
import Derived.Shelf.Strconv.Itoa0
import Derived.Shelf.Strings.Search1
import Derived.Shelf.Strings.Search2
import Derived.Shelf.Strings.Search3
import Derived.Shelf.LaysM
import Derived.Shelf.Strings.Shaped
import Derived.Shelf.Strings.Prefix
import Derived.Shelf.Slices.Turned
import Derived.Test.YthjcicmmbmagbaaProg
import Derived.Shelf.SlicesE.Reverse
import Derived.Ground.SlgnProg
import Derived.Shelf.SlGeneric
namespace Go.Proofs
open Go.Shelf
def Try.qY : Go.Shelf.Ren := ⟨fun | 125 => 214 | 128 => 225 | 129 => 226 | n => n, fun | 46 => 182 | 3 => 3 | 51 => 192 | 53 => 208 | 4 => 4 | 5 => 5 | 9 => 9 | n => n, fun | n => n⟩
theorem Try.vR : Go.Proofs.Lays.n125 Try.prog Try.qY := {
 mixed := by kernel_rfl
 f125 := Try.func214.trans (congrArg some (by kernel_rfl))
 f128 := Try.func225.trans (congrArg some (by kernel_rfl))
 f129 := Try.func226.trans (congrArg some (by kernel_rfl))
 t3 := Try.underlying3
 a3 := Try.isAgg3
 z3 := Try.sizeOf3
 v3 := Try.zeroValue3
 t4 := Try.underlying4
 a4 := Try.isAgg4
 z4 := Try.sizeOf4
 v4 := Try.zeroValue4
 t5 := Try.underlying5
 a5 := Try.isAgg5
 z5 := Try.sizeOf5
 v5 := Try.zeroValue5
 t9 := Try.underlying9
 a9 := Try.isAgg9
 z9 := Try.sizeOf9
 v9 := Try.zeroValue9
 t46 := Try.underlying182
 a46 := Try.isAgg182
 z46 := Try.sizeOf182
 v46 := Try.zeroValue182
 t51 := Try.underlying192
 a51 := Try.isAgg192
 z51 := Try.sizeOf192
 v51 := Try.zeroValue192
 t53 := Try.underlying208
 a53 := Try.isAgg208
 z53 := Try.sizeOf208
 v53 := Try.zeroValue208 }
theorem Try.bits_Len (x : Int) (w : World) (h0 : 0 ≤ x) (h1 : x ≤ 18446744073709551615) :
  Calls Try.prog 214 #[.int .u64 x] w fun e w' => e = .returned (.int .i64 (Lib.bitLen x.toNat)) ∧ w' = w := Any.bits_Len Try.vR x w h0 h1
def Try.qU : Go.Shelf.Ren := ⟨fun | 103 => 167 | 210 => 188 | 206 => 207 | n => n, fun | 9 => 9 | 4 => 4 | 24 => 166 | 3 => 3 | n => n, fun | n => n⟩
theorem Try.vY : Go.Proofs.Lays.n103 Try.prog Try.qU := {
 mixed := by kernel_rfl
 f103 := Try.func167.trans (congrArg some (by kernel_rfl))
 f206 := Try.func207.trans (congrArg some (by kernel_rfl))
 f210 := Try.func188.trans (congrArg some (by kernel_rfl))
 t3 := Try.underlying3
 a3 := Try.isAgg3
 z3 := Try.sizeOf3
 v3 := Try.zeroValue3
 t4 := Try.underlying4
 a4 := Try.isAgg4
 z4 := Try.sizeOf4
 v4 := Try.zeroValue4
 t9 := Try.underlying9
 a9 := Try.isAgg9
 z9 := Try.sizeOf9
 v9 := Try.zeroValue9
 t24 := Try.underlying166
 a24 := Try.isAgg166
 z24 := Try.sizeOf166
 v24 := Try.zeroValue166 }
open Go.RowKit in
theorem Try.strings_CutPrefix (s p : ByteArray) (w : World) :
  Calls Try.prog 167 #[.string s, .string p] w fun e w' => e = .returned (.tuple #[.string ⟨(Lib.trimPrefix s.data.toList p.data.toList).toArray⟩, .bool (Lib.hasPrefix s.data.toList p.data.toList)]) ∧ w' = w := Any.strings_CutPrefix Try.vY s p w
def Try.qW : Go.Shelf.Ren := ⟨fun | 143 => 129 | 219 => 168 | 217 => 189 | 225 => 190 | 224 => 191 | 267 => 192 | 266 => 208 | 314 => 209 | n => n, fun | 9 => 9 | 3 => 3 | 4 => 4 | 5 => 5 | 46 => 182 | 146 => 193 | 51 => 192 | n => n, fun | 1 => 0 | n => n⟩
theorem Try.wu : Go.Proofs.Lays.n143 Try.prog Try.qW := {
 mixed := by kernel_rfl
 f143 := Try.func129.trans (congrArg some (by kernel_rfl))
 f217 := Try.func189.trans (congrArg some (by kernel_rfl))
 f219 := Try.func168.trans (congrArg some (by kernel_rfl))
 f224 := Try.func191.trans (congrArg some (by kernel_rfl))
 f225 := Try.func190.trans (congrArg some (by kernel_rfl))
 f266 := Try.func208.trans (congrArg some (by kernel_rfl))
 f267 := Try.func192.trans (congrArg some (by kernel_rfl))
 f314 := Try.func209.trans (congrArg some (by kernel_rfl))
 t3 := Try.underlying3
 a3 := Try.isAgg3
 z3 := Try.sizeOf3
 v3 := Try.zeroValue3
 t4 := Try.underlying4
 a4 := Try.isAgg4
 z4 := Try.sizeOf4
 v4 := Try.zeroValue4
 t5 := Try.underlying5
 a5 := Try.isAgg5
 z5 := Try.sizeOf5
 v5 := Try.zeroValue5
 t9 := Try.underlying9
 a9 := Try.isAgg9
 z9 := Try.sizeOf9
 v9 := Try.zeroValue9
 t46 := Try.underlying182
 a46 := Try.isAgg182
 z46 := Try.sizeOf182
 v46 := Try.zeroValue182
 t51 := Try.underlying192
 a51 := Try.isAgg192
 z51 := Try.sizeOf192
 v51 := Try.zeroValue192
 t146 := Try.underlying193
 a146 := Try.isAgg193
 z146 := Try.sizeOf193
 v146 := Try.zeroValue193
 g1 := by kernel_rfl }
open Go.RowKit Go.Lib in
theorem Try.strings_Index_one (s : ByteArray) (c : UInt8) (w : World) :
  Calls Try.prog 129 #[.string s, .string ⟨#[c]⟩] w fun e w' => e = .returned (.int .i64 (Lib.indexByte s.data.toList c)) ∧ w' = w := Any.strings_Index_one Try.wu s c w
def Try.kY : Go.Shelf.Ren := ⟨fun | 35 => 184 | n => n, fun | 22 => 36 | 23 => 5 | 3 => 3 | 4 => 4 | 0 => 0 | n => n, fun | n => n⟩
theorem Try.nQ : Go.Proofs.SlLaysE.n35 Try.prog Try.kY := {
 mixed := by kernel_rfl
 f35 := ⟨Try.f184.name, by decide, Try.func184.trans (congrArg some (by kernel_rfl))⟩
 t0 := Try.underlying0
 a0 := Try.isAgg0
 z0 := Try.sizeOf0
 v0 := Try.zeroValue0
 t3 := Try.underlying3
 a3 := Try.isAgg3
 z3 := Try.sizeOf3
 v3 := Try.zeroValue3
 t4 := Try.underlying4
 a4 := Try.isAgg4
 z4 := Try.sizeOf4
 v4 := Try.zeroValue4
 t22 := Try.underlying36
 a22 := Try.isAgg36
 z22 := Try.sizeOf36
 v22 := Try.zeroValue36
 a23 := Try.isAgg5
 z23 := Try.sizeOf5 }
theorem Try.tJ (blk off cap : Nat) (d : Array Int) (w : World) (hH : Go.Sort.Holds (Value.int .u8) w blk off d) (hsz : d.size ≤ 9223372036854775807) :
  Calls Try.prog 184 #[.slice (some ⟨blk, off, none⟩) d.size cap] w fun e w' => e = .returned (.tuple #[]) ∧ ∃ n, w' = Go.Sort.putRow (Value.int .u8) (Go.Sort.ahead w n) blk off d.reverse := AnyE.slices_Reverse_arr Try.nQ (Value.int .u8) (fun _ => rfl) blk off cap d w hH hsz
end Go.Proofs
