/- The contracts of Go's library that this seat's functions call, laid at this dump (by the kit's command, in plain words; those named alone). -/
import Derived.Shelf.SlSortCmp.Insertion
import Derived.Lib.OwnBridge
import Derived.Shelf.SlSorted.Search
import Derived.Test.YtadighbpjanjbaaProg
namespace Go.Proofs
open Go.Shelf
def Try.laysSlF20_ren : Go.Shelf.Ren := ⟨fun | 20 => 32 | n => n, fun | 24 => 2 | 22 => 22 | 3 => 3 | 25 => 41 | 4 => 4 | 0 => 0 | n => n, fun | n => n⟩
theorem Try.laysSlF20 : Go.Proofs.SlLaysF.n20 Try.prog Try.laysSlF20_ren := {
  mixed := by kernel_rfl
  f20 := ⟨Try.f32.name, by decide, Try.func32.trans (congrArg some (by kernel_rfl))⟩
  t0 := Try.underlying0
  a0 := Try.isAgg0
  z0 := Try.sizeOf0
  v0 := Try.zeroValue0
  t3 := Try.underlying3
  a3 := Try.isAgg3
  z3 := Try.sizeOf3
  v3 := Try.zeroValue3
  t4 := Try.underlying4
  a4 := Try.isAgg4
  z4 := Try.sizeOf4
  v4 := Try.zeroValue4
  t22 := Try.underlying22
  a22 := Try.isAgg22
  z22 := Try.sizeOf22
  v22 := Try.zeroValue22
  a24 := Try.isAgg2
  z24 := Try.sizeOf2
  t25 := Try.underlying41
  a25 := Try.isAgg41
  z25 := Try.sizeOf41
  v25 := Try.zeroValue41 }
end Go.Proofs
