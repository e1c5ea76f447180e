/- The library's slices.IndexFunc, slices.ContainsFunc, slices.Clone at a slice of slots: the kit's contracts, laid at this program's numbers. -/
import Derived.Shelf.SlicesQ.IndexFunc
import Derived.Shelf.SlicesE.Clone
import Derived.KernelRfl
import Derived.Test.YtjdkccpcgmgmmaaProg
namespace Go.Proofs.YtjdkccpcgmgmmaaH
open Go.Shelf
def idxRen : Go.Shelf.Ren := ⟨fun | 6 => 78 | n => n, fun | 22 => 25 | 23 => 36 | 25 => 69 | n => n, fun | n => n⟩
theorem idxLay : SlLaysH0.n6 Try.prog idxRen := { mixed := by kernel_rfl, f6 := ⟨Try.f78.name, by decide, Try.func78.trans (congrArg some (by kernel_rfl))⟩, t0 := Try.underlying0, a0 := Try.isAgg0, z0 := Try.sizeOf0, v0 := Try.zeroValue0, t3 := Try.underlying3, a3 := Try.isAgg3, z3 := Try.sizeOf3, v3 := Try.zeroValue3, t4 := Try.underlying4, a4 := Try.isAgg4, z4 := Try.sizeOf4, v4 := Try.zeroValue4, t22 := Try.underlying25, a22 := Try.isAgg25, z22 := Try.sizeOf25, v22 := Try.zeroValue25, t25 := Try.underlying69, a25 := Try.isAgg69, z25 := Try.sizeOf69, v25 := Try.zeroValue69 }
def conRen : Go.Shelf.Ren := ⟨fun | 8 => 55 | 6 => 78 | n => n, fun | 22 => 25 | 23 => 36 | 25 => 69 | n => n, fun | n => n⟩
theorem conLay : SlLaysH0.n8 Try.prog conRen := { mixed := by kernel_rfl, f6 := ⟨Try.f78.name, by decide, Try.func78.trans (congrArg some (by kernel_rfl))⟩, f8 := ⟨Try.f55.name, by decide, Try.func55.trans (congrArg some (by kernel_rfl))⟩, t0 := Try.underlying0, a0 := Try.isAgg0, z0 := Try.sizeOf0, v0 := Try.zeroValue0, t3 := Try.underlying3, a3 := Try.isAgg3, z3 := Try.sizeOf3, v3 := Try.zeroValue3, t4 := Try.underlying4, a4 := Try.isAgg4, z4 := Try.sizeOf4, v4 := Try.zeroValue4, t22 := Try.underlying25, a22 := Try.isAgg25, z22 := Try.sizeOf25, v22 := Try.zeroValue25, t25 := Try.underlying69, a25 := Try.isAgg69, z25 := Try.sizeOf69, v25 := Try.zeroValue69 }
end Go.Proofs.YtjdkccpcgmgmmaaH
