/- The library's slices.IndexFunc, slices.ContainsFunc, slices.Clone at a slice of slots: the kit's contracts, laid at this program's numbers. -/
import Derived.Shelf.SlicesQ.IndexFunc
import Derived.Shelf.SlicesE.Clone
import Derived.KernelRfl
import Derived.Test.YtooamacekmjpaaaProg
namespace Go.Proofs.YtooamacekmjpaaaH
open Go.Shelf
def idxRen : Go.Shelf.Ren := ⟨fun | 6 => 77 | n => n, fun | 22 => 28 | 23 => 55 | 25 => 89 | n => n, fun | n => n⟩
theorem idxLay : SlLaysH0.n6 Try.prog idxRen := { mixed := by kernel_rfl, f6 := ⟨Try.f77.name, by decide, Try.func77.trans (congrArg some (by kernel_rfl))⟩, t0 := Try.underlying0, a0 := Try.isAgg0, z0 := Try.sizeOf0, v0 := Try.zeroValue0, t3 := Try.underlying3, a3 := Try.isAgg3, z3 := Try.sizeOf3, v3 := Try.zeroValue3, t4 := Try.underlying4, a4 := Try.isAgg4, z4 := Try.sizeOf4, v4 := Try.zeroValue4, t22 := Try.underlying28, a22 := Try.isAgg28, z22 := Try.sizeOf28, v22 := Try.zeroValue28, t25 := Try.underlying89, a25 := Try.isAgg89, z25 := Try.sizeOf89, v25 := Try.zeroValue89 }
def conRen : Go.Shelf.Ren := ⟨fun | 8 => 69 | 6 => 77 | n => n, fun | 22 => 28 | 23 => 55 | 25 => 89 | n => n, fun | n => n⟩
theorem conLay : SlLaysH0.n8 Try.prog conRen := { mixed := by kernel_rfl, f6 := ⟨Try.f77.name, by decide, Try.func77.trans (congrArg some (by kernel_rfl))⟩, f8 := ⟨Try.f69.name, by decide, Try.func69.trans (congrArg some (by kernel_rfl))⟩, t0 := Try.underlying0, a0 := Try.isAgg0, z0 := Try.sizeOf0, v0 := Try.zeroValue0, t3 := Try.underlying3, a3 := Try.isAgg3, z3 := Try.sizeOf3, v3 := Try.zeroValue3, t4 := Try.underlying4, a4 := Try.isAgg4, z4 := Try.sizeOf4, v4 := Try.zeroValue4, t22 := Try.underlying28, a22 := Try.isAgg28, z22 := Try.sizeOf28, v22 := Try.zeroValue28, t25 := Try.underlying89, a25 := Try.isAgg89, z25 := Try.sizeOf89, v25 := Try.zeroValue89 }
end Go.Proofs.YtooamacekmjpaaaH
