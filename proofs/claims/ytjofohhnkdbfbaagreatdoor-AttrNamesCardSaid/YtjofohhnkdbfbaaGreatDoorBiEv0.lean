/- THE LAW, RUN BY THE KERNEL, what is below it kept as tables. MADE BY PROGRAM (genmemo.py). -/
import Derived.Test.YtjofohhnkdbfbaaGreatDoorBiM0x2
import Derived.KernelRfl
set_option maxRecDepth 100000
namespace Go.Proofs.YtjofohhnkdbfbaaGreatDoor
open Go Go.BI
noncomputable def parZ : Par := par17
theorem parZOk : ParOk parZ := parOk17
theorem lawFn : parZ.fn 4 = some Tryz.f4 := by kernel_rfl
theorem lawBody : Tryz.f4.body = some (Tryz.f4.body.get rfl) := rfl
theorem evalOk : callT parZ (exec parZ 1000) 4 (([] : List V).map .v) = some (.bool true) := by kernel_rfl
end Go.Proofs.YtjofohhnkdbfbaaGreatDoor
