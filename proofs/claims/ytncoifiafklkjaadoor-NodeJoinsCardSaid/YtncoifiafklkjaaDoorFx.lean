import Derived.Test.YtncoifiafklkjaaDoorSxH
import Derived.Test.YtncoifiafklkjaaDoorProg
import Derived.KernelRfl
namespace Go.Proofs.YtncoifiafklkjaaDoor
open Go Go.Sx
theorem Tryd.mixed : Tryd.prog.follows .mixedOrders = true := by kernel_rfl
theorem Tryd.info5 : (Tryd.prog.info? 5).map (fun i => (i.zero, i.size, i.bytes)) = some (some (.int .u8 0), 1, 1) := by kernel_rfl
theorem Tryd.size1_5 : (Tryd.prog.info? 5).map (·.size) = some 1 := by kernel_rfl
theorem Tryd.cells5 : Tryd.prog.cellsOf 5 = 1 := by kernel_rfl
theorem Tryd.has5 : (Tryd.prog.info? 5).isSome = true := by kernel_rfl
theorem Tryd.info6 : (Tryd.prog.info? 6).map (fun i => (i.zero, i.size, i.bytes)) = some (some (.int .u8 0), 1, 1) := by kernel_rfl
theorem Tryd.size1_6 : (Tryd.prog.info? 6).map (·.size) = some 1 := by kernel_rfl
theorem Tryd.cells6 : Tryd.prog.cellsOf 6 = 1 := by kernel_rfl
theorem Tryd.has6 : (Tryd.prog.info? 6).isSome = true := by kernel_rfl
theorem Tryd.info12 : (Tryd.prog.info? 12).map (fun i => (i.zero, i.size, i.bytes)) = some (some (.int .u64 0), 1, 8) := by kernel_rfl
theorem Tryd.size1_12 : (Tryd.prog.info? 12).map (·.size) = some 1 := by kernel_rfl
theorem Tryd.cells12 : Tryd.prog.cellsOf 12 = 1 := by kernel_rfl
theorem Tryd.has12 : (Tryd.prog.info? 12).isSome = true := by kernel_rfl
theorem Tryd.info30 : (Tryd.prog.info? 30).map (fun i => (i.zero, i.size, i.bytes)) = some (some (.int .u32 0), 1, 4) := by kernel_rfl
theorem Tryd.size1_30 : (Tryd.prog.info? 30).map (·.size) = some 1 := by kernel_rfl
theorem Tryd.cells30 : Tryd.prog.cellsOf 30 = 1 := by kernel_rfl
theorem Tryd.has30 : (Tryd.prog.info? 30).isSome = true := by kernel_rfl
theorem Tryd.info52 : (Tryd.prog.info? 52).map (fun i => (i.zero, i.size, i.bytes)) = some (some (.int .u64 0), 1, 8) := by kernel_rfl
theorem Tryd.size1_52 : (Tryd.prog.info? 52).map (·.size) = some 1 := by kernel_rfl
theorem Tryd.cells52 : Tryd.prog.cellsOf 52 = 1 := by kernel_rfl
theorem Tryd.has52 : (Tryd.prog.info? 52).isSome = true := by kernel_rfl
theorem Tryd.info58 : (Tryd.prog.info? 58).map (fun i => (i.zero, i.size, i.bytes)) = some (some (.int .u64 0), 1, 8) := by kernel_rfl
theorem Tryd.size1_58 : (Tryd.prog.info? 58).map (·.size) = some 1 := by kernel_rfl
theorem Tryd.cells58 : Tryd.prog.cellsOf 58 = 1 := by kernel_rfl
theorem Tryd.has58 : (Tryd.prog.info? 58).isSome = true := by kernel_rfl
theorem Tryd.info206 : (Tryd.prog.info? 206).map (fun i => (i.zero, i.size, i.bytes)) = some (some (.int .u8 0), 1, 1) := by kernel_rfl
theorem Tryd.size1_206 : (Tryd.prog.info? 206).map (·.size) = some 1 := by kernel_rfl
theorem Tryd.cells206 : Tryd.prog.cellsOf 206 = 1 := by kernel_rfl
theorem Tryd.has206 : (Tryd.prog.info? 206).isSome = true := by kernel_rfl
theorem Tryd.info207 : (Tryd.prog.info? 207).map (fun i => (i.zero, i.size, i.bytes)) = some (some (.int .u8 0), 1, 1) := by kernel_rfl
theorem Tryd.size1_207 : (Tryd.prog.info? 207).map (·.size) = some 1 := by kernel_rfl
theorem Tryd.cells207 : Tryd.prog.cellsOf 207 = 1 := by kernel_rfl
theorem Tryd.has207 : (Tryd.prog.info? 207).isSome = true := by kernel_rfl
end Go.Proofs.YtncoifiafklkjaaDoor
