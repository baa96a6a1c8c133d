import Derived.Test.YtncoifiafklkjaaSxH
import Derived.Test.YtncoifiafklkjaaProg
import Derived.KernelRfl
namespace Go.Proofs.Ytncoifiafklkjaa
open Go Go.Sx
theorem Try.mixed : Try.prog.follows .mixedOrders = true := by kernel_rfl
theorem Try.info5 : (Try.prog.info? 5).map (fun i => (i.zero, i.size, i.bytes)) = some (some (.int .u8 0), 1, 1) := by kernel_rfl
theorem Try.size1_5 : (Try.prog.info? 5).map (·.size) = some 1 := by kernel_rfl
theorem Try.cells5 : Try.prog.cellsOf 5 = 1 := by kernel_rfl
theorem Try.has5 : (Try.prog.info? 5).isSome = true := by kernel_rfl
theorem Try.info6 : (Try.prog.info? 6).map (fun i => (i.zero, i.size, i.bytes)) = some (some (.int .u8 0), 1, 1) := by kernel_rfl
theorem Try.size1_6 : (Try.prog.info? 6).map (·.size) = some 1 := by kernel_rfl
theorem Try.cells6 : Try.prog.cellsOf 6 = 1 := by kernel_rfl
theorem Try.has6 : (Try.prog.info? 6).isSome = true := by kernel_rfl
theorem Try.info12 : (Try.prog.info? 12).map (fun i => (i.zero, i.size, i.bytes)) = some (some (.int .u64 0), 1, 8) := by kernel_rfl
theorem Try.size1_12 : (Try.prog.info? 12).map (·.size) = some 1 := by kernel_rfl
theorem Try.cells12 : Try.prog.cellsOf 12 = 1 := by kernel_rfl
theorem Try.has12 : (Try.prog.info? 12).isSome = true := by kernel_rfl
theorem Try.info44 : (Try.prog.info? 44).map (fun i => (i.zero, i.size, i.bytes)) = some (some (.int .u64 0), 1, 8) := by kernel_rfl
theorem Try.size1_44 : (Try.prog.info? 44).map (·.size) = some 1 := by kernel_rfl
theorem Try.cells44 : Try.prog.cellsOf 44 = 1 := by kernel_rfl
theorem Try.has44 : (Try.prog.info? 44).isSome = true := by kernel_rfl
theorem Try.info49 : (Try.prog.info? 49).map (fun i => (i.zero, i.size, i.bytes)) = some (some (.int .u64 0), 1, 8) := by kernel_rfl
theorem Try.size1_49 : (Try.prog.info? 49).map (·.size) = some 1 := by kernel_rfl
theorem Try.cells49 : Try.prog.cellsOf 49 = 1 := by kernel_rfl
theorem Try.has49 : (Try.prog.info? 49).isSome = true := by kernel_rfl
theorem Try.info133 : (Try.prog.info? 133).map (fun i => (i.zero, i.size, i.bytes)) = some (some (.int .u32 0), 1, 4) := by kernel_rfl
theorem Try.size1_133 : (Try.prog.info? 133).map (·.size) = some 1 := by kernel_rfl
theorem Try.cells133 : Try.prog.cellsOf 133 = 1 := by kernel_rfl
theorem Try.has133 : (Try.prog.info? 133).isSome = true := by kernel_rfl
theorem Try.info134 : (Try.prog.info? 134).map (fun i => (i.zero, i.size, i.bytes)) = some (some (.int .u8 0), 1, 1) := by kernel_rfl
theorem Try.size1_134 : (Try.prog.info? 134).map (·.size) = some 1 := by kernel_rfl
theorem Try.cells134 : Try.prog.cellsOf 134 = 1 := by kernel_rfl
theorem Try.has134 : (Try.prog.info? 134).isSome = true := by kernel_rfl
theorem Try.info135 : (Try.prog.info? 135).map (fun i => (i.zero, i.size, i.bytes)) = some (some (.int .u8 0), 1, 1) := by kernel_rfl
theorem Try.size1_135 : (Try.prog.info? 135).map (·.size) = some 1 := by kernel_rfl
theorem Try.cells135 : Try.prog.cellsOf 135 = 1 := by kernel_rfl
theorem Try.has135 : (Try.prog.info? 135).isSome = true := by kernel_rfl
end Go.Proofs.Ytncoifiafklkjaa
