/- Instances on this translation's types and functions, printed by wip/sx/types.py. -/
import Derived.Test.YtfbhlfhecmhihaaGreatDoorSx5
import Derived.Test.YtfbhlfhecmhihaaGreatDoorProg
import Derived.KernelRfl
namespace Go.Proofs.YtfbhlfhecmhihaaGreatDoor
open Go Go.Sx
instance : Mix Go.Proofs.Tryz.prog := ⟨by kernel_rfl⟩
instance : TI Go.Proofs.Tryz.prog 0 (.tuple #[]) 1 0 := ⟨by kernel_rfl⟩
instance : UL Go.Proofs.Tryz.prog 1 (.func #[] #[] false) := ⟨Go.Proofs.Tryz.underlying1⟩
instance : TI Go.Proofs.Tryz.prog 1 (.nilFunc) 1 8 := ⟨by kernel_rfl⟩
instance : UL Go.Proofs.Tryz.prog 2 (.int .i64) := ⟨Go.Proofs.Tryz.underlying2⟩
instance : TI Go.Proofs.Tryz.prog 2 (.int .i64 0) 1 8 := ⟨by kernel_rfl⟩
instance : UL Go.Proofs.Tryz.prog 3 (.int .i64) := ⟨Go.Proofs.Tryz.underlying3⟩
instance : TI Go.Proofs.Tryz.prog 3 (.int .i64 0) 1 8 := ⟨by kernel_rfl⟩
instance : UL Go.Proofs.Tryz.prog 4 (.bool) := ⟨Go.Proofs.Tryz.underlying4⟩
instance : TI Go.Proofs.Tryz.prog 4 (.bool false) 1 1 := ⟨by kernel_rfl⟩
instance : UL Go.Proofs.Tryz.prog 5 (.int .u8) := ⟨Go.Proofs.Tryz.underlying5⟩
instance : TI Go.Proofs.Tryz.prog 5 (.int .u8 0) 1 1 := ⟨by kernel_rfl⟩
instance : UL Go.Proofs.Tryz.prog 6 (.int .u8) := ⟨Go.Proofs.Tryz.underlying6⟩
instance : TI Go.Proofs.Tryz.prog 6 (.int .u8 0) 1 1 := ⟨by kernel_rfl⟩
instance : UL Go.Proofs.Tryz.prog 7 (.struct #[{ name := "x", type := 2, offset := 0, embedded := false, tag := "", pkgPath := "runtime", byteOffset := 0 }, { name := "y", type := 3, offset := 1, embedded := false, tag := "", pkgPath := "runtime", byteOffset := 8 }, { name := "signed", type := 4, offset := 2, embedded := false, tag := "", pkgPath := "runtime", byteOffset := 16 }, { name := "code", type := 6, offset := 3, embedded := false, tag := "", pkgPath := "runtime", byteOffset := 17 }]) := ⟨Go.Proofs.Tryz.underlying7⟩
instance : TI Go.Proofs.Tryz.prog 7 (.agg #[.int .i64 0, .int .i64 0, .bool false, .int .u8 0]) 4 24 := ⟨by kernel_rfl⟩
instance : UL Go.Proofs.Tryz.prog 8 (.struct #[{ name := "x", type := 2, offset := 0, embedded := false, tag := "", pkgPath := "runtime", byteOffset := 0 }, { name := "y", type := 3, offset := 1, embedded := false, tag := "", pkgPath := "runtime", byteOffset := 8 }, { name := "signed", type := 4, offset := 2, embedded := false, tag := "", pkgPath := "runtime", byteOffset := 16 }, { name := "code", type := 6, offset := 3, embedded := false, tag := "", pkgPath := "runtime", byteOffset := 17 }]) := ⟨Go.Proofs.Tryz.underlying8⟩
instance : TI Go.Proofs.Tryz.prog 8 (.agg #[.int .i64 0, .int .i64 0, .bool false, .int .u8 0]) 4 24 := ⟨by kernel_rfl⟩
instance : UL Go.Proofs.Tryz.prog 9 (.string) := ⟨Go.Proofs.Tryz.underlying9⟩
instance : TI Go.Proofs.Tryz.prog 9 (.string ⟨#[]⟩) 1 16 := ⟨by kernel_rfl⟩
instance : UL Go.Proofs.Tryz.prog 10 (.string) := ⟨Go.Proofs.Tryz.underlying10⟩
instance : TI Go.Proofs.Tryz.prog 10 (.string ⟨#[]⟩) 1 16 := ⟨by kernel_rfl⟩
instance : UL Go.Proofs.Tryz.prog 11 (.string) := ⟨Go.Proofs.Tryz.underlying11⟩
instance : TI Go.Proofs.Tryz.prog 11 (.string ⟨#[]⟩) 1 16 := ⟨by kernel_rfl⟩
instance : UL Go.Proofs.Tryz.prog 12 (.int .u64) := ⟨Go.Proofs.Tryz.underlying12⟩
instance : TI Go.Proofs.Tryz.prog 12 (.int .u64 0) 1 8 := ⟨by kernel_rfl⟩
instance : UL Go.Proofs.Tryz.prog 13 (.struct #[{ name := "msg", type := 9, offset := 0, embedded := false, tag := "", pkgPath := "runtime", byteOffset := 0 }, { name := "addr", type := 12, offset := 1, embedded := false, tag := "", pkgPath := "runtime", byteOffset := 16 }]) := ⟨Go.Proofs.Tryz.underlying13⟩
instance : TI Go.Proofs.Tryz.prog 13 (.agg #[.string ⟨#[]⟩, .int .u64 0]) 2 24 := ⟨by kernel_rfl⟩
instance : UL Go.Proofs.Tryz.prog 14 (.struct #[{ name := "msg", type := 9, offset := 0, embedded := false, tag := "", pkgPath := "runtime", byteOffset := 0 }, { name := "addr", type := 12, offset := 1, embedded := false, tag := "", pkgPath := "runtime", byteOffset := 16 }]) := ⟨Go.Proofs.Tryz.underlying14⟩
instance : TI Go.Proofs.Tryz.prog 14 (.agg #[.string ⟨#[]⟩, .int .u64 0]) 2 24 := ⟨by kernel_rfl⟩
instance : UL Go.Proofs.Tryz.prog 15 (.pointer 174) := ⟨Go.Proofs.Tryz.underlying15⟩
instance : TI Go.Proofs.Tryz.prog 15 (.pointer none) 1 8 := ⟨by kernel_rfl⟩
instance : UL Go.Proofs.Tryz.prog 16 (.pointer 177) := ⟨Go.Proofs.Tryz.underlying16⟩
instance : TI Go.Proofs.Tryz.prog 16 (.pointer none) 1 8 := ⟨by kernel_rfl⟩
instance : UL Go.Proofs.Tryz.prog 17 (.pointer 184) := ⟨Go.Proofs.Tryz.underlying17⟩
instance : TI Go.Proofs.Tryz.prog 17 (.pointer none) 1 8 := ⟨by kernel_rfl⟩
instance : UL Go.Proofs.Tryz.prog 18 (.struct #[{ name := "typ", type := 17, offset := 0, embedded := false, tag := "", pkgPath := "internal/runtime/maps", byteOffset := 0 }]) := ⟨Go.Proofs.Tryz.underlying18⟩
instance : TI Go.Proofs.Tryz.prog 18 (.agg #[.pointer none]) 1 8 := ⟨by kernel_rfl⟩
instance : UL Go.Proofs.Tryz.prog 19 (.struct #[{ name := "typ", type := 17, offset := 0, embedded := false, tag := "", pkgPath := "internal/runtime/maps", byteOffset := 0 }]) := ⟨Go.Proofs.Tryz.underlying19⟩
instance : TI Go.Proofs.Tryz.prog 19 (.agg #[.pointer none]) 1 8 := ⟨by kernel_rfl⟩
instance : UL Go.Proofs.Tryz.prog 21 (.int .i32) := ⟨Go.Proofs.Tryz.underlying21⟩
instance : TI Go.Proofs.Tryz.prog 21 (.int .i32 0) 1 4 := ⟨by kernel_rfl⟩
instance : UL Go.Proofs.Tryz.prog 22 (.slice 23) := ⟨Go.Proofs.Tryz.underlying22⟩
instance : TI Go.Proofs.Tryz.prog 22 (.slice none 0 0) 1 24 := ⟨by kernel_rfl⟩
instance : UL Go.Proofs.Tryz.prog 23 (.int .u16) := ⟨Go.Proofs.Tryz.underlying23⟩
instance : TI Go.Proofs.Tryz.prog 23 (.int .u16 0) 1 2 := ⟨by kernel_rfl⟩
instance : UL Go.Proofs.Tryz.prog 24 (.struct #[{ name := "Below", type := 4, offset := 0, embedded := false, tag := "", pkgPath := "", byteOffset := 0 }, { name := "Groups", type := 22, offset := 1, embedded := false, tag := "", pkgPath := "", byteOffset := 8 }, { name := "Zeros", type := 23, offset := 2, embedded := false, tag := "", pkgPath := "", byteOffset := 32 }]) := ⟨Go.Proofs.Tryz.underlying24⟩
instance : TI Go.Proofs.Tryz.prog 24 (.agg #[.bool false, .slice none 0 0, .int .u16 0]) 3 40 := ⟨by kernel_rfl⟩
instance : UL Go.Proofs.Tryz.prog 25 (.struct #[{ name := "Below", type := 4, offset := 0, embedded := false, tag := "", pkgPath := "", byteOffset := 0 }, { name := "Groups", type := 22, offset := 1, embedded := false, tag := "", pkgPath := "", byteOffset := 8 }, { name := "Zeros", type := 23, offset := 2, embedded := false, tag := "", pkgPath := "", byteOffset := 32 }]) := ⟨Go.Proofs.Tryz.underlying25⟩
instance : TI Go.Proofs.Tryz.prog 25 (.agg #[.bool false, .slice none 0 0, .int .u16 0]) 3 40 := ⟨by kernel_rfl⟩
instance : UL Go.Proofs.Tryz.prog 26 (.struct #[{ name := "A", type := 9, offset := 0, embedded := false, tag := "", pkgPath := "", byteOffset := 0 }, { name := "B", type := 9, offset := 1, embedded := false, tag := "", pkgPath := "", byteOffset := 16 }, { name := "X", type := 25, offset := 2, embedded := false, tag := "", pkgPath := "", byteOffset := 32 }, { name := "Y", type := 25, offset := 5, embedded := false, tag := "", pkgPath := "", byteOffset := 72 }]) := ⟨Go.Proofs.Tryz.underlying26⟩
instance : TI Go.Proofs.Tryz.prog 26 (.agg #[.string ⟨#[]⟩, .string ⟨#[]⟩, .bool false, .slice none 0 0, .int .u16 0, .bool false, .slice none 0 0, .int .u16 0]) 8 112 := ⟨by kernel_rfl⟩
instance : UL Go.Proofs.Tryz.prog 27 (.struct #[{ name := "A", type := 9, offset := 0, embedded := false, tag := "", pkgPath := "", byteOffset := 0 }, { name := "B", type := 9, offset := 1, embedded := false, tag := "", pkgPath := "", byteOffset := 16 }, { name := "X", type := 25, offset := 2, embedded := false, tag := "", pkgPath := "", byteOffset := 32 }, { name := "Y", type := 25, offset := 5, embedded := false, tag := "", pkgPath := "", byteOffset := 72 }]) := ⟨Go.Proofs.Tryz.underlying27⟩
instance : TI Go.Proofs.Tryz.prog 27 (.agg #[.string ⟨#[]⟩, .string ⟨#[]⟩, .bool false, .slice none 0 0, .int .u16 0, .bool false, .slice none 0 0, .int .u16 0]) 8 112 := ⟨by kernel_rfl⟩
instance : UL Go.Proofs.Tryz.prog 28 (.func #[] #[4] false) := ⟨Go.Proofs.Tryz.underlying28⟩
instance : TI Go.Proofs.Tryz.prog 28 (.nilFunc) 1 8 := ⟨by kernel_rfl⟩
instance : UL Go.Proofs.Tryz.prog 29 (.string) := ⟨Go.Proofs.Tryz.underlying29⟩
instance : TI Go.Proofs.Tryz.prog 29 (.string ⟨#[]⟩) 1 16 := ⟨by kernel_rfl⟩
instance : UL Go.Proofs.Tryz.prog 30 (.func #[3] #[29] false) := ⟨Go.Proofs.Tryz.underlying30⟩
instance : TI Go.Proofs.Tryz.prog 30 (.nilFunc) 1 8 := ⟨by kernel_rfl⟩
instance : UL Go.Proofs.Tryz.prog 31 (.slice 33) := ⟨Go.Proofs.Tryz.underlying31⟩
instance : TI Go.Proofs.Tryz.prog 31 (.slice none 0 0) 1 24 := ⟨by kernel_rfl⟩
instance : UL Go.Proofs.Tryz.prog 32 (.func #[] #[31] false) := ⟨Go.Proofs.Tryz.underlying32⟩
instance : TI Go.Proofs.Tryz.prog 32 (.nilFunc) 1 8 := ⟨by kernel_rfl⟩
instance : UL Go.Proofs.Tryz.prog 33 (.array 2 29) := ⟨Go.Proofs.Tryz.underlying33⟩
instance : TI Go.Proofs.Tryz.prog 33 (.agg #[.string ⟨#[]⟩, .string ⟨#[]⟩]) 2 32 := ⟨by kernel_rfl⟩
instance : UL Go.Proofs.Tryz.prog 34 (.int .i64) := ⟨Go.Proofs.Tryz.underlying34⟩
instance : TI Go.Proofs.Tryz.prog 34 (.int .i64 0) 1 8 := ⟨by kernel_rfl⟩
instance : TI Go.Proofs.Tryz.prog 35 (.tuple #[.int .i64 0, .int .i64 0]) 1 0 := ⟨by kernel_rfl⟩
instance : UL Go.Proofs.Tryz.prog 36 (.func #[29] #[3, 34] false) := ⟨Go.Proofs.Tryz.underlying36⟩
instance : TI Go.Proofs.Tryz.prog 36 (.nilFunc) 1 8 := ⟨by kernel_rfl⟩
instance : UL Go.Proofs.Tryz.prog 37 (.func #[29, 29] #[3, 34] false) := ⟨Go.Proofs.Tryz.underlying37⟩
instance : TI Go.Proofs.Tryz.prog 37 (.nilFunc) 1 8 := ⟨by kernel_rfl⟩
instance : UL Go.Proofs.Tryz.prog 38 (.func #[29] #[34] false) := ⟨Go.Proofs.Tryz.underlying38⟩
instance : TI Go.Proofs.Tryz.prog 38 (.nilFunc) 1 8 := ⟨by kernel_rfl⟩
instance : UL Go.Proofs.Tryz.prog 39 (.func #[27, 3] #[4] false) := ⟨Go.Proofs.Tryz.underlying39⟩
instance : TI Go.Proofs.Tryz.prog 39 (.nilFunc) 1 8 := ⟨by kernel_rfl⟩
instance : TI Go.Proofs.Tryz.prog 40 (.tuple #[.string ⟨#[]⟩, .string ⟨#[]⟩, .int .i64 0]) 1 0 := ⟨by kernel_rfl⟩
instance : UL Go.Proofs.Tryz.prog 41 (.func #[29, 29] #[29, 29, 34] false) := ⟨Go.Proofs.Tryz.underlying41⟩
instance : TI Go.Proofs.Tryz.prog 41 (.nilFunc) 1 8 := ⟨by kernel_rfl⟩
instance : TI Go.Proofs.Tryz.prog 42 (.tuple #[.string ⟨#[]⟩, .int .i64 0]) 1 0 := ⟨by kernel_rfl⟩
instance : UL Go.Proofs.Tryz.prog 43 (.func #[29, 29] #[29, 34] false) := ⟨Go.Proofs.Tryz.underlying43⟩
instance : TI Go.Proofs.Tryz.prog 43 (.nilFunc) 1 8 := ⟨by kernel_rfl⟩
instance : UL Go.Proofs.Tryz.prog 44 (.func #[27] #[4] false) := ⟨Go.Proofs.Tryz.underlying44⟩
instance : TI Go.Proofs.Tryz.prog 44 (.nilFunc) 1 8 := ⟨by kernel_rfl⟩
instance : UL Go.Proofs.Tryz.prog 45 (.array 2 3) := ⟨Go.Proofs.Tryz.underlying45⟩
instance : TI Go.Proofs.Tryz.prog 45 (.agg #[.int .i64 0, .int .i64 0]) 2 16 := ⟨by kernel_rfl⟩
instance : UL Go.Proofs.Tryz.prog 46 (.int .u64) := ⟨Go.Proofs.Tryz.underlying46⟩
instance : TI Go.Proofs.Tryz.prog 46 (.int .u64 0) 1 8 := ⟨by kernel_rfl⟩
instance : UL Go.Proofs.Tryz.prog 47 (.array 2 45) := ⟨Go.Proofs.Tryz.underlying47⟩
instance : TI Go.Proofs.Tryz.prog 47 (.agg #[.int .i64 0, .int .i64 0, .int .i64 0, .int .i64 0]) 4 32 := ⟨by kernel_rfl⟩
instance : UL Go.Proofs.Tryz.prog 48 (.func #[29, 3] #[29, 34] false) := ⟨Go.Proofs.Tryz.underlying48⟩
instance : TI Go.Proofs.Tryz.prog 48 (.nilFunc) 1 8 := ⟨by kernel_rfl⟩
instance : UL Go.Proofs.Tryz.prog 49 (.func #[27, 3, 3] #[4] false) := ⟨Go.Proofs.Tryz.underlying49⟩
instance : TI Go.Proofs.Tryz.prog 49 (.nilFunc) 1 8 := ⟨by kernel_rfl⟩
instance : UL Go.Proofs.Tryz.prog 50 (.func #[25] #[29] false) := ⟨Go.Proofs.Tryz.underlying50⟩
instance : TI Go.Proofs.Tryz.prog 50 (.nilFunc) 1 8 := ⟨by kernel_rfl⟩
instance : UL Go.Proofs.Tryz.prog 51 (.func #[29] #[29, 34] false) := ⟨Go.Proofs.Tryz.underlying51⟩
instance : TI Go.Proofs.Tryz.prog 51 (.nilFunc) 1 8 := ⟨by kernel_rfl⟩
instance : UL Go.Proofs.Tryz.prog 52 (.func #[25, 25, 25] #[4] false) := ⟨Go.Proofs.Tryz.underlying52⟩
instance : TI Go.Proofs.Tryz.prog 52 (.nilFunc) 1 8 := ⟨by kernel_rfl⟩
instance : UL Go.Proofs.Tryz.prog 53 (.func #[] #[29] false) := ⟨Go.Proofs.Tryz.underlying53⟩
instance : TI Go.Proofs.Tryz.prog 53 (.nilFunc) 1 8 := ⟨by kernel_rfl⟩
instance : UL Go.Proofs.Tryz.prog 54 (.func #[25, 25, 5] #[4] false) := ⟨Go.Proofs.Tryz.underlying54⟩
instance : TI Go.Proofs.Tryz.prog 54 (.nilFunc) 1 8 := ⟨by kernel_rfl⟩
instance : UL Go.Proofs.Tryz.prog 55 (.func #[3, 34] #[4] false) := ⟨Go.Proofs.Tryz.underlying55⟩
instance : TI Go.Proofs.Tryz.prog 55 (.nilFunc) 1 8 := ⟨by kernel_rfl⟩
instance : UL Go.Proofs.Tryz.prog 56 (.func #[3] #[55] false) := ⟨Go.Proofs.Tryz.underlying56⟩
instance : TI Go.Proofs.Tryz.prog 56 (.nilFunc) 1 8 := ⟨by kernel_rfl⟩
instance : UL Go.Proofs.Tryz.prog 57 (.func #[25, 25, 3, 3] #[4] false) := ⟨Go.Proofs.Tryz.underlying57⟩
instance : TI Go.Proofs.Tryz.prog 57 (.nilFunc) 1 8 := ⟨by kernel_rfl⟩
instance : UL Go.Proofs.Tryz.prog 58 (.func #[34] #[55] false) := ⟨Go.Proofs.Tryz.underlying58⟩
instance : TI Go.Proofs.Tryz.prog 58 (.nilFunc) 1 8 := ⟨by kernel_rfl⟩
instance : UL Go.Proofs.Tryz.prog 59 (.func #[29, 34] #[4] false) := ⟨Go.Proofs.Tryz.underlying59⟩
instance : TI Go.Proofs.Tryz.prog 59 (.nilFunc) 1 8 := ⟨by kernel_rfl⟩
instance : UL Go.Proofs.Tryz.prog 60 (.func #[29] #[59] false) := ⟨Go.Proofs.Tryz.underlying60⟩
instance : TI Go.Proofs.Tryz.prog 60 (.nilFunc) 1 8 := ⟨by kernel_rfl⟩
instance : UL Go.Proofs.Tryz.prog 61 (.func #[29, 29, 34] #[4] false) := ⟨Go.Proofs.Tryz.underlying61⟩
instance : TI Go.Proofs.Tryz.prog 61 (.nilFunc) 1 8 := ⟨by kernel_rfl⟩
instance : UL Go.Proofs.Tryz.prog 62 (.func #[29, 29] #[61] false) := ⟨Go.Proofs.Tryz.underlying62⟩
instance : TI Go.Proofs.Tryz.prog 62 (.nilFunc) 1 8 := ⟨by kernel_rfl⟩
instance : UL Go.Proofs.Tryz.prog 63 (.func #[34] #[59] false) := ⟨Go.Proofs.Tryz.underlying63⟩
instance : TI Go.Proofs.Tryz.prog 63 (.nilFunc) 1 8 := ⟨by kernel_rfl⟩
instance : UL Go.Proofs.Tryz.prog 64 (.func #[3] #[9] false) := ⟨Go.Proofs.Tryz.underlying64⟩
instance : TI Go.Proofs.Tryz.prog 64 (.nilFunc) 1 8 := ⟨by kernel_rfl⟩
instance : UL Go.Proofs.Tryz.prog 65 (.func #[68] #[29, 34] false) := ⟨Go.Proofs.Tryz.underlying65⟩
instance : TI Go.Proofs.Tryz.prog 65 (.nilFunc) 1 8 := ⟨by kernel_rfl⟩
instance : UL Go.Proofs.Tryz.prog 66 (.slice 3) := ⟨Go.Proofs.Tryz.underlying66⟩
instance : TI Go.Proofs.Tryz.prog 66 (.slice none 0 0) 1 24 := ⟨by kernel_rfl⟩
instance : UL Go.Proofs.Tryz.prog 67 (.struct #[{ name := "Below", type := 4, offset := 0, embedded := false, tag := "", pkgPath := "", byteOffset := 0 }, { name := "D", type := 66, offset := 1, embedded := false, tag := "", pkgPath := "", byteOffset := 8 }]) := ⟨Go.Proofs.Tryz.underlying67⟩
instance : TI Go.Proofs.Tryz.prog 67 (.agg #[.bool false, .slice none 0 0]) 2 32 := ⟨by kernel_rfl⟩
instance : UL Go.Proofs.Tryz.prog 68 (.struct #[{ name := "Below", type := 4, offset := 0, embedded := false, tag := "", pkgPath := "", byteOffset := 0 }, { name := "D", type := 66, offset := 1, embedded := false, tag := "", pkgPath := "", byteOffset := 8 }]) := ⟨Go.Proofs.Tryz.underlying68⟩
instance : TI Go.Proofs.Tryz.prog 68 (.agg #[.bool false, .slice none 0 0]) 2 32 := ⟨by kernel_rfl⟩
instance : UL Go.Proofs.Tryz.prog 69 (.func #[3] #[68] false) := ⟨Go.Proofs.Tryz.underlying69⟩
instance : TI Go.Proofs.Tryz.prog 69 (.nilFunc) 1 8 := ⟨by kernel_rfl⟩
instance : TI Go.Proofs.Tryz.prog 71 (.nilIface) 1 16 := ⟨by kernel_rfl⟩
instance : TI Go.Proofs.Tryz.prog 72 (.tuple #[.int .i64 0, .nilIface]) 1 0 := ⟨by kernel_rfl⟩
instance : UL Go.Proofs.Tryz.prog 73 (.func #[9, 3, 3] #[2, 71] false) := ⟨Go.Proofs.Tryz.underlying73⟩
instance : TI Go.Proofs.Tryz.prog 73 (.nilFunc) 1 8 := ⟨by kernel_rfl⟩
instance : UL Go.Proofs.Tryz.prog 74 (.func #[29] #[4] false) := ⟨Go.Proofs.Tryz.underlying74⟩
instance : TI Go.Proofs.Tryz.prog 74 (.nilFunc) 1 8 := ⟨by kernel_rfl⟩
instance : UL Go.Proofs.Tryz.prog 75 (.func #[68] #[3, 34] false) := ⟨Go.Proofs.Tryz.underlying75⟩
instance : TI Go.Proofs.Tryz.prog 75 (.nilFunc) 1 8 := ⟨by kernel_rfl⟩
instance : UL Go.Proofs.Tryz.prog 76 (.func #[29] #[68] false) := ⟨Go.Proofs.Tryz.underlying76⟩
instance : TI Go.Proofs.Tryz.prog 76 (.nilFunc) 1 8 := ⟨by kernel_rfl⟩
instance : UL Go.Proofs.Tryz.prog 77 (.slice 91) := ⟨Go.Proofs.Tryz.underlying77⟩
instance : TI Go.Proofs.Tryz.prog 77 (.slice none 0 0) 1 24 := ⟨by kernel_rfl⟩
instance : UL Go.Proofs.Tryz.prog 78 (.slice 91) := ⟨Go.Proofs.Tryz.underlying78⟩
instance : TI Go.Proofs.Tryz.prog 78 (.slice none 0 0) 1 24 := ⟨by kernel_rfl⟩
instance : UL Go.Proofs.Tryz.prog 79 (.struct #[{ name := "magnitude", type := 78, offset := 0, embedded := true, tag := "", pkgPath := "verdigris/whole", byteOffset := 0 }, { name := "negative", type := 4, offset := 1, embedded := false, tag := "", pkgPath := "verdigris/whole", byteOffset := 24 }]) := ⟨Go.Proofs.Tryz.underlying79⟩
instance : TI Go.Proofs.Tryz.prog 79 (.agg #[.slice none 0 0, .bool false]) 2 32 := ⟨by kernel_rfl⟩
instance : UL Go.Proofs.Tryz.prog 80 (.struct #[{ name := "magnitude", type := 78, offset := 0, embedded := true, tag := "", pkgPath := "verdigris/whole", byteOffset := 0 }, { name := "negative", type := 4, offset := 1, embedded := false, tag := "", pkgPath := "verdigris/whole", byteOffset := 24 }]) := ⟨Go.Proofs.Tryz.underlying80⟩
instance : TI Go.Proofs.Tryz.prog 80 (.agg #[.slice none 0 0, .bool false]) 2 32 := ⟨by kernel_rfl⟩
instance : TI Go.Proofs.Tryz.prog 81 (.tuple #[.agg #[.slice none 0 0, .bool false], .bool false]) 1 0 := ⟨by kernel_rfl⟩
instance : UL Go.Proofs.Tryz.prog 82 (.func #[29] #[80, 4] false) := ⟨Go.Proofs.Tryz.underlying82⟩
instance : TI Go.Proofs.Tryz.prog 82 (.nilFunc) 1 8 := ⟨by kernel_rfl⟩
instance : UL Go.Proofs.Tryz.prog 83 (.func #[] #[3] false) := ⟨Go.Proofs.Tryz.underlying83⟩
instance : TI Go.Proofs.Tryz.prog 83 (.nilFunc) 1 8 := ⟨by kernel_rfl⟩
instance : UL Go.Proofs.Tryz.prog 84 (.func #[68, 68] #[3] false) := ⟨Go.Proofs.Tryz.underlying84⟩
instance : TI Go.Proofs.Tryz.prog 84 (.nilFunc) 1 8 := ⟨by kernel_rfl⟩
instance : TI Go.Proofs.Tryz.prog 85 (.tuple #[.agg #[.slice none 0 0, .bool false], .agg #[.slice none 0 0, .bool false], .int .i64 0]) 1 0 := ⟨by kernel_rfl⟩
instance : UL Go.Proofs.Tryz.prog 86 (.func #[29, 29] #[80, 80, 34] false) := ⟨Go.Proofs.Tryz.underlying86⟩
instance : TI Go.Proofs.Tryz.prog 86 (.nilFunc) 1 8 := ⟨by kernel_rfl⟩
instance : UL Go.Proofs.Tryz.prog 87 (.func #[80] #[80] false) := ⟨Go.Proofs.Tryz.underlying87⟩
instance : TI Go.Proofs.Tryz.prog 87 (.nilFunc) 1 8 := ⟨by kernel_rfl⟩
instance : TI Go.Proofs.Tryz.prog 88 (.tuple #[.slice none 0 0, .slice none 0 0]) 1 0 := ⟨by kernel_rfl⟩
instance : UL Go.Proofs.Tryz.prog 89 (.func #[78] #[78, 78] false) := ⟨Go.Proofs.Tryz.underlying89⟩
instance : TI Go.Proofs.Tryz.prog 89 (.nilFunc) 1 8 := ⟨by kernel_rfl⟩
instance : UL Go.Proofs.Tryz.prog 90 (.func #[78] #[78] false) := ⟨Go.Proofs.Tryz.underlying90⟩
instance : TI Go.Proofs.Tryz.prog 90 (.nilFunc) 1 8 := ⟨by kernel_rfl⟩
instance : UL Go.Proofs.Tryz.prog 91 (.int .u32) := ⟨Go.Proofs.Tryz.underlying91⟩
instance : TI Go.Proofs.Tryz.prog 91 (.int .u32 0) 1 4 := ⟨by kernel_rfl⟩
instance : UL Go.Proofs.Tryz.prog 92 (.func #[80] #[29, 34] false) := ⟨Go.Proofs.Tryz.underlying92⟩
instance : TI Go.Proofs.Tryz.prog 92 (.nilFunc) 1 8 := ⟨by kernel_rfl⟩
instance : UL Go.Proofs.Tryz.prog 93 (.func #[78, 4] #[80] false) := ⟨Go.Proofs.Tryz.underlying93⟩
instance : TI Go.Proofs.Tryz.prog 93 (.nilFunc) 1 8 := ⟨by kernel_rfl⟩
instance : TI Go.Proofs.Tryz.prog 94 (.tuple #[.agg #[.bool false, .slice none 0 0], .agg #[.bool false, .slice none 0 0]]) 1 0 := ⟨by kernel_rfl⟩
instance : UL Go.Proofs.Tryz.prog 95 (.func #[68, 68] #[68, 68] false) := ⟨Go.Proofs.Tryz.underlying95⟩
instance : TI Go.Proofs.Tryz.prog 95 (.nilFunc) 1 8 := ⟨by kernel_rfl⟩
instance : UL Go.Proofs.Tryz.prog 96 (.func #[3, 29, 29] #[29, 34] false) := ⟨Go.Proofs.Tryz.underlying96⟩
instance : TI Go.Proofs.Tryz.prog 96 (.nilFunc) 1 8 := ⟨by kernel_rfl⟩
instance : UL Go.Proofs.Tryz.prog 97 (.func #[68, 68] #[68] false) := ⟨Go.Proofs.Tryz.underlying97⟩
instance : TI Go.Proofs.Tryz.prog 97 (.nilFunc) 1 8 := ⟨by kernel_rfl⟩
instance : UL Go.Proofs.Tryz.prog 98 (.func #[3] #[78] false) := ⟨Go.Proofs.Tryz.underlying98⟩
instance : TI Go.Proofs.Tryz.prog 98 (.nilFunc) 1 8 := ⟨by kernel_rfl⟩
instance : UL Go.Proofs.Tryz.prog 99 (.func #[68, 3] #[68] false) := ⟨Go.Proofs.Tryz.underlying99⟩
instance : TI Go.Proofs.Tryz.prog 99 (.nilFunc) 1 8 := ⟨by kernel_rfl⟩
instance : UL Go.Proofs.Tryz.prog 100 (.func #[4, 66] #[68] false) := ⟨Go.Proofs.Tryz.underlying100⟩
instance : TI Go.Proofs.Tryz.prog 100 (.nilFunc) 1 8 := ⟨by kernel_rfl⟩
instance : UL Go.Proofs.Tryz.prog 101 (.func #[] #[80] false) := ⟨Go.Proofs.Tryz.underlying101⟩
instance : TI Go.Proofs.Tryz.prog 101 (.nilFunc) 1 8 := ⟨by kernel_rfl⟩
instance : UL Go.Proofs.Tryz.prog 102 (.func #[68] #[68] false) := ⟨Go.Proofs.Tryz.underlying102⟩
instance : TI Go.Proofs.Tryz.prog 102 (.nilFunc) 1 8 := ⟨by kernel_rfl⟩
instance : UL Go.Proofs.Tryz.prog 103 (.func #[68] #[9] false) := ⟨Go.Proofs.Tryz.underlying103⟩
instance : TI Go.Proofs.Tryz.prog 103 (.nilFunc) 1 8 := ⟨by kernel_rfl⟩
instance : UL Go.Proofs.Tryz.prog 104 (.func #[9, 9, 3, 3, 71] #[71] false) := ⟨Go.Proofs.Tryz.underlying104⟩
instance : TI Go.Proofs.Tryz.prog 104 (.nilFunc) 1 8 := ⟨by kernel_rfl⟩
instance : TI Go.Proofs.Tryz.prog 105 (.tuple #[.string ⟨#[]⟩, .bool false]) 1 0 := ⟨by kernel_rfl⟩
instance : UL Go.Proofs.Tryz.prog 106 (.func #[9, 9] #[9, 4] false) := ⟨Go.Proofs.Tryz.underlying106⟩
instance : TI Go.Proofs.Tryz.prog 106 (.nilFunc) 1 8 := ⟨by kernel_rfl⟩
instance : UL Go.Proofs.Tryz.prog 107 (.func #[9] #[78] false) := ⟨Go.Proofs.Tryz.underlying107⟩
instance : TI Go.Proofs.Tryz.prog 107 (.nilFunc) 1 8 := ⟨by kernel_rfl⟩
instance : UL Go.Proofs.Tryz.prog 108 (.func #[78] #[3] false) := ⟨Go.Proofs.Tryz.underlying108⟩
instance : TI Go.Proofs.Tryz.prog 108 (.nilFunc) 1 8 := ⟨by kernel_rfl⟩
instance : TI Go.Proofs.Tryz.prog 109 (.tuple #[.slice none 0 0, .int .u32 0]) 1 0 := ⟨by kernel_rfl⟩
instance : UL Go.Proofs.Tryz.prog 110 (.func #[91] #[78, 91] false) := ⟨Go.Proofs.Tryz.underlying110⟩
instance : TI Go.Proofs.Tryz.prog 110 (.nilFunc) 1 8 := ⟨by kernel_rfl⟩
instance : UL Go.Proofs.Tryz.prog 111 (.func #[112] #[78] false) := ⟨Go.Proofs.Tryz.underlying111⟩
instance : TI Go.Proofs.Tryz.prog 111 (.nilFunc) 1 8 := ⟨by kernel_rfl⟩
instance : UL Go.Proofs.Tryz.prog 112 (.int .u64) := ⟨Go.Proofs.Tryz.underlying112⟩
instance : TI Go.Proofs.Tryz.prog 112 (.int .u64 0) 1 8 := ⟨by kernel_rfl⟩
instance : UL Go.Proofs.Tryz.prog 113 (.func #[78, 78] #[91] false) := ⟨Go.Proofs.Tryz.underlying113⟩
instance : TI Go.Proofs.Tryz.prog 113 (.nilFunc) 1 8 := ⟨by kernel_rfl⟩
instance : UL Go.Proofs.Tryz.prog 114 (.func #[] #[78] false) := ⟨Go.Proofs.Tryz.underlying114⟩
instance : TI Go.Proofs.Tryz.prog 114 (.nilFunc) 1 8 := ⟨by kernel_rfl⟩
instance : UL Go.Proofs.Tryz.prog 115 (.func #[] #[9] false) := ⟨Go.Proofs.Tryz.underlying115⟩
instance : TI Go.Proofs.Tryz.prog 115 (.nilFunc) 1 8 := ⟨by kernel_rfl⟩
instance : TI Go.Proofs.Tryz.prog 116 (.tuple #[.slice none 0 0, .slice none 0 0]) 1 0 := ⟨by kernel_rfl⟩
instance : UL Go.Proofs.Tryz.prog 117 (.func #[66, 66] #[66, 66] false) := ⟨Go.Proofs.Tryz.underlying117⟩
instance : TI Go.Proofs.Tryz.prog 117 (.nilFunc) 1 8 := ⟨by kernel_rfl⟩
instance : UL Go.Proofs.Tryz.prog 118 (.func #[80, 80] #[80] false) := ⟨Go.Proofs.Tryz.underlying118⟩
instance : TI Go.Proofs.Tryz.prog 118 (.nilFunc) 1 8 := ⟨by kernel_rfl⟩
instance : UL Go.Proofs.Tryz.prog 119 (.struct #[{ name := "run", type := 118, offset := 0, embedded := false, tag := "", pkgPath := "verdigris/whole", byteOffset := 0 }]) := ⟨Go.Proofs.Tryz.underlying119⟩
instance : TI Go.Proofs.Tryz.prog 119 (.agg #[.nilFunc]) 1 8 := ⟨by kernel_rfl⟩
instance : UL Go.Proofs.Tryz.prog 120 (.struct #[{ name := "run", type := 118, offset := 0, embedded := false, tag := "", pkgPath := "verdigris/whole", byteOffset := 0 }]) := ⟨Go.Proofs.Tryz.underlying120⟩
instance : TI Go.Proofs.Tryz.prog 120 (.agg #[.nilFunc]) 1 8 := ⟨by kernel_rfl⟩
instance : UL Go.Proofs.Tryz.prog 121 (.array 4 120) := ⟨Go.Proofs.Tryz.underlying121⟩
instance : TI Go.Proofs.Tryz.prog 121 (.agg #[.nilFunc, .nilFunc, .nilFunc, .nilFunc]) 4 32 := ⟨by kernel_rfl⟩
instance : UL Go.Proofs.Tryz.prog 122 (.func #[66, 66] #[66] false) := ⟨Go.Proofs.Tryz.underlying122⟩
instance : TI Go.Proofs.Tryz.prog 122 (.nilFunc) 1 8 := ⟨by kernel_rfl⟩
instance : UL Go.Proofs.Tryz.prog 123 (.func #[66, 66] #[3] false) := ⟨Go.Proofs.Tryz.underlying123⟩
instance : TI Go.Proofs.Tryz.prog 123 (.nilFunc) 1 8 := ⟨by kernel_rfl⟩
instance : UL Go.Proofs.Tryz.prog 124 (.func #[66] #[66] false) := ⟨Go.Proofs.Tryz.underlying124⟩
instance : TI Go.Proofs.Tryz.prog 124 (.nilFunc) 1 8 := ⟨by kernel_rfl⟩
instance : UL Go.Proofs.Tryz.prog 125 (.func #[2, 3] #[9] false) := ⟨Go.Proofs.Tryz.underlying125⟩
instance : TI Go.Proofs.Tryz.prog 125 (.nilFunc) 1 8 := ⟨by kernel_rfl⟩
instance : UL Go.Proofs.Tryz.prog 126 (.int .i64) := ⟨Go.Proofs.Tryz.underlying126⟩
instance : TI Go.Proofs.Tryz.prog 126 (.int .i64 0) 1 8 := ⟨by kernel_rfl⟩
instance : TI Go.Proofs.Tryz.prog 127 (.tuple #[.int .u64 0, .nilIface]) 1 0 := ⟨by kernel_rfl⟩
instance : UL Go.Proofs.Tryz.prog 128 (.func #[9, 3, 3] #[112, 71] false) := ⟨Go.Proofs.Tryz.underlying128⟩
instance : TI Go.Proofs.Tryz.prog 128 (.nilFunc) 1 8 := ⟨by kernel_rfl⟩
instance : UL Go.Proofs.Tryz.prog 129 (.pointer 153) := ⟨Go.Proofs.Tryz.underlying129⟩
instance : TI Go.Proofs.Tryz.prog 129 (.pointer none) 1 8 := ⟨by kernel_rfl⟩
instance : UL Go.Proofs.Tryz.prog 130 (.func #[9, 9] #[129] false) := ⟨Go.Proofs.Tryz.underlying130⟩
instance : TI Go.Proofs.Tryz.prog 130 (.nilFunc) 1 8 := ⟨by kernel_rfl⟩
instance : UL Go.Proofs.Tryz.prog 131 (.func #[9, 9, 3] #[129] false) := ⟨Go.Proofs.Tryz.underlying131⟩
instance : TI Go.Proofs.Tryz.prog 131 (.nilFunc) 1 8 := ⟨by kernel_rfl⟩
instance : UL Go.Proofs.Tryz.prog 132 (.func #[3, 3] #[3] false) := ⟨Go.Proofs.Tryz.underlying132⟩
instance : TI Go.Proofs.Tryz.prog 132 (.nilFunc) 1 8 := ⟨by kernel_rfl⟩
instance : UL Go.Proofs.Tryz.prog 133 (.func #[91, 91] #[3] false) := ⟨Go.Proofs.Tryz.underlying133⟩
instance : TI Go.Proofs.Tryz.prog 133 (.nilFunc) 1 8 := ⟨by kernel_rfl⟩
instance : UL Go.Proofs.Tryz.prog 134 (.pointer 137) := ⟨Go.Proofs.Tryz.underlying134⟩
instance : TI Go.Proofs.Tryz.prog 134 (.pointer none) 1 8 := ⟨by kernel_rfl⟩
instance : UL Go.Proofs.Tryz.prog 135 (.slice 5) := ⟨Go.Proofs.Tryz.underlying135⟩
instance : TI Go.Proofs.Tryz.prog 135 (.slice none 0 0) 1 24 := ⟨by kernel_rfl⟩
instance : UL Go.Proofs.Tryz.prog 136 (.struct #[{ name := "addr", type := 134, offset := 0, embedded := false, tag := "", pkgPath := "strings", byteOffset := 0 }, { name := "buf", type := 135, offset := 1, embedded := false, tag := "", pkgPath := "strings", byteOffset := 8 }]) := ⟨Go.Proofs.Tryz.underlying136⟩
instance : TI Go.Proofs.Tryz.prog 136 (.agg #[.pointer none, .slice none 0 0]) 2 32 := ⟨by kernel_rfl⟩
instance : UL Go.Proofs.Tryz.prog 137 (.struct #[{ name := "addr", type := 134, offset := 0, embedded := false, tag := "", pkgPath := "strings", byteOffset := 0 }, { name := "buf", type := 135, offset := 1, embedded := false, tag := "", pkgPath := "strings", byteOffset := 8 }]) := ⟨Go.Proofs.Tryz.underlying137⟩
instance : TI Go.Proofs.Tryz.prog 137 (.agg #[.pointer none, .slice none 0 0]) 2 32 := ⟨by kernel_rfl⟩
instance : UL Go.Proofs.Tryz.prog 138 (.func #[5] #[71] false) := ⟨Go.Proofs.Tryz.underlying138⟩
instance : TI Go.Proofs.Tryz.prog 138 (.nilFunc) 1 8 := ⟨by kernel_rfl⟩
instance : TI Go.Proofs.Tryz.prog 139 (.tuple #[.int .i64 0, .nilIface]) 1 0 := ⟨by kernel_rfl⟩
instance : UL Go.Proofs.Tryz.prog 140 (.func #[9] #[3, 71] false) := ⟨Go.Proofs.Tryz.underlying140⟩
instance : TI Go.Proofs.Tryz.prog 140 (.nilFunc) 1 8 := ⟨by kernel_rfl⟩
instance : UL Go.Proofs.Tryz.prog 141 (.func #[91, 3] #[] false) := ⟨Go.Proofs.Tryz.underlying141⟩
instance : TI Go.Proofs.Tryz.prog 141 (.nilFunc) 1 8 := ⟨by kernel_rfl⟩
instance : TI Go.Proofs.Tryz.prog 142 (.tuple #[.slice none 0 0, .int .i64 0]) 1 0 := ⟨by kernel_rfl⟩
instance : UL Go.Proofs.Tryz.prog 143 (.func #[66, 3] #[66, 3] false) := ⟨Go.Proofs.Tryz.underlying143⟩
instance : TI Go.Proofs.Tryz.prog 143 (.nilFunc) 1 8 := ⟨by kernel_rfl⟩
instance : UL Go.Proofs.Tryz.prog 144 (.array 24 5) := ⟨Go.Proofs.Tryz.underlying144⟩
instance : TI Go.Proofs.Tryz.prog 144 (.agg #[.int .u8 0, .int .u8 0, .int .u8 0, .int .u8 0, .int .u8 0, .int .u8 0, .int .u8 0, .int .u8 0, .int .u8 0, .int .u8 0, .int .u8 0, .int .u8 0, .int .u8 0, .int .u8 0, .int .u8 0, .int .u8 0, .int .u8 0, .int .u8 0, .int .u8 0, .int .u8 0, .int .u8 0, .int .u8 0, .int .u8 0, .int .u8 0]) 24 24 := ⟨by kernel_rfl⟩
instance : UL Go.Proofs.Tryz.prog 145 (.func #[112] #[3] false) := ⟨Go.Proofs.Tryz.underlying145⟩
instance : TI Go.Proofs.Tryz.prog 145 (.nilFunc) 1 8 := ⟨by kernel_rfl⟩
instance : UL Go.Proofs.Tryz.prog 146 (.func #[135, 112] #[] false) := ⟨Go.Proofs.Tryz.underlying146⟩
instance : TI Go.Proofs.Tryz.prog 146 (.nilFunc) 1 8 := ⟨by kernel_rfl⟩
instance : TI Go.Proofs.Tryz.prog 147 (.tuple #[.slice none 0 0, .string ⟨#[]⟩]) 1 0 := ⟨by kernel_rfl⟩
instance : UL Go.Proofs.Tryz.prog 148 (.func #[135, 112, 3, 4, 4] #[135, 9] false) := ⟨Go.Proofs.Tryz.underlying148⟩
instance : TI Go.Proofs.Tryz.prog 148 (.nilFunc) 1 8 := ⟨by kernel_rfl⟩
instance : UL Go.Proofs.Tryz.prog 149 (.func #[5] #[5] false) := ⟨Go.Proofs.Tryz.underlying149⟩
instance : TI Go.Proofs.Tryz.prog 149 (.nilFunc) 1 8 := ⟨by kernel_rfl⟩
instance : UL Go.Proofs.Tryz.prog 150 (.func #[9] #[4] false) := ⟨Go.Proofs.Tryz.underlying150⟩
instance : TI Go.Proofs.Tryz.prog 150 (.nilFunc) 1 8 := ⟨by kernel_rfl⟩
instance : UL Go.Proofs.Tryz.prog 151 (.func #[9] #[9] false) := ⟨Go.Proofs.Tryz.underlying151⟩
instance : TI Go.Proofs.Tryz.prog 151 (.nilFunc) 1 8 := ⟨by kernel_rfl⟩
instance : UL Go.Proofs.Tryz.prog 152 (.struct #[{ name := "Func", type := 9, offset := 0, embedded := false, tag := "", pkgPath := "", byteOffset := 0 }, { name := "Num", type := 9, offset := 1, embedded := false, tag := "", pkgPath := "", byteOffset := 16 }, { name := "Err", type := 71, offset := 2, embedded := false, tag := "", pkgPath := "", byteOffset := 32 }]) := ⟨Go.Proofs.Tryz.underlying152⟩
instance : TI Go.Proofs.Tryz.prog 152 (.agg #[.string ⟨#[]⟩, .string ⟨#[]⟩, .nilIface]) 3 48 := ⟨by kernel_rfl⟩
instance : UL Go.Proofs.Tryz.prog 153 (.struct #[{ name := "Func", type := 9, offset := 0, embedded := false, tag := "", pkgPath := "", byteOffset := 0 }, { name := "Num", type := 9, offset := 1, embedded := false, tag := "", pkgPath := "", byteOffset := 16 }, { name := "Err", type := 71, offset := 2, embedded := false, tag := "", pkgPath := "", byteOffset := 32 }]) := ⟨Go.Proofs.Tryz.underlying153⟩
instance : TI Go.Proofs.Tryz.prog 153 (.agg #[.string ⟨#[]⟩, .string ⟨#[]⟩, .nilIface]) 3 48 := ⟨by kernel_rfl⟩
instance : UL Go.Proofs.Tryz.prog 154 (.func #[9] #[71] false) := ⟨Go.Proofs.Tryz.underlying154⟩
instance : TI Go.Proofs.Tryz.prog 154 (.nilFunc) 1 8 := ⟨by kernel_rfl⟩
instance : UL Go.Proofs.Tryz.prog 155 (.func #[9, 9] #[4] false) := ⟨Go.Proofs.Tryz.underlying155⟩
instance : TI Go.Proofs.Tryz.prog 155 (.nilFunc) 1 8 := ⟨by kernel_rfl⟩
instance : UL Go.Proofs.Tryz.prog 156 (.func #[3] #[4] false) := ⟨Go.Proofs.Tryz.underlying156⟩
instance : TI Go.Proofs.Tryz.prog 156 (.nilFunc) 1 8 := ⟨by kernel_rfl⟩
instance : UL Go.Proofs.Tryz.prog 157 (.func #[91] #[4] false) := ⟨Go.Proofs.Tryz.underlying157⟩
instance : TI Go.Proofs.Tryz.prog 157 (.nilFunc) 1 8 := ⟨by kernel_rfl⟩
instance : UL Go.Proofs.Tryz.prog 158 (.pointer 5) := ⟨Go.Proofs.Tryz.underlying158⟩
instance : TI Go.Proofs.Tryz.prog 158 (.pointer none) 1 8 := ⟨by kernel_rfl⟩
instance : UL Go.Proofs.Tryz.prog 159 (.func #[] #[112] false) := ⟨Go.Proofs.Tryz.underlying159⟩
instance : TI Go.Proofs.Tryz.prog 159 (.nilFunc) 1 8 := ⟨by kernel_rfl⟩
instance : UL Go.Proofs.Tryz.prog 160 (.func #[3] #[3] false) := ⟨Go.Proofs.Tryz.underlying160⟩
instance : TI Go.Proofs.Tryz.prog 160 (.nilFunc) 1 8 := ⟨by kernel_rfl⟩
instance : UL Go.Proofs.Tryz.prog 161 (.func #[4] #[3] false) := ⟨Go.Proofs.Tryz.underlying161⟩
instance : TI Go.Proofs.Tryz.prog 161 (.nilFunc) 1 8 := ⟨by kernel_rfl⟩
instance : UL Go.Proofs.Tryz.prog 162 (.array 20 112) := ⟨Go.Proofs.Tryz.underlying162⟩
instance : TI Go.Proofs.Tryz.prog 162 (.agg #[.int .u64 0, .int .u64 0, .int .u64 0, .int .u64 0, .int .u64 0, .int .u64 0, .int .u64 0, .int .u64 0, .int .u64 0, .int .u64 0, .int .u64 0, .int .u64 0, .int .u64 0, .int .u64 0, .int .u64 0, .int .u64 0, .int .u64 0, .int .u64 0, .int .u64 0, .int .u64 0]) 20 160 := ⟨by kernel_rfl⟩
instance : UL Go.Proofs.Tryz.prog 163 (.array 65 5) := ⟨Go.Proofs.Tryz.underlying163⟩
instance : UL Go.Proofs.Tryz.prog 164 (.func #[46] #[3] false) := ⟨Go.Proofs.Tryz.underlying164⟩
instance : TI Go.Proofs.Tryz.prog 164 (.nilFunc) 1 8 := ⟨by kernel_rfl⟩
instance : UL Go.Proofs.Tryz.prog 165 (.pointer 167) := ⟨Go.Proofs.Tryz.underlying165⟩
instance : TI Go.Proofs.Tryz.prog 165 (.pointer none) 1 8 := ⟨by kernel_rfl⟩
instance : UL Go.Proofs.Tryz.prog 166 (.struct #[{ name := "s", type := 9, offset := 0, embedded := false, tag := "", pkgPath := "errors", byteOffset := 0 }]) := ⟨Go.Proofs.Tryz.underlying166⟩
instance : TI Go.Proofs.Tryz.prog 166 (.agg #[.string ⟨#[]⟩]) 1 16 := ⟨by kernel_rfl⟩
instance : UL Go.Proofs.Tryz.prog 167 (.struct #[{ name := "s", type := 9, offset := 0, embedded := false, tag := "", pkgPath := "errors", byteOffset := 0 }]) := ⟨Go.Proofs.Tryz.underlying167⟩
instance : TI Go.Proofs.Tryz.prog 167 (.agg #[.string ⟨#[]⟩]) 1 16 := ⟨by kernel_rfl⟩
instance : UL Go.Proofs.Tryz.prog 168 (.unsafePointer) := ⟨Go.Proofs.Tryz.underlying168⟩
instance : TI Go.Proofs.Tryz.prog 168 (.pointer none) 1 8 := ⟨by kernel_rfl⟩
instance : UL Go.Proofs.Tryz.prog 169 (.func #[168] #[168] false) := ⟨Go.Proofs.Tryz.underlying169⟩
instance : TI Go.Proofs.Tryz.prog 169 (.nilFunc) 1 8 := ⟨by kernel_rfl⟩
instance : UL Go.Proofs.Tryz.prog 170 (.func #[91] #[3] false) := ⟨Go.Proofs.Tryz.underlying170⟩
instance : TI Go.Proofs.Tryz.prog 170 (.nilFunc) 1 8 := ⟨by kernel_rfl⟩
instance : UL Go.Proofs.Tryz.prog 171 (.array 32 5) := ⟨Go.Proofs.Tryz.underlying171⟩
instance : TI Go.Proofs.Tryz.prog 171 (.agg #[.int .u8 0, .int .u8 0, .int .u8 0, .int .u8 0, .int .u8 0, .int .u8 0, .int .u8 0, .int .u8 0, .int .u8 0, .int .u8 0, .int .u8 0, .int .u8 0, .int .u8 0, .int .u8 0, .int .u8 0, .int .u8 0, .int .u8 0, .int .u8 0, .int .u8 0, .int .u8 0, .int .u8 0, .int .u8 0, .int .u8 0, .int .u8 0, .int .u8 0, .int .u8 0, .int .u8 0, .int .u8 0, .int .u8 0, .int .u8 0, .int .u8 0, .int .u8 0]) 32 32 := ⟨by kernel_rfl⟩
instance : UL Go.Proofs.Tryz.prog 172 (.array 64 5) := ⟨Go.Proofs.Tryz.underlying172⟩
instance : TI Go.Proofs.Tryz.prog 172 (.agg #[.int .u8 0, .int .u8 0, .int .u8 0, .int .u8 0, .int .u8 0, .int .u8 0, .int .u8 0, .int .u8 0, .int .u8 0, .int .u8 0, .int .u8 0, .int .u8 0, .int .u8 0, .int .u8 0, .int .u8 0, .int .u8 0, .int .u8 0, .int .u8 0, .int .u8 0, .int .u8 0, .int .u8 0, .int .u8 0, .int .u8 0, .int .u8 0, .int .u8 0, .int .u8 0, .int .u8 0, .int .u8 0, .int .u8 0, .int .u8 0, .int .u8 0, .int .u8 0, .int .u8 0, .int .u8 0, .int .u8 0, .int .u8 0, .int .u8 0, .int .u8 0, .int .u8 0, .int .u8 0, .int .u8 0, .int .u8 0, .int .u8 0, .int .u8 0, .int .u8 0, .int .u8 0, .int .u8 0, .int .u8 0, .int .u8 0, .int .u8 0, .int .u8 0, .int .u8 0, .int .u8 0, .int .u8 0, .int .u8 0, .int .u8 0, .int .u8 0, .int .u8 0, .int .u8 0, .int .u8 0, .int .u8 0, .int .u8 0, .int .u8 0, .int .u8 0]) 64 64 := ⟨by kernel_rfl⟩
instance : UL Go.Proofs.Tryz.prog 173 (.struct #[{ name := "_interface", type := 17, offset := 0, embedded := false, tag := "", pkgPath := "runtime", byteOffset := 0 }, { name := "concrete", type := 17, offset := 1, embedded := false, tag := "", pkgPath := "runtime", byteOffset := 8 }, { name := "asserted", type := 17, offset := 2, embedded := false, tag := "", pkgPath := "runtime", byteOffset := 16 }, { name := "missingMethod", type := 9, offset := 3, embedded := false, tag := "", pkgPath := "runtime", byteOffset := 24 }]) := ⟨Go.Proofs.Tryz.underlying173⟩
instance : TI Go.Proofs.Tryz.prog 173 (.agg #[.pointer none, .pointer none, .pointer none, .string ⟨#[]⟩]) 4 40 := ⟨by kernel_rfl⟩
instance : UL Go.Proofs.Tryz.prog 174 (.struct #[{ name := "_interface", type := 17, offset := 0, embedded := false, tag := "", pkgPath := "runtime", byteOffset := 0 }, { name := "concrete", type := 17, offset := 1, embedded := false, tag := "", pkgPath := "runtime", byteOffset := 8 }, { name := "asserted", type := 17, offset := 2, embedded := false, tag := "", pkgPath := "runtime", byteOffset := 16 }, { name := "missingMethod", type := 9, offset := 3, embedded := false, tag := "", pkgPath := "runtime", byteOffset := 24 }]) := ⟨Go.Proofs.Tryz.underlying174⟩
instance : TI Go.Proofs.Tryz.prog 174 (.agg #[.pointer none, .pointer none, .pointer none, .string ⟨#[]⟩]) 4 40 := ⟨by kernel_rfl⟩
instance : UL Go.Proofs.Tryz.prog 175 (.array 0 16) := ⟨Go.Proofs.Tryz.underlying175⟩
instance : TI Go.Proofs.Tryz.prog 175 (.agg #[]) 0 0 := ⟨by kernel_rfl⟩
instance : UL Go.Proofs.Tryz.prog 176 (.struct #[{ name := "_", type := 175, offset := 0, embedded := false, tag := "", pkgPath := "runtime", byteOffset := 0 }]) := ⟨Go.Proofs.Tryz.underlying176⟩
instance : TI Go.Proofs.Tryz.prog 176 (.agg #[]) 0 0 := ⟨by kernel_rfl⟩
instance : UL Go.Proofs.Tryz.prog 177 (.struct #[{ name := "_", type := 175, offset := 0, embedded := false, tag := "", pkgPath := "runtime", byteOffset := 0 }]) := ⟨Go.Proofs.Tryz.underlying177⟩
instance : TI Go.Proofs.Tryz.prog 177 (.agg #[]) 0 0 := ⟨by kernel_rfl⟩
instance : UL Go.Proofs.Tryz.prog 178 (.int .u8) := ⟨Go.Proofs.Tryz.underlying178⟩
instance : TI Go.Proofs.Tryz.prog 178 (.int .u8 0) 1 1 := ⟨by kernel_rfl⟩
instance : UL Go.Proofs.Tryz.prog 179 (.int .u8) := ⟨Go.Proofs.Tryz.underlying179⟩
instance : TI Go.Proofs.Tryz.prog 179 (.int .u8 0) 1 1 := ⟨by kernel_rfl⟩
instance : UL Go.Proofs.Tryz.prog 180 (.func #[168, 168] #[4] false) := ⟨Go.Proofs.Tryz.underlying180⟩
instance : TI Go.Proofs.Tryz.prog 180 (.nilFunc) 1 8 := ⟨by kernel_rfl⟩
instance : UL Go.Proofs.Tryz.prog 181 (.int .i32) := ⟨Go.Proofs.Tryz.underlying181⟩
instance : TI Go.Proofs.Tryz.prog 181 (.int .i32 0) 1 4 := ⟨by kernel_rfl⟩
instance : UL Go.Proofs.Tryz.prog 182 (.int .i32) := ⟨Go.Proofs.Tryz.underlying182⟩
instance : TI Go.Proofs.Tryz.prog 182 (.int .i32 0) 1 4 := ⟨by kernel_rfl⟩
instance : UL Go.Proofs.Tryz.prog 183 (.struct #[{ name := "Size_", type := 12, offset := 0, embedded := false, tag := "", pkgPath := "", byteOffset := 0 }, { name := "PtrBytes", type := 12, offset := 1, embedded := false, tag := "", pkgPath := "", byteOffset := 8 }, { name := "Hash", type := 91, offset := 2, embedded := false, tag := "", pkgPath := "", byteOffset := 16 }, { name := "TFlag", type := 178, offset := 3, embedded := false, tag := "", pkgPath := "", byteOffset := 20 }, { name := "Align_", type := 5, offset := 4, embedded := false, tag := "", pkgPath := "", byteOffset := 21 }, { name := "FieldAlign_", type := 5, offset := 5, embedded := false, tag := "", pkgPath := "", byteOffset := 22 }, { name := "Kind_", type := 179, offset := 6, embedded := false, tag := "", pkgPath := "", byteOffset := 23 }, { name := "Equal", type := 180, offset := 7, embedded := false, tag := "", pkgPath := "", byteOffset := 24 }, { name := "GCData", type := 158, offset := 8, embedded := false, tag := "", pkgPath := "", byteOffset := 32 }, { name := "Str", type := 181, offset := 9, embedded := false, tag := "", pkgPath := "", byteOffset := 40 }, { name := "PtrToThis", type := 182, offset := 10, embedded := false, tag := "", pkgPath := "", byteOffset := 44 }]) := ⟨Go.Proofs.Tryz.underlying183⟩
instance : TI Go.Proofs.Tryz.prog 183 (.agg #[.int .u64 0, .int .u64 0, .int .u32 0, .int .u8 0, .int .u8 0, .int .u8 0, .int .u8 0, .nilFunc, .pointer none, .int .i32 0, .int .i32 0]) 11 48 := ⟨by kernel_rfl⟩
instance : UL Go.Proofs.Tryz.prog 184 (.struct #[{ name := "Size_", type := 12, offset := 0, embedded := false, tag := "", pkgPath := "", byteOffset := 0 }, { name := "PtrBytes", type := 12, offset := 1, embedded := false, tag := "", pkgPath := "", byteOffset := 8 }, { name := "Hash", type := 91, offset := 2, embedded := false, tag := "", pkgPath := "", byteOffset := 16 }, { name := "TFlag", type := 178, offset := 3, embedded := false, tag := "", pkgPath := "", byteOffset := 20 }, { name := "Align_", type := 5, offset := 4, embedded := false, tag := "", pkgPath := "", byteOffset := 21 }, { name := "FieldAlign_", type := 5, offset := 5, embedded := false, tag := "", pkgPath := "", byteOffset := 22 }, { name := "Kind_", type := 179, offset := 6, embedded := false, tag := "", pkgPath := "", byteOffset := 23 }, { name := "Equal", type := 180, offset := 7, embedded := false, tag := "", pkgPath := "", byteOffset := 24 }, { name := "GCData", type := 158, offset := 8, embedded := false, tag := "", pkgPath := "", byteOffset := 32 }, { name := "Str", type := 181, offset := 9, embedded := false, tag := "", pkgPath := "", byteOffset := 40 }, { name := "PtrToThis", type := 182, offset := 10, embedded := false, tag := "", pkgPath := "", byteOffset := 44 }]) := ⟨Go.Proofs.Tryz.underlying184⟩
instance : TI Go.Proofs.Tryz.prog 184 (.agg #[.int .u64 0, .int .u64 0, .int .u32 0, .int .u8 0, .int .u8 0, .int .u8 0, .int .u8 0, .nilFunc, .pointer none, .int .i32 0, .int .i32 0]) 11 48 := ⟨by kernel_rfl⟩
instance : FO Go.Proofs.Tryz.prog 7 0 0 1 := ⟨_, _, Go.Proofs.Tryz.underlying7, rfl, rfl, (by obtain ⟨i, h1, _, h2, _⟩ := (inferInstance : TI Go.Proofs.Tryz.prog 2 _ _ _).info; exact ⟨i, h1, h2⟩), by decide⟩
instance : FO Go.Proofs.Tryz.prog 7 1 1 1 := ⟨_, _, Go.Proofs.Tryz.underlying7, rfl, rfl, (by obtain ⟨i, h1, _, h2, _⟩ := (inferInstance : TI Go.Proofs.Tryz.prog 3 _ _ _).info; exact ⟨i, h1, h2⟩), by decide⟩
instance : FO Go.Proofs.Tryz.prog 7 2 2 1 := ⟨_, _, Go.Proofs.Tryz.underlying7, rfl, rfl, (by obtain ⟨i, h1, _, h2, _⟩ := (inferInstance : TI Go.Proofs.Tryz.prog 4 _ _ _).info; exact ⟨i, h1, h2⟩), by decide⟩
instance : FO Go.Proofs.Tryz.prog 7 3 3 1 := ⟨_, _, Go.Proofs.Tryz.underlying7, rfl, rfl, (by obtain ⟨i, h1, _, h2, _⟩ := (inferInstance : TI Go.Proofs.Tryz.prog 6 _ _ _).info; exact ⟨i, h1, h2⟩), by decide⟩
instance : FO Go.Proofs.Tryz.prog 8 0 0 1 := ⟨_, _, Go.Proofs.Tryz.underlying8, rfl, rfl, (by obtain ⟨i, h1, _, h2, _⟩ := (inferInstance : TI Go.Proofs.Tryz.prog 2 _ _ _).info; exact ⟨i, h1, h2⟩), by decide⟩
instance : FO Go.Proofs.Tryz.prog 8 1 1 1 := ⟨_, _, Go.Proofs.Tryz.underlying8, rfl, rfl, (by obtain ⟨i, h1, _, h2, _⟩ := (inferInstance : TI Go.Proofs.Tryz.prog 3 _ _ _).info; exact ⟨i, h1, h2⟩), by decide⟩
instance : FO Go.Proofs.Tryz.prog 8 2 2 1 := ⟨_, _, Go.Proofs.Tryz.underlying8, rfl, rfl, (by obtain ⟨i, h1, _, h2, _⟩ := (inferInstance : TI Go.Proofs.Tryz.prog 4 _ _ _).info; exact ⟨i, h1, h2⟩), by decide⟩
instance : FO Go.Proofs.Tryz.prog 8 3 3 1 := ⟨_, _, Go.Proofs.Tryz.underlying8, rfl, rfl, (by obtain ⟨i, h1, _, h2, _⟩ := (inferInstance : TI Go.Proofs.Tryz.prog 6 _ _ _).info; exact ⟨i, h1, h2⟩), by decide⟩
instance : FO Go.Proofs.Tryz.prog 13 0 0 1 := ⟨_, _, Go.Proofs.Tryz.underlying13, rfl, rfl, (by obtain ⟨i, h1, _, h2, _⟩ := (inferInstance : TI Go.Proofs.Tryz.prog 9 _ _ _).info; exact ⟨i, h1, h2⟩), by decide⟩
instance : FO Go.Proofs.Tryz.prog 13 1 1 1 := ⟨_, _, Go.Proofs.Tryz.underlying13, rfl, rfl, (by obtain ⟨i, h1, _, h2, _⟩ := (inferInstance : TI Go.Proofs.Tryz.prog 12 _ _ _).info; exact ⟨i, h1, h2⟩), by decide⟩
instance : FO Go.Proofs.Tryz.prog 14 0 0 1 := ⟨_, _, Go.Proofs.Tryz.underlying14, rfl, rfl, (by obtain ⟨i, h1, _, h2, _⟩ := (inferInstance : TI Go.Proofs.Tryz.prog 9 _ _ _).info; exact ⟨i, h1, h2⟩), by decide⟩
instance : FO Go.Proofs.Tryz.prog 14 1 1 1 := ⟨_, _, Go.Proofs.Tryz.underlying14, rfl, rfl, (by obtain ⟨i, h1, _, h2, _⟩ := (inferInstance : TI Go.Proofs.Tryz.prog 12 _ _ _).info; exact ⟨i, h1, h2⟩), by decide⟩
instance : FO Go.Proofs.Tryz.prog 18 0 0 1 := ⟨_, _, Go.Proofs.Tryz.underlying18, rfl, rfl, (by obtain ⟨i, h1, _, h2, _⟩ := (inferInstance : TI Go.Proofs.Tryz.prog 17 _ _ _).info; exact ⟨i, h1, h2⟩), by decide⟩
instance : FO Go.Proofs.Tryz.prog 19 0 0 1 := ⟨_, _, Go.Proofs.Tryz.underlying19, rfl, rfl, (by obtain ⟨i, h1, _, h2, _⟩ := (inferInstance : TI Go.Proofs.Tryz.prog 17 _ _ _).info; exact ⟨i, h1, h2⟩), by decide⟩
instance : FO Go.Proofs.Tryz.prog 24 0 0 1 := ⟨_, _, Go.Proofs.Tryz.underlying24, rfl, rfl, (by obtain ⟨i, h1, _, h2, _⟩ := (inferInstance : TI Go.Proofs.Tryz.prog 4 _ _ _).info; exact ⟨i, h1, h2⟩), by decide⟩
instance : FO Go.Proofs.Tryz.prog 24 1 1 1 := ⟨_, _, Go.Proofs.Tryz.underlying24, rfl, rfl, (by obtain ⟨i, h1, _, h2, _⟩ := (inferInstance : TI Go.Proofs.Tryz.prog 22 _ _ _).info; exact ⟨i, h1, h2⟩), by decide⟩
instance : FO Go.Proofs.Tryz.prog 24 2 2 1 := ⟨_, _, Go.Proofs.Tryz.underlying24, rfl, rfl, (by obtain ⟨i, h1, _, h2, _⟩ := (inferInstance : TI Go.Proofs.Tryz.prog 23 _ _ _).info; exact ⟨i, h1, h2⟩), by decide⟩
instance : FO Go.Proofs.Tryz.prog 25 0 0 1 := ⟨_, _, Go.Proofs.Tryz.underlying25, rfl, rfl, (by obtain ⟨i, h1, _, h2, _⟩ := (inferInstance : TI Go.Proofs.Tryz.prog 4 _ _ _).info; exact ⟨i, h1, h2⟩), by decide⟩
instance : FO Go.Proofs.Tryz.prog 25 1 1 1 := ⟨_, _, Go.Proofs.Tryz.underlying25, rfl, rfl, (by obtain ⟨i, h1, _, h2, _⟩ := (inferInstance : TI Go.Proofs.Tryz.prog 22 _ _ _).info; exact ⟨i, h1, h2⟩), by decide⟩
instance : FO Go.Proofs.Tryz.prog 25 2 2 1 := ⟨_, _, Go.Proofs.Tryz.underlying25, rfl, rfl, (by obtain ⟨i, h1, _, h2, _⟩ := (inferInstance : TI Go.Proofs.Tryz.prog 23 _ _ _).info; exact ⟨i, h1, h2⟩), by decide⟩
instance : FO Go.Proofs.Tryz.prog 26 0 0 1 := ⟨_, _, Go.Proofs.Tryz.underlying26, rfl, rfl, (by obtain ⟨i, h1, _, h2, _⟩ := (inferInstance : TI Go.Proofs.Tryz.prog 9 _ _ _).info; exact ⟨i, h1, h2⟩), by decide⟩
instance : FO Go.Proofs.Tryz.prog 26 1 1 1 := ⟨_, _, Go.Proofs.Tryz.underlying26, rfl, rfl, (by obtain ⟨i, h1, _, h2, _⟩ := (inferInstance : TI Go.Proofs.Tryz.prog 9 _ _ _).info; exact ⟨i, h1, h2⟩), by decide⟩
instance : FO Go.Proofs.Tryz.prog 26 2 2 3 := ⟨_, _, Go.Proofs.Tryz.underlying26, rfl, rfl, (by obtain ⟨i, h1, _, h2, _⟩ := (inferInstance : TI Go.Proofs.Tryz.prog 25 _ _ _).info; exact ⟨i, h1, h2⟩), by decide⟩
instance : FO Go.Proofs.Tryz.prog 26 3 5 3 := ⟨_, _, Go.Proofs.Tryz.underlying26, rfl, rfl, (by obtain ⟨i, h1, _, h2, _⟩ := (inferInstance : TI Go.Proofs.Tryz.prog 25 _ _ _).info; exact ⟨i, h1, h2⟩), by decide⟩
instance : FO Go.Proofs.Tryz.prog 27 0 0 1 := ⟨_, _, Go.Proofs.Tryz.underlying27, rfl, rfl, (by obtain ⟨i, h1, _, h2, _⟩ := (inferInstance : TI Go.Proofs.Tryz.prog 9 _ _ _).info; exact ⟨i, h1, h2⟩), by decide⟩
instance : FO Go.Proofs.Tryz.prog 27 1 1 1 := ⟨_, _, Go.Proofs.Tryz.underlying27, rfl, rfl, (by obtain ⟨i, h1, _, h2, _⟩ := (inferInstance : TI Go.Proofs.Tryz.prog 9 _ _ _).info; exact ⟨i, h1, h2⟩), by decide⟩
instance : FO Go.Proofs.Tryz.prog 27 2 2 3 := ⟨_, _, Go.Proofs.Tryz.underlying27, rfl, rfl, (by obtain ⟨i, h1, _, h2, _⟩ := (inferInstance : TI Go.Proofs.Tryz.prog 25 _ _ _).info; exact ⟨i, h1, h2⟩), by decide⟩
instance : FO Go.Proofs.Tryz.prog 27 3 5 3 := ⟨_, _, Go.Proofs.Tryz.underlying27, rfl, rfl, (by obtain ⟨i, h1, _, h2, _⟩ := (inferInstance : TI Go.Proofs.Tryz.prog 25 _ _ _).info; exact ⟨i, h1, h2⟩), by decide⟩
instance : FO Go.Proofs.Tryz.prog 67 0 0 1 := ⟨_, _, Go.Proofs.Tryz.underlying67, rfl, rfl, (by obtain ⟨i, h1, _, h2, _⟩ := (inferInstance : TI Go.Proofs.Tryz.prog 4 _ _ _).info; exact ⟨i, h1, h2⟩), by decide⟩
instance : FO Go.Proofs.Tryz.prog 67 1 1 1 := ⟨_, _, Go.Proofs.Tryz.underlying67, rfl, rfl, (by obtain ⟨i, h1, _, h2, _⟩ := (inferInstance : TI Go.Proofs.Tryz.prog 66 _ _ _).info; exact ⟨i, h1, h2⟩), by decide⟩
instance : FO Go.Proofs.Tryz.prog 68 0 0 1 := ⟨_, _, Go.Proofs.Tryz.underlying68, rfl, rfl, (by obtain ⟨i, h1, _, h2, _⟩ := (inferInstance : TI Go.Proofs.Tryz.prog 4 _ _ _).info; exact ⟨i, h1, h2⟩), by decide⟩
instance : FO Go.Proofs.Tryz.prog 68 1 1 1 := ⟨_, _, Go.Proofs.Tryz.underlying68, rfl, rfl, (by obtain ⟨i, h1, _, h2, _⟩ := (inferInstance : TI Go.Proofs.Tryz.prog 66 _ _ _).info; exact ⟨i, h1, h2⟩), by decide⟩
instance : FO Go.Proofs.Tryz.prog 79 0 0 1 := ⟨_, _, Go.Proofs.Tryz.underlying79, rfl, rfl, (by obtain ⟨i, h1, _, h2, _⟩ := (inferInstance : TI Go.Proofs.Tryz.prog 78 _ _ _).info; exact ⟨i, h1, h2⟩), by decide⟩
instance : FO Go.Proofs.Tryz.prog 79 1 1 1 := ⟨_, _, Go.Proofs.Tryz.underlying79, rfl, rfl, (by obtain ⟨i, h1, _, h2, _⟩ := (inferInstance : TI Go.Proofs.Tryz.prog 4 _ _ _).info; exact ⟨i, h1, h2⟩), by decide⟩
instance : FO Go.Proofs.Tryz.prog 80 0 0 1 := ⟨_, _, Go.Proofs.Tryz.underlying80, rfl, rfl, (by obtain ⟨i, h1, _, h2, _⟩ := (inferInstance : TI Go.Proofs.Tryz.prog 78 _ _ _).info; exact ⟨i, h1, h2⟩), by decide⟩
instance : FO Go.Proofs.Tryz.prog 80 1 1 1 := ⟨_, _, Go.Proofs.Tryz.underlying80, rfl, rfl, (by obtain ⟨i, h1, _, h2, _⟩ := (inferInstance : TI Go.Proofs.Tryz.prog 4 _ _ _).info; exact ⟨i, h1, h2⟩), by decide⟩
instance : FO Go.Proofs.Tryz.prog 119 0 0 1 := ⟨_, _, Go.Proofs.Tryz.underlying119, rfl, rfl, (by obtain ⟨i, h1, _, h2, _⟩ := (inferInstance : TI Go.Proofs.Tryz.prog 118 _ _ _).info; exact ⟨i, h1, h2⟩), by decide⟩
instance : FO Go.Proofs.Tryz.prog 120 0 0 1 := ⟨_, _, Go.Proofs.Tryz.underlying120, rfl, rfl, (by obtain ⟨i, h1, _, h2, _⟩ := (inferInstance : TI Go.Proofs.Tryz.prog 118 _ _ _).info; exact ⟨i, h1, h2⟩), by decide⟩
instance : FO Go.Proofs.Tryz.prog 136 0 0 1 := ⟨_, _, Go.Proofs.Tryz.underlying136, rfl, rfl, (by obtain ⟨i, h1, _, h2, _⟩ := (inferInstance : TI Go.Proofs.Tryz.prog 134 _ _ _).info; exact ⟨i, h1, h2⟩), by decide⟩
instance : FO Go.Proofs.Tryz.prog 136 1 1 1 := ⟨_, _, Go.Proofs.Tryz.underlying136, rfl, rfl, (by obtain ⟨i, h1, _, h2, _⟩ := (inferInstance : TI Go.Proofs.Tryz.prog 135 _ _ _).info; exact ⟨i, h1, h2⟩), by decide⟩
instance : FO Go.Proofs.Tryz.prog 137 0 0 1 := ⟨_, _, Go.Proofs.Tryz.underlying137, rfl, rfl, (by obtain ⟨i, h1, _, h2, _⟩ := (inferInstance : TI Go.Proofs.Tryz.prog 134 _ _ _).info; exact ⟨i, h1, h2⟩), by decide⟩
instance : FO Go.Proofs.Tryz.prog 137 1 1 1 := ⟨_, _, Go.Proofs.Tryz.underlying137, rfl, rfl, (by obtain ⟨i, h1, _, h2, _⟩ := (inferInstance : TI Go.Proofs.Tryz.prog 135 _ _ _).info; exact ⟨i, h1, h2⟩), by decide⟩
instance : FO Go.Proofs.Tryz.prog 152 0 0 1 := ⟨_, _, Go.Proofs.Tryz.underlying152, rfl, rfl, (by obtain ⟨i, h1, _, h2, _⟩ := (inferInstance : TI Go.Proofs.Tryz.prog 9 _ _ _).info; exact ⟨i, h1, h2⟩), by decide⟩
instance : FO Go.Proofs.Tryz.prog 152 1 1 1 := ⟨_, _, Go.Proofs.Tryz.underlying152, rfl, rfl, (by obtain ⟨i, h1, _, h2, _⟩ := (inferInstance : TI Go.Proofs.Tryz.prog 9 _ _ _).info; exact ⟨i, h1, h2⟩), by decide⟩
instance : FO Go.Proofs.Tryz.prog 152 2 2 1 := ⟨_, _, Go.Proofs.Tryz.underlying152, rfl, rfl, (by obtain ⟨i, h1, _, h2, _⟩ := (inferInstance : TI Go.Proofs.Tryz.prog 71 _ _ _).info; exact ⟨i, h1, h2⟩), by decide⟩
instance : FO Go.Proofs.Tryz.prog 153 0 0 1 := ⟨_, _, Go.Proofs.Tryz.underlying153, rfl, rfl, (by obtain ⟨i, h1, _, h2, _⟩ := (inferInstance : TI Go.Proofs.Tryz.prog 9 _ _ _).info; exact ⟨i, h1, h2⟩), by decide⟩
instance : FO Go.Proofs.Tryz.prog 153 1 1 1 := ⟨_, _, Go.Proofs.Tryz.underlying153, rfl, rfl, (by obtain ⟨i, h1, _, h2, _⟩ := (inferInstance : TI Go.Proofs.Tryz.prog 9 _ _ _).info; exact ⟨i, h1, h2⟩), by decide⟩
instance : FO Go.Proofs.Tryz.prog 153 2 2 1 := ⟨_, _, Go.Proofs.Tryz.underlying153, rfl, rfl, (by obtain ⟨i, h1, _, h2, _⟩ := (inferInstance : TI Go.Proofs.Tryz.prog 71 _ _ _).info; exact ⟨i, h1, h2⟩), by decide⟩
instance : FO Go.Proofs.Tryz.prog 166 0 0 1 := ⟨_, _, Go.Proofs.Tryz.underlying166, rfl, rfl, (by obtain ⟨i, h1, _, h2, _⟩ := (inferInstance : TI Go.Proofs.Tryz.prog 9 _ _ _).info; exact ⟨i, h1, h2⟩), by decide⟩
instance : FO Go.Proofs.Tryz.prog 167 0 0 1 := ⟨_, _, Go.Proofs.Tryz.underlying167, rfl, rfl, (by obtain ⟨i, h1, _, h2, _⟩ := (inferInstance : TI Go.Proofs.Tryz.prog 9 _ _ _).info; exact ⟨i, h1, h2⟩), by decide⟩
instance : FO Go.Proofs.Tryz.prog 173 0 0 1 := ⟨_, _, Go.Proofs.Tryz.underlying173, rfl, rfl, (by obtain ⟨i, h1, _, h2, _⟩ := (inferInstance : TI Go.Proofs.Tryz.prog 17 _ _ _).info; exact ⟨i, h1, h2⟩), by decide⟩
instance : FO Go.Proofs.Tryz.prog 173 1 1 1 := ⟨_, _, Go.Proofs.Tryz.underlying173, rfl, rfl, (by obtain ⟨i, h1, _, h2, _⟩ := (inferInstance : TI Go.Proofs.Tryz.prog 17 _ _ _).info; exact ⟨i, h1, h2⟩), by decide⟩
instance : FO Go.Proofs.Tryz.prog 173 2 2 1 := ⟨_, _, Go.Proofs.Tryz.underlying173, rfl, rfl, (by obtain ⟨i, h1, _, h2, _⟩ := (inferInstance : TI Go.Proofs.Tryz.prog 17 _ _ _).info; exact ⟨i, h1, h2⟩), by decide⟩
instance : FO Go.Proofs.Tryz.prog 173 3 3 1 := ⟨_, _, Go.Proofs.Tryz.underlying173, rfl, rfl, (by obtain ⟨i, h1, _, h2, _⟩ := (inferInstance : TI Go.Proofs.Tryz.prog 9 _ _ _).info; exact ⟨i, h1, h2⟩), by decide⟩
instance : FO Go.Proofs.Tryz.prog 174 0 0 1 := ⟨_, _, Go.Proofs.Tryz.underlying174, rfl, rfl, (by obtain ⟨i, h1, _, h2, _⟩ := (inferInstance : TI Go.Proofs.Tryz.prog 17 _ _ _).info; exact ⟨i, h1, h2⟩), by decide⟩
instance : FO Go.Proofs.Tryz.prog 174 1 1 1 := ⟨_, _, Go.Proofs.Tryz.underlying174, rfl, rfl, (by obtain ⟨i, h1, _, h2, _⟩ := (inferInstance : TI Go.Proofs.Tryz.prog 17 _ _ _).info; exact ⟨i, h1, h2⟩), by decide⟩
instance : FO Go.Proofs.Tryz.prog 174 2 2 1 := ⟨_, _, Go.Proofs.Tryz.underlying174, rfl, rfl, (by obtain ⟨i, h1, _, h2, _⟩ := (inferInstance : TI Go.Proofs.Tryz.prog 17 _ _ _).info; exact ⟨i, h1, h2⟩), by decide⟩
instance : FO Go.Proofs.Tryz.prog 174 3 3 1 := ⟨_, _, Go.Proofs.Tryz.underlying174, rfl, rfl, (by obtain ⟨i, h1, _, h2, _⟩ := (inferInstance : TI Go.Proofs.Tryz.prog 9 _ _ _).info; exact ⟨i, h1, h2⟩), by decide⟩
instance : FO Go.Proofs.Tryz.prog 183 0 0 1 := ⟨_, _, Go.Proofs.Tryz.underlying183, rfl, rfl, (by obtain ⟨i, h1, _, h2, _⟩ := (inferInstance : TI Go.Proofs.Tryz.prog 12 _ _ _).info; exact ⟨i, h1, h2⟩), by decide⟩
instance : FO Go.Proofs.Tryz.prog 183 1 1 1 := ⟨_, _, Go.Proofs.Tryz.underlying183, rfl, rfl, (by obtain ⟨i, h1, _, h2, _⟩ := (inferInstance : TI Go.Proofs.Tryz.prog 12 _ _ _).info; exact ⟨i, h1, h2⟩), by decide⟩
instance : FO Go.Proofs.Tryz.prog 183 2 2 1 := ⟨_, _, Go.Proofs.Tryz.underlying183, rfl, rfl, (by obtain ⟨i, h1, _, h2, _⟩ := (inferInstance : TI Go.Proofs.Tryz.prog 91 _ _ _).info; exact ⟨i, h1, h2⟩), by decide⟩
instance : FO Go.Proofs.Tryz.prog 183 3 3 1 := ⟨_, _, Go.Proofs.Tryz.underlying183, rfl, rfl, (by obtain ⟨i, h1, _, h2, _⟩ := (inferInstance : TI Go.Proofs.Tryz.prog 178 _ _ _).info; exact ⟨i, h1, h2⟩), by decide⟩
instance : FO Go.Proofs.Tryz.prog 183 4 4 1 := ⟨_, _, Go.Proofs.Tryz.underlying183, rfl, rfl, (by obtain ⟨i, h1, _, h2, _⟩ := (inferInstance : TI Go.Proofs.Tryz.prog 5 _ _ _).info; exact ⟨i, h1, h2⟩), by decide⟩
instance : FO Go.Proofs.Tryz.prog 183 5 5 1 := ⟨_, _, Go.Proofs.Tryz.underlying183, rfl, rfl, (by obtain ⟨i, h1, _, h2, _⟩ := (inferInstance : TI Go.Proofs.Tryz.prog 5 _ _ _).info; exact ⟨i, h1, h2⟩), by decide⟩
instance : FO Go.Proofs.Tryz.prog 183 6 6 1 := ⟨_, _, Go.Proofs.Tryz.underlying183, rfl, rfl, (by obtain ⟨i, h1, _, h2, _⟩ := (inferInstance : TI Go.Proofs.Tryz.prog 179 _ _ _).info; exact ⟨i, h1, h2⟩), by decide⟩
instance : FO Go.Proofs.Tryz.prog 183 7 7 1 := ⟨_, _, Go.Proofs.Tryz.underlying183, rfl, rfl, (by obtain ⟨i, h1, _, h2, _⟩ := (inferInstance : TI Go.Proofs.Tryz.prog 180 _ _ _).info; exact ⟨i, h1, h2⟩), by decide⟩
instance : FO Go.Proofs.Tryz.prog 183 8 8 1 := ⟨_, _, Go.Proofs.Tryz.underlying183, rfl, rfl, (by obtain ⟨i, h1, _, h2, _⟩ := (inferInstance : TI Go.Proofs.Tryz.prog 158 _ _ _).info; exact ⟨i, h1, h2⟩), by decide⟩
instance : FO Go.Proofs.Tryz.prog 183 9 9 1 := ⟨_, _, Go.Proofs.Tryz.underlying183, rfl, rfl, (by obtain ⟨i, h1, _, h2, _⟩ := (inferInstance : TI Go.Proofs.Tryz.prog 181 _ _ _).info; exact ⟨i, h1, h2⟩), by decide⟩
instance : FO Go.Proofs.Tryz.prog 183 10 10 1 := ⟨_, _, Go.Proofs.Tryz.underlying183, rfl, rfl, (by obtain ⟨i, h1, _, h2, _⟩ := (inferInstance : TI Go.Proofs.Tryz.prog 182 _ _ _).info; exact ⟨i, h1, h2⟩), by decide⟩
instance : FO Go.Proofs.Tryz.prog 184 0 0 1 := ⟨_, _, Go.Proofs.Tryz.underlying184, rfl, rfl, (by obtain ⟨i, h1, _, h2, _⟩ := (inferInstance : TI Go.Proofs.Tryz.prog 12 _ _ _).info; exact ⟨i, h1, h2⟩), by decide⟩
instance : FO Go.Proofs.Tryz.prog 184 1 1 1 := ⟨_, _, Go.Proofs.Tryz.underlying184, rfl, rfl, (by obtain ⟨i, h1, _, h2, _⟩ := (inferInstance : TI Go.Proofs.Tryz.prog 12 _ _ _).info; exact ⟨i, h1, h2⟩), by decide⟩
instance : FO Go.Proofs.Tryz.prog 184 2 2 1 := ⟨_, _, Go.Proofs.Tryz.underlying184, rfl, rfl, (by obtain ⟨i, h1, _, h2, _⟩ := (inferInstance : TI Go.Proofs.Tryz.prog 91 _ _ _).info; exact ⟨i, h1, h2⟩), by decide⟩
instance : FO Go.Proofs.Tryz.prog 184 3 3 1 := ⟨_, _, Go.Proofs.Tryz.underlying184, rfl, rfl, (by obtain ⟨i, h1, _, h2, _⟩ := (inferInstance : TI Go.Proofs.Tryz.prog 178 _ _ _).info; exact ⟨i, h1, h2⟩), by decide⟩
instance : FO Go.Proofs.Tryz.prog 184 4 4 1 := ⟨_, _, Go.Proofs.Tryz.underlying184, rfl, rfl, (by obtain ⟨i, h1, _, h2, _⟩ := (inferInstance : TI Go.Proofs.Tryz.prog 5 _ _ _).info; exact ⟨i, h1, h2⟩), by decide⟩
instance : FO Go.Proofs.Tryz.prog 184 5 5 1 := ⟨_, _, Go.Proofs.Tryz.underlying184, rfl, rfl, (by obtain ⟨i, h1, _, h2, _⟩ := (inferInstance : TI Go.Proofs.Tryz.prog 5 _ _ _).info; exact ⟨i, h1, h2⟩), by decide⟩
instance : FO Go.Proofs.Tryz.prog 184 6 6 1 := ⟨_, _, Go.Proofs.Tryz.underlying184, rfl, rfl, (by obtain ⟨i, h1, _, h2, _⟩ := (inferInstance : TI Go.Proofs.Tryz.prog 179 _ _ _).info; exact ⟨i, h1, h2⟩), by decide⟩
instance : FO Go.Proofs.Tryz.prog 184 7 7 1 := ⟨_, _, Go.Proofs.Tryz.underlying184, rfl, rfl, (by obtain ⟨i, h1, _, h2, _⟩ := (inferInstance : TI Go.Proofs.Tryz.prog 180 _ _ _).info; exact ⟨i, h1, h2⟩), by decide⟩
instance : FO Go.Proofs.Tryz.prog 184 8 8 1 := ⟨_, _, Go.Proofs.Tryz.underlying184, rfl, rfl, (by obtain ⟨i, h1, _, h2, _⟩ := (inferInstance : TI Go.Proofs.Tryz.prog 158 _ _ _).info; exact ⟨i, h1, h2⟩), by decide⟩
instance : FO Go.Proofs.Tryz.prog 184 9 9 1 := ⟨_, _, Go.Proofs.Tryz.underlying184, rfl, rfl, (by obtain ⟨i, h1, _, h2, _⟩ := (inferInstance : TI Go.Proofs.Tryz.prog 181 _ _ _).info; exact ⟨i, h1, h2⟩), by decide⟩
instance : FO Go.Proofs.Tryz.prog 184 10 10 1 := ⟨_, _, Go.Proofs.Tryz.underlying184, rfl, rfl, (by obtain ⟨i, h1, _, h2, _⟩ := (inferInstance : TI Go.Proofs.Tryz.prog 182 _ _ _).info; exact ⟨i, h1, h2⟩), by decide⟩
instance : Body Go.Proofs.Tryz.prog 3 := Body.mk' Go.Proofs.Tryz.func3 (by kernel_rfl) (by kernel_rfl)
instance : Body Go.Proofs.Tryz.prog 4 := Body.mk' Go.Proofs.Tryz.func4 (by kernel_rfl) (by kernel_rfl)
instance : Body Go.Proofs.Tryz.prog 5 := Body.mk' Go.Proofs.Tryz.func5 (by kernel_rfl) (by kernel_rfl)
instance : Body Go.Proofs.Tryz.prog 6 := Body.mk' Go.Proofs.Tryz.func6 (by kernel_rfl) (by kernel_rfl)
instance : Body Go.Proofs.Tryz.prog 7 := Body.mk' Go.Proofs.Tryz.func7 (by kernel_rfl) (by kernel_rfl)
instance : Body Go.Proofs.Tryz.prog 8 := Body.mk' Go.Proofs.Tryz.func8 (by kernel_rfl) (by kernel_rfl)
instance : Body Go.Proofs.Tryz.prog 9 := Body.mk' Go.Proofs.Tryz.func9 (by kernel_rfl) (by kernel_rfl)
instance : Body Go.Proofs.Tryz.prog 10 := Body.mk' Go.Proofs.Tryz.func10 (by kernel_rfl) (by kernel_rfl)
instance : Body Go.Proofs.Tryz.prog 11 := Body.mk' Go.Proofs.Tryz.func11 (by kernel_rfl) (by kernel_rfl)
instance : Body Go.Proofs.Tryz.prog 12 := Body.mk' Go.Proofs.Tryz.func12 (by kernel_rfl) (by kernel_rfl)
instance : Body Go.Proofs.Tryz.prog 13 := Body.mk' Go.Proofs.Tryz.func13 (by kernel_rfl) (by kernel_rfl)
instance : Body Go.Proofs.Tryz.prog 14 := Body.mk' Go.Proofs.Tryz.func14 (by kernel_rfl) (by kernel_rfl)
instance : Body Go.Proofs.Tryz.prog 15 := Body.mk' Go.Proofs.Tryz.func15 (by kernel_rfl) (by kernel_rfl)
instance : Body Go.Proofs.Tryz.prog 16 := Body.mk' Go.Proofs.Tryz.func16 (by kernel_rfl) (by kernel_rfl)
instance : Body Go.Proofs.Tryz.prog 17 := Body.mk' Go.Proofs.Tryz.func17 (by kernel_rfl) (by kernel_rfl)
instance : Body Go.Proofs.Tryz.prog 18 := Body.mk' Go.Proofs.Tryz.func18 (by kernel_rfl) (by kernel_rfl)
instance : Body Go.Proofs.Tryz.prog 19 := Body.mk' Go.Proofs.Tryz.func19 (by kernel_rfl) (by kernel_rfl)
instance : Body Go.Proofs.Tryz.prog 20 := Body.mk' Go.Proofs.Tryz.func20 (by kernel_rfl) (by kernel_rfl)
instance : Body Go.Proofs.Tryz.prog 21 := Body.mk' Go.Proofs.Tryz.func21 (by kernel_rfl) (by kernel_rfl)
instance : Body Go.Proofs.Tryz.prog 22 := Body.mk' Go.Proofs.Tryz.func22 (by kernel_rfl) (by kernel_rfl)
instance : Body Go.Proofs.Tryz.prog 23 := Body.mk' Go.Proofs.Tryz.func23 (by kernel_rfl) (by kernel_rfl)
instance : Body Go.Proofs.Tryz.prog 24 := Body.mk' Go.Proofs.Tryz.func24 (by kernel_rfl) (by kernel_rfl)
instance : Body Go.Proofs.Tryz.prog 25 := Body.mk' Go.Proofs.Tryz.func25 (by kernel_rfl) (by kernel_rfl)
instance : Body Go.Proofs.Tryz.prog 26 := Body.mk' Go.Proofs.Tryz.func26 (by kernel_rfl) (by kernel_rfl)
instance : Body Go.Proofs.Tryz.prog 27 := Body.mk' Go.Proofs.Tryz.func27 (by kernel_rfl) (by kernel_rfl)
instance : Body Go.Proofs.Tryz.prog 28 := Body.mk' Go.Proofs.Tryz.func28 (by kernel_rfl) (by kernel_rfl)
instance : Body Go.Proofs.Tryz.prog 29 := Body.mk' Go.Proofs.Tryz.func29 (by kernel_rfl) (by kernel_rfl)
instance : Body Go.Proofs.Tryz.prog 30 := Body.mk' Go.Proofs.Tryz.func30 (by kernel_rfl) (by kernel_rfl)
instance : Body Go.Proofs.Tryz.prog 31 := Body.mk' Go.Proofs.Tryz.func31 (by kernel_rfl) (by kernel_rfl)
instance : Body Go.Proofs.Tryz.prog 32 := Body.mk' Go.Proofs.Tryz.func32 (by kernel_rfl) (by kernel_rfl)
instance : Body Go.Proofs.Tryz.prog 33 := Body.mk' Go.Proofs.Tryz.func33 (by kernel_rfl) (by kernel_rfl)
instance : Body Go.Proofs.Tryz.prog 34 := Body.mk' Go.Proofs.Tryz.func34 (by kernel_rfl) (by kernel_rfl)
instance : Body Go.Proofs.Tryz.prog 35 := Body.mk' Go.Proofs.Tryz.func35 (by kernel_rfl) (by kernel_rfl)
instance : Body Go.Proofs.Tryz.prog 36 := Body.mk' Go.Proofs.Tryz.func36 (by kernel_rfl) (by kernel_rfl)
instance : Body Go.Proofs.Tryz.prog 37 := Body.mk' Go.Proofs.Tryz.func37 (by kernel_rfl) (by kernel_rfl)
instance : Body Go.Proofs.Tryz.prog 38 := Body.mk' Go.Proofs.Tryz.func38 (by kernel_rfl) (by kernel_rfl)
instance : Body Go.Proofs.Tryz.prog 39 := Body.mk' Go.Proofs.Tryz.func39 (by kernel_rfl) (by kernel_rfl)
instance : Body Go.Proofs.Tryz.prog 40 := Body.mk' Go.Proofs.Tryz.func40 (by kernel_rfl) (by kernel_rfl)
instance : Body Go.Proofs.Tryz.prog 41 := Body.mk' Go.Proofs.Tryz.func41 (by kernel_rfl) (by kernel_rfl)
instance : Body Go.Proofs.Tryz.prog 42 := Body.mk' Go.Proofs.Tryz.func42 (by kernel_rfl) (by kernel_rfl)
instance : Body Go.Proofs.Tryz.prog 43 := Body.mk' Go.Proofs.Tryz.func43 (by kernel_rfl) (by kernel_rfl)
instance : Body Go.Proofs.Tryz.prog 44 := Body.mk' Go.Proofs.Tryz.func44 (by kernel_rfl) (by kernel_rfl)
instance : Body Go.Proofs.Tryz.prog 45 := Body.mk' Go.Proofs.Tryz.func45 (by kernel_rfl) (by kernel_rfl)
instance : Body Go.Proofs.Tryz.prog 46 := Body.mk' Go.Proofs.Tryz.func46 (by kernel_rfl) (by kernel_rfl)
instance : Body Go.Proofs.Tryz.prog 47 := Body.mk' Go.Proofs.Tryz.func47 (by kernel_rfl) (by kernel_rfl)
instance : Body Go.Proofs.Tryz.prog 48 := Body.mk' Go.Proofs.Tryz.func48 (by kernel_rfl) (by kernel_rfl)
instance : Body Go.Proofs.Tryz.prog 49 := Body.mk' Go.Proofs.Tryz.func49 (by kernel_rfl) (by kernel_rfl)
instance : Body Go.Proofs.Tryz.prog 50 := Body.mk' Go.Proofs.Tryz.func50 (by kernel_rfl) (by kernel_rfl)
instance : Body Go.Proofs.Tryz.prog 51 := Body.mk' Go.Proofs.Tryz.func51 (by kernel_rfl) (by kernel_rfl)
instance : Body Go.Proofs.Tryz.prog 52 := Body.mk' Go.Proofs.Tryz.func52 (by kernel_rfl) (by kernel_rfl)
instance : Body Go.Proofs.Tryz.prog 53 := Body.mk' Go.Proofs.Tryz.func53 (by kernel_rfl) (by kernel_rfl)
instance : Body Go.Proofs.Tryz.prog 54 := Body.mk' Go.Proofs.Tryz.func54 (by kernel_rfl) (by kernel_rfl)
instance : Body Go.Proofs.Tryz.prog 55 := Body.mk' Go.Proofs.Tryz.func55 (by kernel_rfl) (by kernel_rfl)
instance : Body Go.Proofs.Tryz.prog 56 := Body.mk' Go.Proofs.Tryz.func56 (by kernel_rfl) (by kernel_rfl)
instance : Body Go.Proofs.Tryz.prog 57 := Body.mk' Go.Proofs.Tryz.func57 (by kernel_rfl) (by kernel_rfl)
instance : Body Go.Proofs.Tryz.prog 58 := Body.mk' Go.Proofs.Tryz.func58 (by kernel_rfl) (by kernel_rfl)
instance : Body Go.Proofs.Tryz.prog 59 := Body.mk' Go.Proofs.Tryz.func59 (by kernel_rfl) (by kernel_rfl)
instance : Body Go.Proofs.Tryz.prog 60 := Body.mk' Go.Proofs.Tryz.func60 (by kernel_rfl) (by kernel_rfl)
instance : Body Go.Proofs.Tryz.prog 61 := Body.mk' Go.Proofs.Tryz.func61 (by kernel_rfl) (by kernel_rfl)
instance : Body Go.Proofs.Tryz.prog 62 := Body.mk' Go.Proofs.Tryz.func62 (by kernel_rfl) (by kernel_rfl)
instance : Body Go.Proofs.Tryz.prog 63 := Body.mk' Go.Proofs.Tryz.func63 (by kernel_rfl) (by kernel_rfl)
instance : Body Go.Proofs.Tryz.prog 64 := Body.mk' Go.Proofs.Tryz.func64 (by kernel_rfl) (by kernel_rfl)
instance : Body Go.Proofs.Tryz.prog 65 := Body.mk' Go.Proofs.Tryz.func65 (by kernel_rfl) (by kernel_rfl)
instance : Body Go.Proofs.Tryz.prog 66 := Body.mk' Go.Proofs.Tryz.func66 (by kernel_rfl) (by kernel_rfl)
instance : Body Go.Proofs.Tryz.prog 67 := Body.mk' Go.Proofs.Tryz.func67 (by kernel_rfl) (by kernel_rfl)
instance : Body Go.Proofs.Tryz.prog 68 := Body.mk' Go.Proofs.Tryz.func68 (by kernel_rfl) (by kernel_rfl)
instance : Body Go.Proofs.Tryz.prog 69 := Body.mk' Go.Proofs.Tryz.func69 (by kernel_rfl) (by kernel_rfl)
instance : Body Go.Proofs.Tryz.prog 70 := Body.mk' Go.Proofs.Tryz.func70 (by kernel_rfl) (by kernel_rfl)
instance : Body Go.Proofs.Tryz.prog 71 := Body.mk' Go.Proofs.Tryz.func71 (by kernel_rfl) (by kernel_rfl)
instance : Body Go.Proofs.Tryz.prog 72 := Body.mk' Go.Proofs.Tryz.func72 (by kernel_rfl) (by kernel_rfl)
instance : Body Go.Proofs.Tryz.prog 73 := Body.mk' Go.Proofs.Tryz.func73 (by kernel_rfl) (by kernel_rfl)
instance : Body Go.Proofs.Tryz.prog 74 := Body.mk' Go.Proofs.Tryz.func74 (by kernel_rfl) (by kernel_rfl)
instance : Body Go.Proofs.Tryz.prog 75 := Body.mk' Go.Proofs.Tryz.func75 (by kernel_rfl) (by kernel_rfl)
instance : Body Go.Proofs.Tryz.prog 76 := Body.mk' Go.Proofs.Tryz.func76 (by kernel_rfl) (by kernel_rfl)
instance : Body Go.Proofs.Tryz.prog 77 := Body.mk' Go.Proofs.Tryz.func77 (by kernel_rfl) (by kernel_rfl)
instance : Body Go.Proofs.Tryz.prog 78 := Body.mk' Go.Proofs.Tryz.func78 (by kernel_rfl) (by kernel_rfl)
instance : Body Go.Proofs.Tryz.prog 79 := Body.mk' Go.Proofs.Tryz.func79 (by kernel_rfl) (by kernel_rfl)
instance : Body Go.Proofs.Tryz.prog 80 := Body.mk' Go.Proofs.Tryz.func80 (by kernel_rfl) (by kernel_rfl)
instance : Body Go.Proofs.Tryz.prog 81 := Body.mk' Go.Proofs.Tryz.func81 (by kernel_rfl) (by kernel_rfl)
instance : Body Go.Proofs.Tryz.prog 82 := Body.mk' Go.Proofs.Tryz.func82 (by kernel_rfl) (by kernel_rfl)
instance : Body Go.Proofs.Tryz.prog 83 := Body.mk' Go.Proofs.Tryz.func83 (by kernel_rfl) (by kernel_rfl)
instance : Body Go.Proofs.Tryz.prog 84 := Body.mk' Go.Proofs.Tryz.func84 (by kernel_rfl) (by kernel_rfl)
instance : Body Go.Proofs.Tryz.prog 85 := Body.mk' Go.Proofs.Tryz.func85 (by kernel_rfl) (by kernel_rfl)
instance : Body Go.Proofs.Tryz.prog 86 := Body.mk' Go.Proofs.Tryz.func86 (by kernel_rfl) (by kernel_rfl)
instance : Body Go.Proofs.Tryz.prog 87 := Body.mk' Go.Proofs.Tryz.func87 (by kernel_rfl) (by kernel_rfl)
instance : Body Go.Proofs.Tryz.prog 88 := Body.mk' Go.Proofs.Tryz.func88 (by kernel_rfl) (by kernel_rfl)
instance : Body Go.Proofs.Tryz.prog 89 := Body.mk' Go.Proofs.Tryz.func89 (by kernel_rfl) (by kernel_rfl)
instance : Body Go.Proofs.Tryz.prog 90 := Body.mk' Go.Proofs.Tryz.func90 (by kernel_rfl) (by kernel_rfl)
instance : Body Go.Proofs.Tryz.prog 91 := Body.mk' Go.Proofs.Tryz.func91 (by kernel_rfl) (by kernel_rfl)
instance : Body Go.Proofs.Tryz.prog 92 := Body.mk' Go.Proofs.Tryz.func92 (by kernel_rfl) (by kernel_rfl)
instance : Body Go.Proofs.Tryz.prog 93 := Body.mk' Go.Proofs.Tryz.func93 (by kernel_rfl) (by kernel_rfl)
instance : Body Go.Proofs.Tryz.prog 94 := Body.mk' Go.Proofs.Tryz.func94 (by kernel_rfl) (by kernel_rfl)
instance : Body Go.Proofs.Tryz.prog 95 := Body.mk' Go.Proofs.Tryz.func95 (by kernel_rfl) (by kernel_rfl)
instance : Body Go.Proofs.Tryz.prog 96 := Body.mk' Go.Proofs.Tryz.func96 (by kernel_rfl) (by kernel_rfl)
instance : Body Go.Proofs.Tryz.prog 97 := Body.mk' Go.Proofs.Tryz.func97 (by kernel_rfl) (by kernel_rfl)
instance : Body Go.Proofs.Tryz.prog 98 := Body.mk' Go.Proofs.Tryz.func98 (by kernel_rfl) (by kernel_rfl)
instance : Body Go.Proofs.Tryz.prog 99 := Body.mk' Go.Proofs.Tryz.func99 (by kernel_rfl) (by kernel_rfl)
instance : Body Go.Proofs.Tryz.prog 100 := Body.mk' Go.Proofs.Tryz.func100 (by kernel_rfl) (by kernel_rfl)
instance : Body Go.Proofs.Tryz.prog 101 := Body.mk' Go.Proofs.Tryz.func101 (by kernel_rfl) (by kernel_rfl)
instance : Body Go.Proofs.Tryz.prog 102 := Body.mk' Go.Proofs.Tryz.func102 (by kernel_rfl) (by kernel_rfl)
instance : Body Go.Proofs.Tryz.prog 103 := Body.mk' Go.Proofs.Tryz.func103 (by kernel_rfl) (by kernel_rfl)
instance : Body Go.Proofs.Tryz.prog 104 := Body.mk' Go.Proofs.Tryz.func104 (by kernel_rfl) (by kernel_rfl)
instance : Body Go.Proofs.Tryz.prog 105 := Body.mk' Go.Proofs.Tryz.func105 (by kernel_rfl) (by kernel_rfl)
instance : Body Go.Proofs.Tryz.prog 106 := Body.mk' Go.Proofs.Tryz.func106 (by kernel_rfl) (by kernel_rfl)
instance : Body Go.Proofs.Tryz.prog 107 := Body.mk' Go.Proofs.Tryz.func107 (by kernel_rfl) (by kernel_rfl)
instance : Body Go.Proofs.Tryz.prog 108 := Body.mk' Go.Proofs.Tryz.func108 (by kernel_rfl) (by kernel_rfl)
instance : Body Go.Proofs.Tryz.prog 109 := Body.mk' Go.Proofs.Tryz.func109 (by kernel_rfl) (by kernel_rfl)
instance : Body Go.Proofs.Tryz.prog 110 := Body.mk' Go.Proofs.Tryz.func110 (by kernel_rfl) (by kernel_rfl)
instance : Body Go.Proofs.Tryz.prog 111 := Body.mk' Go.Proofs.Tryz.func111 (by kernel_rfl) (by kernel_rfl)
instance : Body Go.Proofs.Tryz.prog 112 := Body.mk' Go.Proofs.Tryz.func112 (by kernel_rfl) (by kernel_rfl)
instance : Body Go.Proofs.Tryz.prog 113 := Body.mk' Go.Proofs.Tryz.func113 (by kernel_rfl) (by kernel_rfl)
instance : Body Go.Proofs.Tryz.prog 114 := Body.mk' Go.Proofs.Tryz.func114 (by kernel_rfl) (by kernel_rfl)
instance : Body Go.Proofs.Tryz.prog 115 := Body.mk' Go.Proofs.Tryz.func115 (by kernel_rfl) (by kernel_rfl)
instance : Body Go.Proofs.Tryz.prog 116 := Body.mk' Go.Proofs.Tryz.func116 (by kernel_rfl) (by kernel_rfl)
instance : Body Go.Proofs.Tryz.prog 117 := Body.mk' Go.Proofs.Tryz.func117 (by kernel_rfl) (by kernel_rfl)
instance : Body Go.Proofs.Tryz.prog 118 := Body.mk' Go.Proofs.Tryz.func118 (by kernel_rfl) (by kernel_rfl)
instance : Body Go.Proofs.Tryz.prog 119 := Body.mk' Go.Proofs.Tryz.func119 (by kernel_rfl) (by kernel_rfl)
instance : Body Go.Proofs.Tryz.prog 120 := Body.mk' Go.Proofs.Tryz.func120 (by kernel_rfl) (by kernel_rfl)
instance : Body Go.Proofs.Tryz.prog 121 := Body.mk' Go.Proofs.Tryz.func121 (by kernel_rfl) (by kernel_rfl)
instance : Body Go.Proofs.Tryz.prog 122 := Body.mk' Go.Proofs.Tryz.func122 (by kernel_rfl) (by kernel_rfl)
instance : Body Go.Proofs.Tryz.prog 123 := Body.mk' Go.Proofs.Tryz.func123 (by kernel_rfl) (by kernel_rfl)
instance : Body Go.Proofs.Tryz.prog 124 := Body.mk' Go.Proofs.Tryz.func124 (by kernel_rfl) (by kernel_rfl)
instance : Body Go.Proofs.Tryz.prog 125 := Body.mk' Go.Proofs.Tryz.func125 (by kernel_rfl) (by kernel_rfl)
instance : Body Go.Proofs.Tryz.prog 126 := Body.mk' Go.Proofs.Tryz.func126 (by kernel_rfl) (by kernel_rfl)
instance : Body Go.Proofs.Tryz.prog 127 := Body.mk' Go.Proofs.Tryz.func127 (by kernel_rfl) (by kernel_rfl)
instance : Body Go.Proofs.Tryz.prog 128 := Body.mk' Go.Proofs.Tryz.func128 (by kernel_rfl) (by kernel_rfl)
instance : Body Go.Proofs.Tryz.prog 129 := Body.mk' Go.Proofs.Tryz.func129 (by kernel_rfl) (by kernel_rfl)
instance : Body Go.Proofs.Tryz.prog 130 := Body.mk' Go.Proofs.Tryz.func130 (by kernel_rfl) (by kernel_rfl)
instance : Body Go.Proofs.Tryz.prog 131 := Body.mk' Go.Proofs.Tryz.func131 (by kernel_rfl) (by kernel_rfl)
instance : Body Go.Proofs.Tryz.prog 132 := Body.mk' Go.Proofs.Tryz.func132 (by kernel_rfl) (by kernel_rfl)
instance : Body Go.Proofs.Tryz.prog 133 := Body.mk' Go.Proofs.Tryz.func133 (by kernel_rfl) (by kernel_rfl)
instance : Body Go.Proofs.Tryz.prog 134 := Body.mk' Go.Proofs.Tryz.func134 (by kernel_rfl) (by kernel_rfl)
instance : Body Go.Proofs.Tryz.prog 135 := Body.mk' Go.Proofs.Tryz.func135 (by kernel_rfl) (by kernel_rfl)
instance : Body Go.Proofs.Tryz.prog 136 := Body.mk' Go.Proofs.Tryz.func136 (by kernel_rfl) (by kernel_rfl)
instance : Body Go.Proofs.Tryz.prog 137 := Body.mk' Go.Proofs.Tryz.func137 (by kernel_rfl) (by kernel_rfl)
instance : Body Go.Proofs.Tryz.prog 138 := Body.mk' Go.Proofs.Tryz.func138 (by kernel_rfl) (by kernel_rfl)
instance : Body Go.Proofs.Tryz.prog 139 := Body.mk' Go.Proofs.Tryz.func139 (by kernel_rfl) (by kernel_rfl)
instance : Body Go.Proofs.Tryz.prog 140 := Body.mk' Go.Proofs.Tryz.func140 (by kernel_rfl) (by kernel_rfl)
instance : Body Go.Proofs.Tryz.prog 141 := Body.mk' Go.Proofs.Tryz.func141 (by kernel_rfl) (by kernel_rfl)
instance : Body Go.Proofs.Tryz.prog 143 := Body.mk' Go.Proofs.Tryz.func143 (by kernel_rfl) (by kernel_rfl)
instance : Body Go.Proofs.Tryz.prog 144 := Body.mk' Go.Proofs.Tryz.func144 (by kernel_rfl) (by kernel_rfl)
end Go.Proofs.YtfbhlfhecmhihaaGreatDoor
