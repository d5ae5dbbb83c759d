/- Instances on this translation's types and functions, printed by wip/sx/types.py. -/
import Derived.Test.YtldljckhfcoafaaGreatDoorSx5
import Derived.Test.YtldljckhfcoafaaGreatDoorProg
import Derived.KernelRfl
namespace Go.Proofs.YtldljckhfcoafaaGreatDoor
open Go Go.Sx
instance : Mix Go.Proofs.Tryz.prog := ⟨by kernel_rfl⟩
instance : TI Go.Proofs.Tryz.prog 0 (.tuple #[]) 1 0 := ⟨by kernel_rfl⟩
instance : UL Go.Proofs.Tryz.prog 1 (.func #[] #[] false) := ⟨Go.Proofs.Tryz.underlying1⟩
instance : TI Go.Proofs.Tryz.prog 1 (.nilFunc) 1 8 := ⟨by kernel_rfl⟩
instance : UL Go.Proofs.Tryz.prog 2 (.int .i64) := ⟨Go.Proofs.Tryz.underlying2⟩
instance : TI Go.Proofs.Tryz.prog 2 (.int .i64 0) 1 8 := ⟨by kernel_rfl⟩
instance : UL Go.Proofs.Tryz.prog 3 (.int .i64) := ⟨Go.Proofs.Tryz.underlying3⟩
instance : TI Go.Proofs.Tryz.prog 3 (.int .i64 0) 1 8 := ⟨by kernel_rfl⟩
instance : UL Go.Proofs.Tryz.prog 4 (.bool) := ⟨Go.Proofs.Tryz.underlying4⟩
instance : TI Go.Proofs.Tryz.prog 4 (.bool false) 1 1 := ⟨by kernel_rfl⟩
instance : UL Go.Proofs.Tryz.prog 5 (.int .u8) := ⟨Go.Proofs.Tryz.underlying5⟩
instance : TI Go.Proofs.Tryz.prog 5 (.int .u8 0) 1 1 := ⟨by kernel_rfl⟩
instance : UL Go.Proofs.Tryz.prog 6 (.int .u8) := ⟨Go.Proofs.Tryz.underlying6⟩
instance : TI Go.Proofs.Tryz.prog 6 (.int .u8 0) 1 1 := ⟨by kernel_rfl⟩
instance : UL Go.Proofs.Tryz.prog 7 (.struct #[{ name := "x", type := 2, offset := 0, embedded := false, tag := "", pkgPath := "runtime", byteOffset := 0 }, { name := "y", type := 3, offset := 1, embedded := false, tag := "", pkgPath := "runtime", byteOffset := 8 }, { name := "signed", type := 4, offset := 2, embedded := false, tag := "", pkgPath := "runtime", byteOffset := 16 }, { name := "code", type := 6, offset := 3, embedded := false, tag := "", pkgPath := "runtime", byteOffset := 17 }]) := ⟨Go.Proofs.Tryz.underlying7⟩
instance : TI Go.Proofs.Tryz.prog 7 (.agg #[.int .i64 0, .int .i64 0, .bool false, .int .u8 0]) 4 24 := ⟨by kernel_rfl⟩
instance : UL Go.Proofs.Tryz.prog 8 (.struct #[{ name := "x", type := 2, offset := 0, embedded := false, tag := "", pkgPath := "runtime", byteOffset := 0 }, { name := "y", type := 3, offset := 1, embedded := false, tag := "", pkgPath := "runtime", byteOffset := 8 }, { name := "signed", type := 4, offset := 2, embedded := false, tag := "", pkgPath := "runtime", byteOffset := 16 }, { name := "code", type := 6, offset := 3, embedded := false, tag := "", pkgPath := "runtime", byteOffset := 17 }]) := ⟨Go.Proofs.Tryz.underlying8⟩
instance : TI Go.Proofs.Tryz.prog 8 (.agg #[.int .i64 0, .int .i64 0, .bool false, .int .u8 0]) 4 24 := ⟨by kernel_rfl⟩
instance : UL Go.Proofs.Tryz.prog 9 (.string) := ⟨Go.Proofs.Tryz.underlying9⟩
instance : TI Go.Proofs.Tryz.prog 9 (.string ⟨#[]⟩) 1 16 := ⟨by kernel_rfl⟩
instance : UL Go.Proofs.Tryz.prog 10 (.string) := ⟨Go.Proofs.Tryz.underlying10⟩
instance : TI Go.Proofs.Tryz.prog 10 (.string ⟨#[]⟩) 1 16 := ⟨by kernel_rfl⟩
instance : UL Go.Proofs.Tryz.prog 11 (.string) := ⟨Go.Proofs.Tryz.underlying11⟩
instance : TI Go.Proofs.Tryz.prog 11 (.string ⟨#[]⟩) 1 16 := ⟨by kernel_rfl⟩
instance : UL Go.Proofs.Tryz.prog 12 (.int .u64) := ⟨Go.Proofs.Tryz.underlying12⟩
instance : TI Go.Proofs.Tryz.prog 12 (.int .u64 0) 1 8 := ⟨by kernel_rfl⟩
instance : UL Go.Proofs.Tryz.prog 13 (.struct #[{ name := "msg", type := 9, offset := 0, embedded := false, tag := "", pkgPath := "runtime", byteOffset := 0 }, { name := "addr", type := 12, offset := 1, embedded := false, tag := "", pkgPath := "runtime", byteOffset := 16 }]) := ⟨Go.Proofs.Tryz.underlying13⟩
instance : TI Go.Proofs.Tryz.prog 13 (.agg #[.string ⟨#[]⟩, .int .u64 0]) 2 24 := ⟨by kernel_rfl⟩
instance : UL Go.Proofs.Tryz.prog 14 (.struct #[{ name := "msg", type := 9, offset := 0, embedded := false, tag := "", pkgPath := "runtime", byteOffset := 0 }, { name := "addr", type := 12, offset := 1, embedded := false, tag := "", pkgPath := "runtime", byteOffset := 16 }]) := ⟨Go.Proofs.Tryz.underlying14⟩
instance : TI Go.Proofs.Tryz.prog 14 (.agg #[.string ⟨#[]⟩, .int .u64 0]) 2 24 := ⟨by kernel_rfl⟩
instance : UL Go.Proofs.Tryz.prog 15 (.pointer 256) := ⟨Go.Proofs.Tryz.underlying15⟩
instance : TI Go.Proofs.Tryz.prog 15 (.pointer none) 1 8 := ⟨by kernel_rfl⟩
instance : UL Go.Proofs.Tryz.prog 16 (.pointer 259) := ⟨Go.Proofs.Tryz.underlying16⟩
instance : TI Go.Proofs.Tryz.prog 16 (.pointer none) 1 8 := ⟨by kernel_rfl⟩
instance : UL Go.Proofs.Tryz.prog 17 (.pointer 266) := ⟨Go.Proofs.Tryz.underlying17⟩
instance : TI Go.Proofs.Tryz.prog 17 (.pointer none) 1 8 := ⟨by kernel_rfl⟩
instance : UL Go.Proofs.Tryz.prog 18 (.struct #[{ name := "typ", type := 17, offset := 0, embedded := false, tag := "", pkgPath := "internal/runtime/maps", byteOffset := 0 }]) := ⟨Go.Proofs.Tryz.underlying18⟩
instance : TI Go.Proofs.Tryz.prog 18 (.agg #[.pointer none]) 1 8 := ⟨by kernel_rfl⟩
instance : UL Go.Proofs.Tryz.prog 19 (.struct #[{ name := "typ", type := 17, offset := 0, embedded := false, tag := "", pkgPath := "internal/runtime/maps", byteOffset := 0 }]) := ⟨Go.Proofs.Tryz.underlying19⟩
instance : TI Go.Proofs.Tryz.prog 19 (.agg #[.pointer none]) 1 8 := ⟨by kernel_rfl⟩
instance : UL Go.Proofs.Tryz.prog 21 (.int .i32) := ⟨Go.Proofs.Tryz.underlying21⟩
instance : TI Go.Proofs.Tryz.prog 21 (.int .i32 0) 1 4 := ⟨by kernel_rfl⟩
instance : UL Go.Proofs.Tryz.prog 22 (.string) := ⟨Go.Proofs.Tryz.underlying22⟩
instance : TI Go.Proofs.Tryz.prog 22 (.string ⟨#[]⟩) 1 16 := ⟨by kernel_rfl⟩
instance : UL Go.Proofs.Tryz.prog 23 (.struct #[{ name := "N", type := 22, offset := 0, embedded := false, tag := "", pkgPath := "", byteOffset := 0 }, { name := "D", type := 22, offset := 1, embedded := false, tag := "", pkgPath := "", byteOffset := 16 }]) := ⟨Go.Proofs.Tryz.underlying23⟩
instance : TI Go.Proofs.Tryz.prog 23 (.agg #[.string ⟨#[]⟩, .string ⟨#[]⟩]) 2 32 := ⟨by kernel_rfl⟩
instance : UL Go.Proofs.Tryz.prog 24 (.struct #[{ name := "N", type := 22, offset := 0, embedded := false, tag := "", pkgPath := "", byteOffset := 0 }, { name := "D", type := 22, offset := 1, embedded := false, tag := "", pkgPath := "", byteOffset := 16 }]) := ⟨Go.Proofs.Tryz.underlying24⟩
instance : TI Go.Proofs.Tryz.prog 24 (.agg #[.string ⟨#[]⟩, .string ⟨#[]⟩]) 2 32 := ⟨by kernel_rfl⟩
instance : UL Go.Proofs.Tryz.prog 25 (.slice 26) := ⟨Go.Proofs.Tryz.underlying25⟩
instance : TI Go.Proofs.Tryz.prog 25 (.slice none 0 0) 1 24 := ⟨by kernel_rfl⟩
instance : UL Go.Proofs.Tryz.prog 26 (.int .u16) := ⟨Go.Proofs.Tryz.underlying26⟩
instance : TI Go.Proofs.Tryz.prog 26 (.int .u16 0) 1 2 := ⟨by kernel_rfl⟩
instance : UL Go.Proofs.Tryz.prog 27 (.struct #[{ name := "Below", type := 4, offset := 0, embedded := false, tag := "", pkgPath := "", byteOffset := 0 }, { name := "Groups", type := 25, offset := 1, embedded := false, tag := "", pkgPath := "", byteOffset := 8 }, { name := "Zeros", type := 26, offset := 2, embedded := false, tag := "", pkgPath := "", byteOffset := 32 }]) := ⟨Go.Proofs.Tryz.underlying27⟩
instance : TI Go.Proofs.Tryz.prog 27 (.agg #[.bool false, .slice none 0 0, .int .u16 0]) 3 40 := ⟨by kernel_rfl⟩
instance : UL Go.Proofs.Tryz.prog 28 (.struct #[{ name := "Below", type := 4, offset := 0, embedded := false, tag := "", pkgPath := "", byteOffset := 0 }, { name := "Groups", type := 25, offset := 1, embedded := false, tag := "", pkgPath := "", byteOffset := 8 }, { name := "Zeros", type := 26, offset := 2, embedded := false, tag := "", pkgPath := "", byteOffset := 32 }]) := ⟨Go.Proofs.Tryz.underlying28⟩
instance : TI Go.Proofs.Tryz.prog 28 (.agg #[.bool false, .slice none 0 0, .int .u16 0]) 3 40 := ⟨by kernel_rfl⟩
instance : UL Go.Proofs.Tryz.prog 29 (.struct #[{ name := "N", type := 28, offset := 0, embedded := false, tag := "", pkgPath := "", byteOffset := 0 }, { name := "D", type := 28, offset := 3, embedded := false, tag := "", pkgPath := "", byteOffset := 40 }]) := ⟨Go.Proofs.Tryz.underlying29⟩
instance : TI Go.Proofs.Tryz.prog 29 (.agg #[.bool false, .slice none 0 0, .int .u16 0, .bool false, .slice none 0 0, .int .u16 0]) 6 80 := ⟨by kernel_rfl⟩
instance : UL Go.Proofs.Tryz.prog 30 (.struct #[{ name := "N", type := 28, offset := 0, embedded := false, tag := "", pkgPath := "", byteOffset := 0 }, { name := "D", type := 28, offset := 3, embedded := false, tag := "", pkgPath := "", byteOffset := 40 }]) := ⟨Go.Proofs.Tryz.underlying30⟩
instance : TI Go.Proofs.Tryz.prog 30 (.agg #[.bool false, .slice none 0 0, .int .u16 0, .bool false, .slice none 0 0, .int .u16 0]) 6 80 := ⟨by kernel_rfl⟩
instance : UL Go.Proofs.Tryz.prog 31 (.struct #[{ name := "A", type := 24, offset := 0, embedded := false, tag := "", pkgPath := "", byteOffset := 0 }, { name := "B", type := 24, offset := 2, embedded := false, tag := "", pkgPath := "", byteOffset := 32 }, { name := "X", type := 30, offset := 4, embedded := false, tag := "", pkgPath := "", byteOffset := 64 }, { name := "Y", type := 30, offset := 10, embedded := false, tag := "", pkgPath := "", byteOffset := 144 }]) := ⟨Go.Proofs.Tryz.underlying31⟩
instance : TI Go.Proofs.Tryz.prog 31 (.agg #[.string ⟨#[]⟩, .string ⟨#[]⟩, .string ⟨#[]⟩, .string ⟨#[]⟩, .bool false, .slice none 0 0, .int .u16 0, .bool false, .slice none 0 0, .int .u16 0, .bool false, .slice none 0 0, .int .u16 0, .bool false, .slice none 0 0, .int .u16 0]) 16 224 := ⟨by kernel_rfl⟩
instance : UL Go.Proofs.Tryz.prog 32 (.struct #[{ name := "A", type := 24, offset := 0, embedded := false, tag := "", pkgPath := "", byteOffset := 0 }, { name := "B", type := 24, offset := 2, embedded := false, tag := "", pkgPath := "", byteOffset := 32 }, { name := "X", type := 30, offset := 4, embedded := false, tag := "", pkgPath := "", byteOffset := 64 }, { name := "Y", type := 30, offset := 10, embedded := false, tag := "", pkgPath := "", byteOffset := 144 }]) := ⟨Go.Proofs.Tryz.underlying32⟩
instance : TI Go.Proofs.Tryz.prog 32 (.agg #[.string ⟨#[]⟩, .string ⟨#[]⟩, .string ⟨#[]⟩, .string ⟨#[]⟩, .bool false, .slice none 0 0, .int .u16 0, .bool false, .slice none 0 0, .int .u16 0, .bool false, .slice none 0 0, .int .u16 0, .bool false, .slice none 0 0, .int .u16 0]) 16 224 := ⟨by kernel_rfl⟩
instance : UL Go.Proofs.Tryz.prog 33 (.slice 30) := ⟨Go.Proofs.Tryz.underlying33⟩
instance : TI Go.Proofs.Tryz.prog 33 (.slice none 0 0) 1 24 := ⟨by kernel_rfl⟩
instance : UL Go.Proofs.Tryz.prog 34 (.func #[] #[4] false) := ⟨Go.Proofs.Tryz.underlying34⟩
instance : TI Go.Proofs.Tryz.prog 34 (.nilFunc) 1 8 := ⟨by kernel_rfl⟩
instance : UL Go.Proofs.Tryz.prog 35 (.slice 24) := ⟨Go.Proofs.Tryz.underlying35⟩
instance : TI Go.Proofs.Tryz.prog 35 (.slice none 0 0) 1 24 := ⟨by kernel_rfl⟩
instance : UL Go.Proofs.Tryz.prog 36 (.func #[] #[24] false) := ⟨Go.Proofs.Tryz.underlying36⟩
instance : TI Go.Proofs.Tryz.prog 36 (.nilFunc) 1 8 := ⟨by kernel_rfl⟩
instance : UL Go.Proofs.Tryz.prog 37 (.slice 39) := ⟨Go.Proofs.Tryz.underlying37⟩
instance : TI Go.Proofs.Tryz.prog 37 (.slice none 0 0) 1 24 := ⟨by kernel_rfl⟩
instance : UL Go.Proofs.Tryz.prog 38 (.func #[] #[37] false) := ⟨Go.Proofs.Tryz.underlying38⟩
instance : TI Go.Proofs.Tryz.prog 38 (.nilFunc) 1 8 := ⟨by kernel_rfl⟩
instance : UL Go.Proofs.Tryz.prog 39 (.array 2 24) := ⟨Go.Proofs.Tryz.underlying39⟩
instance : TI Go.Proofs.Tryz.prog 39 (.agg #[.string ⟨#[]⟩, .string ⟨#[]⟩, .string ⟨#[]⟩, .string ⟨#[]⟩]) 4 64 := ⟨by kernel_rfl⟩
instance : UL Go.Proofs.Tryz.prog 40 (.int .u64) := ⟨Go.Proofs.Tryz.underlying40⟩
instance : TI Go.Proofs.Tryz.prog 40 (.int .u64 0) 1 8 := ⟨by kernel_rfl⟩
instance : UL Go.Proofs.Tryz.prog 41 (.array 2 3) := ⟨Go.Proofs.Tryz.underlying41⟩
instance : TI Go.Proofs.Tryz.prog 41 (.agg #[.int .i64 0, .int .i64 0]) 2 16 := ⟨by kernel_rfl⟩
instance : UL Go.Proofs.Tryz.prog 42 (.int .i64) := ⟨Go.Proofs.Tryz.underlying42⟩
instance : TI Go.Proofs.Tryz.prog 42 (.int .i64 0) 1 8 := ⟨by kernel_rfl⟩
instance : TI Go.Proofs.Tryz.prog 43 (.tuple #[.agg #[.string ⟨#[]⟩, .string ⟨#[]⟩], .int .i64 0]) 1 0 := ⟨by kernel_rfl⟩
instance : UL Go.Proofs.Tryz.prog 44 (.func #[24, 3] #[24, 42] false) := ⟨Go.Proofs.Tryz.underlying44⟩
instance : TI Go.Proofs.Tryz.prog 44 (.nilFunc) 1 8 := ⟨by kernel_rfl⟩
instance : UL Go.Proofs.Tryz.prog 45 (.func #[35] #[24, 42] false) := ⟨Go.Proofs.Tryz.underlying45⟩
instance : TI Go.Proofs.Tryz.prog 45 (.nilFunc) 1 8 := ⟨by kernel_rfl⟩
instance : UL Go.Proofs.Tryz.prog 46 (.func #[32, 33, 3, 26] #[4] false) := ⟨Go.Proofs.Tryz.underlying46⟩
instance : TI Go.Proofs.Tryz.prog 46 (.nilFunc) 1 8 := ⟨by kernel_rfl⟩
instance : TI Go.Proofs.Tryz.prog 47 (.tuple #[.string ⟨#[]⟩, .int .i64 0]) 1 0 := ⟨by kernel_rfl⟩
instance : UL Go.Proofs.Tryz.prog 48 (.func #[24, 3] #[9, 42] false) := ⟨Go.Proofs.Tryz.underlying48⟩
instance : TI Go.Proofs.Tryz.prog 48 (.nilFunc) 1 8 := ⟨by kernel_rfl⟩
instance : UL Go.Proofs.Tryz.prog 49 (.slice 5) := ⟨Go.Proofs.Tryz.underlying49⟩
instance : TI Go.Proofs.Tryz.prog 49 (.slice none 0 0) 1 24 := ⟨by kernel_rfl⟩
instance : UL Go.Proofs.Tryz.prog 50 (.array 5 9) := ⟨Go.Proofs.Tryz.underlying50⟩
instance : TI Go.Proofs.Tryz.prog 50 (.agg #[.string ⟨#[]⟩, .string ⟨#[]⟩, .string ⟨#[]⟩, .string ⟨#[]⟩, .string ⟨#[]⟩]) 5 80 := ⟨by kernel_rfl⟩
instance : UL Go.Proofs.Tryz.prog 51 (.func #[9] #[24, 42] false) := ⟨Go.Proofs.Tryz.underlying51⟩
instance : TI Go.Proofs.Tryz.prog 51 (.nilFunc) 1 8 := ⟨by kernel_rfl⟩
instance : UL Go.Proofs.Tryz.prog 52 (.func #[9, 30, 5, 5] #[4] false) := ⟨Go.Proofs.Tryz.underlying52⟩
instance : TI Go.Proofs.Tryz.prog 52 (.nilFunc) 1 8 := ⟨by kernel_rfl⟩
instance : UL Go.Proofs.Tryz.prog 53 (.func #[24, 24] #[24, 42] false) := ⟨Go.Proofs.Tryz.underlying53⟩
instance : TI Go.Proofs.Tryz.prog 53 (.nilFunc) 1 8 := ⟨by kernel_rfl⟩
instance : UL Go.Proofs.Tryz.prog 54 (.func #[24] #[42] false) := ⟨Go.Proofs.Tryz.underlying54⟩
instance : TI Go.Proofs.Tryz.prog 54 (.nilFunc) 1 8 := ⟨by kernel_rfl⟩
instance : UL Go.Proofs.Tryz.prog 55 (.func #[24, 42] #[4] false) := ⟨Go.Proofs.Tryz.underlying55⟩
instance : TI Go.Proofs.Tryz.prog 55 (.nilFunc) 1 8 := ⟨by kernel_rfl⟩
instance : UL Go.Proofs.Tryz.prog 56 (.func #[42] #[55] false) := ⟨Go.Proofs.Tryz.underlying56⟩
instance : TI Go.Proofs.Tryz.prog 56 (.nilFunc) 1 8 := ⟨by kernel_rfl⟩
instance : UL Go.Proofs.Tryz.prog 57 (.func #[30, 30, 30] #[4] false) := ⟨Go.Proofs.Tryz.underlying57⟩
instance : TI Go.Proofs.Tryz.prog 57 (.nilFunc) 1 8 := ⟨by kernel_rfl⟩
instance : UL Go.Proofs.Tryz.prog 58 (.func #[3, 3] #[24] false) := ⟨Go.Proofs.Tryz.underlying58⟩
instance : TI Go.Proofs.Tryz.prog 58 (.nilFunc) 1 8 := ⟨by kernel_rfl⟩
instance : UL Go.Proofs.Tryz.prog 59 (.func #[22, 22] #[55] false) := ⟨Go.Proofs.Tryz.underlying59⟩
instance : TI Go.Proofs.Tryz.prog 59 (.nilFunc) 1 8 := ⟨by kernel_rfl⟩
instance : TI Go.Proofs.Tryz.prog 60 (.tuple #[.string ⟨#[]⟩, .string ⟨#[]⟩, .bool false]) 1 0 := ⟨by kernel_rfl⟩
instance : UL Go.Proofs.Tryz.prog 61 (.func #[9, 9] #[9, 9, 4] false) := ⟨Go.Proofs.Tryz.underlying61⟩
instance : TI Go.Proofs.Tryz.prog 61 (.nilFunc) 1 8 := ⟨by kernel_rfl⟩
instance : UL Go.Proofs.Tryz.prog 62 (.func #[9, 42] #[4] false) := ⟨Go.Proofs.Tryz.underlying62⟩
instance : TI Go.Proofs.Tryz.prog 62 (.nilFunc) 1 8 := ⟨by kernel_rfl⟩
instance : UL Go.Proofs.Tryz.prog 63 (.func #[9] #[62] false) := ⟨Go.Proofs.Tryz.underlying63⟩
instance : TI Go.Proofs.Tryz.prog 63 (.nilFunc) 1 8 := ⟨by kernel_rfl⟩
instance : UL Go.Proofs.Tryz.prog 64 (.func #[3, 5, 9] #[4] false) := ⟨Go.Proofs.Tryz.underlying64⟩
instance : TI Go.Proofs.Tryz.prog 64 (.nilFunc) 1 8 := ⟨by kernel_rfl⟩
instance : UL Go.Proofs.Tryz.prog 65 (.func #[30, 30, 5, 5] #[4] false) := ⟨Go.Proofs.Tryz.underlying65⟩
instance : TI Go.Proofs.Tryz.prog 65 (.nilFunc) 1 8 := ⟨by kernel_rfl⟩
instance : UL Go.Proofs.Tryz.prog 66 (.int .u32) := ⟨Go.Proofs.Tryz.underlying66⟩
instance : TI Go.Proofs.Tryz.prog 66 (.int .u32 0) 1 4 := ⟨by kernel_rfl⟩
instance : TI Go.Proofs.Tryz.prog 67 (.tuple #[.string ⟨#[]⟩, .int .i64 0]) 1 0 := ⟨by kernel_rfl⟩
instance : UL Go.Proofs.Tryz.prog 68 (.func #[24] #[22, 42] false) := ⟨Go.Proofs.Tryz.underlying68⟩
instance : TI Go.Proofs.Tryz.prog 68 (.nilFunc) 1 8 := ⟨by kernel_rfl⟩
instance : UL Go.Proofs.Tryz.prog 69 (.func #[22, 22] #[24, 42] false) := ⟨Go.Proofs.Tryz.underlying69⟩
instance : TI Go.Proofs.Tryz.prog 69 (.nilFunc) 1 8 := ⟨by kernel_rfl⟩
instance : TI Go.Proofs.Tryz.prog 70 (.tuple #[.int .i64 0, .int .i64 0]) 1 0 := ⟨by kernel_rfl⟩
instance : UL Go.Proofs.Tryz.prog 71 (.func #[24, 24] #[3, 42] false) := ⟨Go.Proofs.Tryz.underlying71⟩
instance : TI Go.Proofs.Tryz.prog 71 (.nilFunc) 1 8 := ⟨by kernel_rfl⟩
instance : UL Go.Proofs.Tryz.prog 72 (.func #[24, 3] #[3, 42] false) := ⟨Go.Proofs.Tryz.underlying72⟩
instance : TI Go.Proofs.Tryz.prog 72 (.nilFunc) 1 8 := ⟨by kernel_rfl⟩
instance : UL Go.Proofs.Tryz.prog 73 (.func #[24] #[24, 42] false) := ⟨Go.Proofs.Tryz.underlying73⟩
instance : TI Go.Proofs.Tryz.prog 73 (.nilFunc) 1 8 := ⟨by kernel_rfl⟩
instance : UL Go.Proofs.Tryz.prog 74 (.func #[30, 66, 66] #[4] false) := ⟨Go.Proofs.Tryz.underlying74⟩
instance : TI Go.Proofs.Tryz.prog 74 (.nilFunc) 1 8 := ⟨by kernel_rfl⟩
instance : UL Go.Proofs.Tryz.prog 75 (.func #[24] #[3, 42] false) := ⟨Go.Proofs.Tryz.underlying75⟩
instance : TI Go.Proofs.Tryz.prog 75 (.nilFunc) 1 8 := ⟨by kernel_rfl⟩
instance : UL Go.Proofs.Tryz.prog 76 (.func #[24, 24, 24] #[24, 42] false) := ⟨Go.Proofs.Tryz.underlying76⟩
instance : TI Go.Proofs.Tryz.prog 76 (.nilFunc) 1 8 := ⟨by kernel_rfl⟩
instance : UL Go.Proofs.Tryz.prog 77 (.func #[30, 30] #[4] false) := ⟨Go.Proofs.Tryz.underlying77⟩
instance : TI Go.Proofs.Tryz.prog 77 (.nilFunc) 1 8 := ⟨by kernel_rfl⟩
instance : UL Go.Proofs.Tryz.prog 78 (.func #[3, 3] #[24, 42] false) := ⟨Go.Proofs.Tryz.underlying78⟩
instance : TI Go.Proofs.Tryz.prog 78 (.nilFunc) 1 8 := ⟨by kernel_rfl⟩
instance : UL Go.Proofs.Tryz.prog 79 (.func #[3, 42] #[4] false) := ⟨Go.Proofs.Tryz.underlying79⟩
instance : TI Go.Proofs.Tryz.prog 79 (.nilFunc) 1 8 := ⟨by kernel_rfl⟩
instance : UL Go.Proofs.Tryz.prog 80 (.func #[3] #[79] false) := ⟨Go.Proofs.Tryz.underlying80⟩
instance : TI Go.Proofs.Tryz.prog 80 (.nilFunc) 1 8 := ⟨by kernel_rfl⟩
instance : UL Go.Proofs.Tryz.prog 81 (.func #[42] #[79] false) := ⟨Go.Proofs.Tryz.underlying81⟩
instance : TI Go.Proofs.Tryz.prog 81 (.nilFunc) 1 8 := ⟨by kernel_rfl⟩
instance : UL Go.Proofs.Tryz.prog 82 (.array 3 9) := ⟨Go.Proofs.Tryz.underlying82⟩
instance : TI Go.Proofs.Tryz.prog 82 (.agg #[.string ⟨#[]⟩, .string ⟨#[]⟩, .string ⟨#[]⟩]) 3 48 := ⟨by kernel_rfl⟩
instance : UL Go.Proofs.Tryz.prog 83 (.func #[] #[3] false) := ⟨Go.Proofs.Tryz.underlying83⟩
instance : TI Go.Proofs.Tryz.prog 83 (.nilFunc) 1 8 := ⟨by kernel_rfl⟩
instance : UL Go.Proofs.Tryz.prog 84 (.func #[89] #[24, 42] false) := ⟨Go.Proofs.Tryz.underlying84⟩
instance : TI Go.Proofs.Tryz.prog 84 (.nilFunc) 1 8 := ⟨by kernel_rfl⟩
instance : UL Go.Proofs.Tryz.prog 85 (.slice 3) := ⟨Go.Proofs.Tryz.underlying85⟩
instance : TI Go.Proofs.Tryz.prog 85 (.slice none 0 0) 1 24 := ⟨by kernel_rfl⟩
instance : UL Go.Proofs.Tryz.prog 86 (.struct #[{ name := "Below", type := 4, offset := 0, embedded := false, tag := "", pkgPath := "", byteOffset := 0 }, { name := "D", type := 85, offset := 1, embedded := false, tag := "", pkgPath := "", byteOffset := 8 }]) := ⟨Go.Proofs.Tryz.underlying86⟩
instance : TI Go.Proofs.Tryz.prog 86 (.agg #[.bool false, .slice none 0 0]) 2 32 := ⟨by kernel_rfl⟩
instance : UL Go.Proofs.Tryz.prog 87 (.struct #[{ name := "Below", type := 4, offset := 0, embedded := false, tag := "", pkgPath := "", byteOffset := 0 }, { name := "D", type := 85, offset := 1, embedded := false, tag := "", pkgPath := "", byteOffset := 8 }]) := ⟨Go.Proofs.Tryz.underlying87⟩
instance : TI Go.Proofs.Tryz.prog 87 (.agg #[.bool false, .slice none 0 0]) 2 32 := ⟨by kernel_rfl⟩
instance : UL Go.Proofs.Tryz.prog 88 (.struct #[{ name := "N", type := 87, offset := 0, embedded := false, tag := "", pkgPath := "", byteOffset := 0 }, { name := "D", type := 87, offset := 2, embedded := false, tag := "", pkgPath := "", byteOffset := 32 }]) := ⟨Go.Proofs.Tryz.underlying88⟩
instance : TI Go.Proofs.Tryz.prog 88 (.agg #[.bool false, .slice none 0 0, .bool false, .slice none 0 0]) 4 64 := ⟨by kernel_rfl⟩
instance : UL Go.Proofs.Tryz.prog 89 (.struct #[{ name := "N", type := 87, offset := 0, embedded := false, tag := "", pkgPath := "", byteOffset := 0 }, { name := "D", type := 87, offset := 2, embedded := false, tag := "", pkgPath := "", byteOffset := 32 }]) := ⟨Go.Proofs.Tryz.underlying89⟩
instance : TI Go.Proofs.Tryz.prog 89 (.agg #[.bool false, .slice none 0 0, .bool false, .slice none 0 0]) 4 64 := ⟨by kernel_rfl⟩
instance : UL Go.Proofs.Tryz.prog 90 (.func #[3, 3] #[89] false) := ⟨Go.Proofs.Tryz.underlying90⟩
instance : TI Go.Proofs.Tryz.prog 90 (.nilFunc) 1 8 := ⟨by kernel_rfl⟩
instance : UL Go.Proofs.Tryz.prog 91 (.func #[24] #[24] false) := ⟨Go.Proofs.Tryz.underlying91⟩
instance : TI Go.Proofs.Tryz.prog 91 (.nilFunc) 1 8 := ⟨by kernel_rfl⟩
instance : UL Go.Proofs.Tryz.prog 92 (.func #[22, 3] #[22, 42] false) := ⟨Go.Proofs.Tryz.underlying92⟩
instance : TI Go.Proofs.Tryz.prog 92 (.nilFunc) 1 8 := ⟨by kernel_rfl⟩
instance : UL Go.Proofs.Tryz.prog 93 (.func #[24] #[4] false) := ⟨Go.Proofs.Tryz.underlying93⟩
instance : TI Go.Proofs.Tryz.prog 93 (.nilFunc) 1 8 := ⟨by kernel_rfl⟩
instance : UL Go.Proofs.Tryz.prog 94 (.func #[89, 3] #[89] false) := ⟨Go.Proofs.Tryz.underlying94⟩
instance : TI Go.Proofs.Tryz.prog 94 (.nilFunc) 1 8 := ⟨by kernel_rfl⟩
instance : UL Go.Proofs.Tryz.prog 95 (.func #[24] #[89] false) := ⟨Go.Proofs.Tryz.underlying95⟩
instance : TI Go.Proofs.Tryz.prog 95 (.nilFunc) 1 8 := ⟨by kernel_rfl⟩
instance : UL Go.Proofs.Tryz.prog 96 (.slice 102) := ⟨Go.Proofs.Tryz.underlying96⟩
instance : TI Go.Proofs.Tryz.prog 96 (.slice none 0 0) 1 24 := ⟨by kernel_rfl⟩
instance : UL Go.Proofs.Tryz.prog 97 (.slice 66) := ⟨Go.Proofs.Tryz.underlying97⟩
instance : TI Go.Proofs.Tryz.prog 97 (.slice none 0 0) 1 24 := ⟨by kernel_rfl⟩
instance : UL Go.Proofs.Tryz.prog 98 (.slice 66) := ⟨Go.Proofs.Tryz.underlying98⟩
instance : TI Go.Proofs.Tryz.prog 98 (.slice none 0 0) 1 24 := ⟨by kernel_rfl⟩
instance : UL Go.Proofs.Tryz.prog 99 (.struct #[{ name := "magnitude", type := 98, offset := 0, embedded := true, tag := "", pkgPath := "verdigris/frac", byteOffset := 0 }, { name := "negative", type := 4, offset := 1, embedded := false, tag := "", pkgPath := "verdigris/frac", byteOffset := 24 }]) := ⟨Go.Proofs.Tryz.underlying99⟩
instance : TI Go.Proofs.Tryz.prog 99 (.agg #[.slice none 0 0, .bool false]) 2 32 := ⟨by kernel_rfl⟩
instance : UL Go.Proofs.Tryz.prog 100 (.struct #[{ name := "magnitude", type := 98, offset := 0, embedded := true, tag := "", pkgPath := "verdigris/frac", byteOffset := 0 }, { name := "negative", type := 4, offset := 1, embedded := false, tag := "", pkgPath := "verdigris/frac", byteOffset := 24 }]) := ⟨Go.Proofs.Tryz.underlying100⟩
instance : TI Go.Proofs.Tryz.prog 100 (.agg #[.slice none 0 0, .bool false]) 2 32 := ⟨by kernel_rfl⟩
instance : UL Go.Proofs.Tryz.prog 101 (.struct #[{ name := "integer", type := 100, offset := 0, embedded := true, tag := "", pkgPath := "verdigris/frac", byteOffset := 0 }, { name := "below", type := 98, offset := 2, embedded := false, tag := "", pkgPath := "verdigris/frac", byteOffset := 32 }]) := ⟨Go.Proofs.Tryz.underlying101⟩
instance : TI Go.Proofs.Tryz.prog 101 (.agg #[.slice none 0 0, .bool false, .slice none 0 0]) 3 56 := ⟨by kernel_rfl⟩
instance : UL Go.Proofs.Tryz.prog 102 (.struct #[{ name := "integer", type := 100, offset := 0, embedded := true, tag := "", pkgPath := "verdigris/frac", byteOffset := 0 }, { name := "below", type := 98, offset := 2, embedded := false, tag := "", pkgPath := "verdigris/frac", byteOffset := 32 }]) := ⟨Go.Proofs.Tryz.underlying102⟩
instance : TI Go.Proofs.Tryz.prog 102 (.agg #[.slice none 0 0, .bool false, .slice none 0 0]) 3 56 := ⟨by kernel_rfl⟩
instance : TI Go.Proofs.Tryz.prog 103 (.tuple #[.agg #[.slice none 0 0, .bool false, .slice none 0 0], .bool false]) 1 0 := ⟨by kernel_rfl⟩
instance : UL Go.Proofs.Tryz.prog 104 (.func #[24] #[102, 4] false) := ⟨Go.Proofs.Tryz.underlying104⟩
instance : TI Go.Proofs.Tryz.prog 104 (.nilFunc) 1 8 := ⟨by kernel_rfl⟩
instance : UL Go.Proofs.Tryz.prog 105 (.func #[96] #[102] true) := ⟨Go.Proofs.Tryz.underlying105⟩
instance : TI Go.Proofs.Tryz.prog 105 (.nilFunc) 1 8 := ⟨by kernel_rfl⟩
instance : UL Go.Proofs.Tryz.prog 106 (.func #[] #[24, 42] false) := ⟨Go.Proofs.Tryz.underlying106⟩
instance : TI Go.Proofs.Tryz.prog 106 (.nilFunc) 1 8 := ⟨by kernel_rfl⟩
instance : UL Go.Proofs.Tryz.prog 107 (.func #[89, 89] #[89] false) := ⟨Go.Proofs.Tryz.underlying107⟩
instance : TI Go.Proofs.Tryz.prog 107 (.nilFunc) 1 8 := ⟨by kernel_rfl⟩
instance : UL Go.Proofs.Tryz.prog 108 (.func #[89] #[87] false) := ⟨Go.Proofs.Tryz.underlying108⟩
instance : TI Go.Proofs.Tryz.prog 108 (.nilFunc) 1 8 := ⟨by kernel_rfl⟩
instance : UL Go.Proofs.Tryz.prog 109 (.func #[87, 87] #[89] false) := ⟨Go.Proofs.Tryz.underlying109⟩
instance : TI Go.Proofs.Tryz.prog 109 (.nilFunc) 1 8 := ⟨by kernel_rfl⟩
instance : UL Go.Proofs.Tryz.prog 110 (.func #[3] #[87] false) := ⟨Go.Proofs.Tryz.underlying110⟩
instance : TI Go.Proofs.Tryz.prog 110 (.nilFunc) 1 8 := ⟨by kernel_rfl⟩
instance : TI Go.Proofs.Tryz.prog 111 (.tuple #[.agg #[.bool false, .slice none 0 0], .agg #[.bool false, .slice none 0 0]]) 1 0 := ⟨by kernel_rfl⟩
instance : UL Go.Proofs.Tryz.prog 112 (.func #[87, 87] #[87, 87] false) := ⟨Go.Proofs.Tryz.underlying112⟩
instance : TI Go.Proofs.Tryz.prog 112 (.nilFunc) 1 8 := ⟨by kernel_rfl⟩
instance : UL Go.Proofs.Tryz.prog 113 (.func #[87] #[22, 42] false) := ⟨Go.Proofs.Tryz.underlying113⟩
instance : TI Go.Proofs.Tryz.prog 113 (.nilFunc) 1 8 := ⟨by kernel_rfl⟩
instance : UL Go.Proofs.Tryz.prog 114 (.func #[87] #[9] false) := ⟨Go.Proofs.Tryz.underlying114⟩
instance : TI Go.Proofs.Tryz.prog 114 (.nilFunc) 1 8 := ⟨by kernel_rfl⟩
instance : UL Go.Proofs.Tryz.prog 115 (.func #[22] #[87] false) := ⟨Go.Proofs.Tryz.underlying115⟩
instance : TI Go.Proofs.Tryz.prog 115 (.nilFunc) 1 8 := ⟨by kernel_rfl⟩
instance : UL Go.Proofs.Tryz.prog 116 (.func #[] #[22] false) := ⟨Go.Proofs.Tryz.underlying116⟩
instance : TI Go.Proofs.Tryz.prog 116 (.nilFunc) 1 8 := ⟨by kernel_rfl⟩
instance : TI Go.Proofs.Tryz.prog 117 (.tuple #[.string ⟨#[]⟩, .bool false]) 1 0 := ⟨by kernel_rfl⟩
instance : UL Go.Proofs.Tryz.prog 118 (.func #[9, 9] #[9, 4] false) := ⟨Go.Proofs.Tryz.underlying118⟩
instance : TI Go.Proofs.Tryz.prog 118 (.nilFunc) 1 8 := ⟨by kernel_rfl⟩
instance : UL Go.Proofs.Tryz.prog 119 (.func #[9] #[4] false) := ⟨Go.Proofs.Tryz.underlying119⟩
instance : TI Go.Proofs.Tryz.prog 119 (.nilFunc) 1 8 := ⟨by kernel_rfl⟩
instance : UL Go.Proofs.Tryz.prog 120 (.func #[9, 9] #[9] false) := ⟨Go.Proofs.Tryz.underlying120⟩
instance : TI Go.Proofs.Tryz.prog 120 (.nilFunc) 1 8 := ⟨by kernel_rfl⟩
instance : UL Go.Proofs.Tryz.prog 121 (.func #[9] #[98] false) := ⟨Go.Proofs.Tryz.underlying121⟩
instance : TI Go.Proofs.Tryz.prog 121 (.nilFunc) 1 8 := ⟨by kernel_rfl⟩
instance : UL Go.Proofs.Tryz.prog 122 (.func #[9, 3] #[9] false) := ⟨Go.Proofs.Tryz.underlying122⟩
instance : TI Go.Proofs.Tryz.prog 122 (.nilFunc) 1 8 := ⟨by kernel_rfl⟩
instance : UL Go.Proofs.Tryz.prog 123 (.func #[100, 98] #[102] false) := ⟨Go.Proofs.Tryz.underlying123⟩
instance : TI Go.Proofs.Tryz.prog 123 (.nilFunc) 1 8 := ⟨by kernel_rfl⟩
instance : UL Go.Proofs.Tryz.prog 124 (.func #[98, 4] #[100] false) := ⟨Go.Proofs.Tryz.underlying124⟩
instance : TI Go.Proofs.Tryz.prog 124 (.nilFunc) 1 8 := ⟨by kernel_rfl⟩
instance : UL Go.Proofs.Tryz.prog 125 (.func #[9, 87] #[87] false) := ⟨Go.Proofs.Tryz.underlying125⟩
instance : TI Go.Proofs.Tryz.prog 125 (.nilFunc) 1 8 := ⟨by kernel_rfl⟩
instance : UL Go.Proofs.Tryz.prog 126 (.func #[102, 42] #[24, 42] false) := ⟨Go.Proofs.Tryz.underlying126⟩
instance : TI Go.Proofs.Tryz.prog 126 (.nilFunc) 1 8 := ⟨by kernel_rfl⟩
instance : TI Go.Proofs.Tryz.prog 127 (.tuple #[.agg #[.slice none 0 0, .bool false, .slice none 0 0], .int .i64 0]) 1 0 := ⟨by kernel_rfl⟩
instance : UL Go.Proofs.Tryz.prog 128 (.func #[24, 24, 129] #[102, 42] false) := ⟨Go.Proofs.Tryz.underlying128⟩
instance : TI Go.Proofs.Tryz.prog 128 (.nilFunc) 1 8 := ⟨by kernel_rfl⟩
instance : UL Go.Proofs.Tryz.prog 129 (.func #[102, 102] #[102] false) := ⟨Go.Proofs.Tryz.underlying129⟩
instance : TI Go.Proofs.Tryz.prog 129 (.nilFunc) 1 8 := ⟨by kernel_rfl⟩
instance : UL Go.Proofs.Tryz.prog 130 (.func #[102] #[102] false) := ⟨Go.Proofs.Tryz.underlying130⟩
instance : TI Go.Proofs.Tryz.prog 130 (.nilFunc) 1 8 := ⟨by kernel_rfl⟩
instance : UL Go.Proofs.Tryz.prog 131 (.func #[] #[102] false) := ⟨Go.Proofs.Tryz.underlying131⟩
instance : TI Go.Proofs.Tryz.prog 131 (.nilFunc) 1 8 := ⟨by kernel_rfl⟩
instance : UL Go.Proofs.Tryz.prog 132 (.func #[98] #[100] false) := ⟨Go.Proofs.Tryz.underlying132⟩
instance : TI Go.Proofs.Tryz.prog 132 (.nilFunc) 1 8 := ⟨by kernel_rfl⟩
instance : UL Go.Proofs.Tryz.prog 133 (.func #[] #[9] false) := ⟨Go.Proofs.Tryz.underlying133⟩
instance : TI Go.Proofs.Tryz.prog 133 (.nilFunc) 1 8 := ⟨by kernel_rfl⟩
instance : UL Go.Proofs.Tryz.prog 134 (.func #[22] #[42] false) := ⟨Go.Proofs.Tryz.underlying134⟩
instance : TI Go.Proofs.Tryz.prog 134 (.nilFunc) 1 8 := ⟨by kernel_rfl⟩
instance : UL Go.Proofs.Tryz.prog 135 (.func #[22] #[100] false) := ⟨Go.Proofs.Tryz.underlying135⟩
instance : TI Go.Proofs.Tryz.prog 135 (.nilFunc) 1 8 := ⟨by kernel_rfl⟩
instance : UL Go.Proofs.Tryz.prog 136 (.func #[24, 24, 137] #[3, 42] false) := ⟨Go.Proofs.Tryz.underlying136⟩
instance : TI Go.Proofs.Tryz.prog 136 (.nilFunc) 1 8 := ⟨by kernel_rfl⟩
instance : UL Go.Proofs.Tryz.prog 137 (.func #[102, 102] #[3] false) := ⟨Go.Proofs.Tryz.underlying137⟩
instance : TI Go.Proofs.Tryz.prog 137 (.nilFunc) 1 8 := ⟨by kernel_rfl⟩
instance : UL Go.Proofs.Tryz.prog 138 (.func #[102] #[3] false) := ⟨Go.Proofs.Tryz.underlying138⟩
instance : TI Go.Proofs.Tryz.prog 138 (.nilFunc) 1 8 := ⟨by kernel_rfl⟩
instance : UL Go.Proofs.Tryz.prog 139 (.func #[22] #[3, 42] false) := ⟨Go.Proofs.Tryz.underlying139⟩
instance : TI Go.Proofs.Tryz.prog 139 (.nilFunc) 1 8 := ⟨by kernel_rfl⟩
instance : UL Go.Proofs.Tryz.prog 140 (.func #[141] #[98] false) := ⟨Go.Proofs.Tryz.underlying140⟩
instance : TI Go.Proofs.Tryz.prog 140 (.nilFunc) 1 8 := ⟨by kernel_rfl⟩
instance : UL Go.Proofs.Tryz.prog 141 (.int .u64) := ⟨Go.Proofs.Tryz.underlying141⟩
instance : TI Go.Proofs.Tryz.prog 141 (.int .u64 0) 1 8 := ⟨by kernel_rfl⟩
instance : UL Go.Proofs.Tryz.prog 142 (.func #[3] #[22] false) := ⟨Go.Proofs.Tryz.underlying142⟩
instance : TI Go.Proofs.Tryz.prog 142 (.nilFunc) 1 8 := ⟨by kernel_rfl⟩
instance : UL Go.Proofs.Tryz.prog 143 (.slice 66) := ⟨Go.Proofs.Tryz.underlying143⟩
instance : TI Go.Proofs.Tryz.prog 143 (.slice none 0 0) 1 24 := ⟨by kernel_rfl⟩
instance : UL Go.Proofs.Tryz.prog 144 (.struct #[{ name := "magnitude", type := 143, offset := 0, embedded := true, tag := "", pkgPath := "verdigris/whole", byteOffset := 0 }, { name := "negative", type := 4, offset := 1, embedded := false, tag := "", pkgPath := "verdigris/whole", byteOffset := 24 }]) := ⟨Go.Proofs.Tryz.underlying144⟩
instance : TI Go.Proofs.Tryz.prog 144 (.agg #[.slice none 0 0, .bool false]) 2 32 := ⟨by kernel_rfl⟩
instance : UL Go.Proofs.Tryz.prog 145 (.struct #[{ name := "magnitude", type := 143, offset := 0, embedded := true, tag := "", pkgPath := "verdigris/whole", byteOffset := 0 }, { name := "negative", type := 4, offset := 1, embedded := false, tag := "", pkgPath := "verdigris/whole", byteOffset := 24 }]) := ⟨Go.Proofs.Tryz.underlying145⟩
instance : TI Go.Proofs.Tryz.prog 145 (.agg #[.slice none 0 0, .bool false]) 2 32 := ⟨by kernel_rfl⟩
instance : TI Go.Proofs.Tryz.prog 146 (.tuple #[.agg #[.slice none 0 0, .bool false], .bool false]) 1 0 := ⟨by kernel_rfl⟩
instance : UL Go.Proofs.Tryz.prog 147 (.func #[22] #[145, 4] false) := ⟨Go.Proofs.Tryz.underlying147⟩
instance : TI Go.Proofs.Tryz.prog 147 (.nilFunc) 1 8 := ⟨by kernel_rfl⟩
instance : UL Go.Proofs.Tryz.prog 148 (.func #[145] #[22, 42] false) := ⟨Go.Proofs.Tryz.underlying148⟩
instance : TI Go.Proofs.Tryz.prog 148 (.nilFunc) 1 8 := ⟨by kernel_rfl⟩
instance : UL Go.Proofs.Tryz.prog 149 (.func #[143, 4] #[145] false) := ⟨Go.Proofs.Tryz.underlying149⟩
instance : TI Go.Proofs.Tryz.prog 149 (.nilFunc) 1 8 := ⟨by kernel_rfl⟩
instance : UL Go.Proofs.Tryz.prog 150 (.func #[3] #[143] false) := ⟨Go.Proofs.Tryz.underlying150⟩
instance : TI Go.Proofs.Tryz.prog 150 (.nilFunc) 1 8 := ⟨by kernel_rfl⟩
instance : UL Go.Proofs.Tryz.prog 151 (.func #[22] #[4] false) := ⟨Go.Proofs.Tryz.underlying151⟩
instance : TI Go.Proofs.Tryz.prog 151 (.nilFunc) 1 8 := ⟨by kernel_rfl⟩
instance : UL Go.Proofs.Tryz.prog 152 (.func #[87, 87] #[87] false) := ⟨Go.Proofs.Tryz.underlying152⟩
instance : TI Go.Proofs.Tryz.prog 152 (.nilFunc) 1 8 := ⟨by kernel_rfl⟩
instance : UL Go.Proofs.Tryz.prog 153 (.func #[87, 3] #[87] false) := ⟨Go.Proofs.Tryz.underlying153⟩
instance : TI Go.Proofs.Tryz.prog 153 (.nilFunc) 1 8 := ⟨by kernel_rfl⟩
instance : UL Go.Proofs.Tryz.prog 154 (.func #[98] #[98] false) := ⟨Go.Proofs.Tryz.underlying154⟩
instance : TI Go.Proofs.Tryz.prog 154 (.nilFunc) 1 8 := ⟨by kernel_rfl⟩
instance : UL Go.Proofs.Tryz.prog 155 (.func #[98] #[3] false) := ⟨Go.Proofs.Tryz.underlying155⟩
instance : TI Go.Proofs.Tryz.prog 155 (.nilFunc) 1 8 := ⟨by kernel_rfl⟩
instance : UL Go.Proofs.Tryz.prog 156 (.func #[102] #[] false) := ⟨Go.Proofs.Tryz.underlying156⟩
instance : TI Go.Proofs.Tryz.prog 156 (.nilFunc) 1 8 := ⟨by kernel_rfl⟩
instance : UL Go.Proofs.Tryz.prog 157 (.func #[87] #[87] false) := ⟨Go.Proofs.Tryz.underlying157⟩
instance : TI Go.Proofs.Tryz.prog 157 (.nilFunc) 1 8 := ⟨by kernel_rfl⟩
instance : UL Go.Proofs.Tryz.prog 158 (.func #[4, 85] #[87] false) := ⟨Go.Proofs.Tryz.underlying158⟩
instance : TI Go.Proofs.Tryz.prog 158 (.nilFunc) 1 8 := ⟨by kernel_rfl⟩
instance : TI Go.Proofs.Tryz.prog 159 (.tuple #[.slice none 0 0, .slice none 0 0]) 1 0 := ⟨by kernel_rfl⟩
instance : UL Go.Proofs.Tryz.prog 160 (.func #[85, 85] #[85, 85] false) := ⟨Go.Proofs.Tryz.underlying160⟩
instance : TI Go.Proofs.Tryz.prog 160 (.nilFunc) 1 8 := ⟨by kernel_rfl⟩
instance : UL Go.Proofs.Tryz.prog 161 (.func #[3] #[9] false) := ⟨Go.Proofs.Tryz.underlying161⟩
instance : TI Go.Proofs.Tryz.prog 161 (.nilFunc) 1 8 := ⟨by kernel_rfl⟩
instance : UL Go.Proofs.Tryz.prog 162 (.func #[9, 5] #[9] false) := ⟨Go.Proofs.Tryz.underlying162⟩
instance : TI Go.Proofs.Tryz.prog 162 (.nilFunc) 1 8 := ⟨by kernel_rfl⟩
instance : UL Go.Proofs.Tryz.prog 163 (.array 256 4) := ⟨Go.Proofs.Tryz.underlying163⟩
instance : UL Go.Proofs.Tryz.prog 164 (.array 256 4) := ⟨Go.Proofs.Tryz.underlying164⟩
instance : TI Go.Proofs.Tryz.prog 165 (.tuple #[.agg #[.bool false, .bool false, .bool false, .bool false, .bool false, .bool false, .bool false, .bool false, .bool false, .bool false, .bool false, .bool false, .bool false, .bool false, .bool false, .bool false, .bool false, .bool false, .bool false, .bool false, .bool false, .bool false, .bool false, .bool false, .bool false, .bool false, .bool false, .bool false, .bool false, .bool false, .bool false, .bool false, .bool false, .bool false, .bool false, .bool false, .bool false, .bool false, .bool false, .bool false, .bool false, .bool false, .bool false, .bool false, .bool false, .bool false, .bool false, .bool false, .bool false, .bool false, .bool false, .bool false, .bool false, .bool false, .bool false, .bool false, .bool false, .bool false, .bool false, .bool false, .bool false, .bool false, .bool false, .bool false, .bool false, .bool false, .bool false, .bool false, .bool false, .bool false, .bool false, .bool false, .bool false, .bool false, .bool false, .bool false, .bool false, .bool false, .bool false, .bool false, .bool false, .bool false, .bool false, .bool false, .bool false, .bool false, .bool false, .bool false, .bool false, .bool false, .bool false, .bool false, .bool false, .bool false, .bool false, .bool false, .bool false, .bool false, .bool false, .bool false, .bool false, .bool false, .bool false, .bool false, .bool false, .bool false, .bool false, .bool false, .bool false, .bool false, .bool false, .bool false, .bool false, .bool false, .bool false, .bool false, .bool false, .bool false, .bool false, .bool false, .bool false, .bool false, .bool false, .bool false, .bool false, .bool false, .bool false, .bool false, .bool false, .bool false, .bool false, .bool false, .bool false, .bool false, .bool false, .bool false, .bool false, .bool false, .bool false, .bool false, .bool false, .bool false, .bool false, .bool false, .bool false, .bool false, .bool false, .bool false, .bool false, .bool false, .bool false, .bool false, .bool false, .bool false, .bool false, .bool false, .bool false, .bool false, .bool false, .bool false, .bool false, .bool false, .bool false, .bool false, .bool false, .bool false, .bool false, .bool false, .bool false, .bool false, .bool false, .bool false, .bool false, .bool false, .bool false, .bool false, .bool false, .bool false, .bool false, .bool false, .bool false, .bool false, .bool false, .bool false, .bool false, .bool false, .bool false, .bool false, .bool false, .bool false, .bool false, .bool false, .bool false, .bool false, .bool false, .bool false, .bool false, .bool false, .bool false, .bool false, .bool false, .bool false, .bool false, .bool false, .bool false, .bool false, .bool false, .bool false, .bool false, .bool false, .bool false, .bool false, .bool false, .bool false, .bool false, .bool false, .bool false, .bool false, .bool false, .bool false, .bool false, .bool false, .bool false, .bool false, .bool false, .bool false, .bool false, .bool false, .bool false, .bool false, .bool false, .bool false, .bool false, .bool false, .bool false, .bool false, .bool false, .bool false, .bool false, .bool false, .bool false, .bool false, .bool false, .bool false, .bool false, .bool false, .bool false, .bool false, .bool false, .bool false, .bool false, .bool false, .bool false, .bool false, .bool false, .bool false], .bool false]) 1 0 := ⟨by kernel_rfl⟩
instance : UL Go.Proofs.Tryz.prog 166 (.func #[9] #[164, 4] false) := ⟨Go.Proofs.Tryz.underlying166⟩
instance : TI Go.Proofs.Tryz.prog 166 (.nilFunc) 1 8 := ⟨by kernel_rfl⟩
instance : UL Go.Proofs.Tryz.prog 167 (.func #[9, 168] #[9] false) := ⟨Go.Proofs.Tryz.underlying167⟩
instance : TI Go.Proofs.Tryz.prog 167 (.nilFunc) 1 8 := ⟨by kernel_rfl⟩
instance : UL Go.Proofs.Tryz.prog 168 (.pointer 164) := ⟨Go.Proofs.Tryz.underlying168⟩
instance : TI Go.Proofs.Tryz.prog 168 (.pointer none) 1 8 := ⟨by kernel_rfl⟩
instance : UL Go.Proofs.Tryz.prog 169 (.func #[] #[98] false) := ⟨Go.Proofs.Tryz.underlying169⟩
instance : TI Go.Proofs.Tryz.prog 169 (.nilFunc) 1 8 := ⟨by kernel_rfl⟩
instance : TI Go.Proofs.Tryz.prog 170 (.tuple #[.int .u64 0, .int .u64 0]) 1 0 := ⟨by kernel_rfl⟩
instance : UL Go.Proofs.Tryz.prog 171 (.func #[40, 40] #[40, 40] false) := ⟨Go.Proofs.Tryz.underlying171⟩
instance : TI Go.Proofs.Tryz.prog 171 (.nilFunc) 1 8 := ⟨by kernel_rfl⟩
instance : UL Go.Proofs.Tryz.prog 172 (.func #[9, 9] #[4] false) := ⟨Go.Proofs.Tryz.underlying172⟩
instance : TI Go.Proofs.Tryz.prog 172 (.nilFunc) 1 8 := ⟨by kernel_rfl⟩
instance : UL Go.Proofs.Tryz.prog 173 (.pointer 175) := ⟨Go.Proofs.Tryz.underlying173⟩
instance : TI Go.Proofs.Tryz.prog 173 (.pointer none) 1 8 := ⟨by kernel_rfl⟩
instance : UL Go.Proofs.Tryz.prog 174 (.struct #[{ name := "addr", type := 173, offset := 0, embedded := false, tag := "", pkgPath := "strings", byteOffset := 0 }, { name := "buf", type := 49, offset := 1, embedded := false, tag := "", pkgPath := "strings", byteOffset := 8 }]) := ⟨Go.Proofs.Tryz.underlying174⟩
instance : TI Go.Proofs.Tryz.prog 174 (.agg #[.pointer none, .slice none 0 0]) 2 32 := ⟨by kernel_rfl⟩
instance : UL Go.Proofs.Tryz.prog 175 (.struct #[{ name := "addr", type := 173, offset := 0, embedded := false, tag := "", pkgPath := "strings", byteOffset := 0 }, { name := "buf", type := 49, offset := 1, embedded := false, tag := "", pkgPath := "strings", byteOffset := 8 }]) := ⟨Go.Proofs.Tryz.underlying175⟩
instance : TI Go.Proofs.Tryz.prog 175 (.agg #[.pointer none, .slice none 0 0]) 2 32 := ⟨by kernel_rfl⟩
instance : UL Go.Proofs.Tryz.prog 176 (.func #[3] #[] false) := ⟨Go.Proofs.Tryz.underlying176⟩
instance : TI Go.Proofs.Tryz.prog 176 (.nilFunc) 1 8 := ⟨by kernel_rfl⟩
instance : TI Go.Proofs.Tryz.prog 178 (.nilIface) 1 16 := ⟨by kernel_rfl⟩
instance : TI Go.Proofs.Tryz.prog 179 (.tuple #[.int .i64 0, .nilIface]) 1 0 := ⟨by kernel_rfl⟩
instance : UL Go.Proofs.Tryz.prog 180 (.func #[9] #[3, 178] false) := ⟨Go.Proofs.Tryz.underlying180⟩
instance : TI Go.Proofs.Tryz.prog 180 (.nilFunc) 1 8 := ⟨by kernel_rfl⟩
instance : TI Go.Proofs.Tryz.prog 181 (.tuple #[.slice none 0 0, .slice none 0 0]) 1 0 := ⟨by kernel_rfl⟩
instance : UL Go.Proofs.Tryz.prog 182 (.func #[98] #[98, 98] false) := ⟨Go.Proofs.Tryz.underlying182⟩
instance : TI Go.Proofs.Tryz.prog 182 (.nilFunc) 1 8 := ⟨by kernel_rfl⟩
instance : UL Go.Proofs.Tryz.prog 183 (.func #[100] #[100] false) := ⟨Go.Proofs.Tryz.underlying183⟩
instance : TI Go.Proofs.Tryz.prog 183 (.nilFunc) 1 8 := ⟨by kernel_rfl⟩
instance : UL Go.Proofs.Tryz.prog 184 (.func #[5] #[178] false) := ⟨Go.Proofs.Tryz.underlying184⟩
instance : TI Go.Proofs.Tryz.prog 184 (.nilFunc) 1 8 := ⟨by kernel_rfl⟩
instance : UL Go.Proofs.Tryz.prog 185 (.func #[66, 3] #[] false) := ⟨Go.Proofs.Tryz.underlying185⟩
instance : TI Go.Proofs.Tryz.prog 185 (.nilFunc) 1 8 := ⟨by kernel_rfl⟩
instance : UL Go.Proofs.Tryz.prog 186 (.func #[9, 9] #[3] false) := ⟨Go.Proofs.Tryz.underlying186⟩
instance : TI Go.Proofs.Tryz.prog 186 (.nilFunc) 1 8 := ⟨by kernel_rfl⟩
instance : UL Go.Proofs.Tryz.prog 187 (.func #[] #[100] false) := ⟨Go.Proofs.Tryz.underlying187⟩
instance : TI Go.Proofs.Tryz.prog 187 (.nilFunc) 1 8 := ⟨by kernel_rfl⟩
instance : TI Go.Proofs.Tryz.prog 188 (.tuple #[.int .i64 0, .nilIface]) 1 0 := ⟨by kernel_rfl⟩
instance : UL Go.Proofs.Tryz.prog 189 (.func #[9, 3, 3] #[2, 178] false) := ⟨Go.Proofs.Tryz.underlying189⟩
instance : TI Go.Proofs.Tryz.prog 189 (.nilFunc) 1 8 := ⟨by kernel_rfl⟩
instance : UL Go.Proofs.Tryz.prog 190 (.func #[9] #[143] false) := ⟨Go.Proofs.Tryz.underlying190⟩
instance : TI Go.Proofs.Tryz.prog 190 (.nilFunc) 1 8 := ⟨by kernel_rfl⟩
instance : UL Go.Proofs.Tryz.prog 191 (.func #[143] #[143] false) := ⟨Go.Proofs.Tryz.underlying191⟩
instance : TI Go.Proofs.Tryz.prog 191 (.nilFunc) 1 8 := ⟨by kernel_rfl⟩
instance : UL Go.Proofs.Tryz.prog 192 (.func #[] #[141] false) := ⟨Go.Proofs.Tryz.underlying192⟩
instance : TI Go.Proofs.Tryz.prog 192 (.nilFunc) 1 8 := ⟨by kernel_rfl⟩
instance : UL Go.Proofs.Tryz.prog 193 (.func #[3, 3] #[3] false) := ⟨Go.Proofs.Tryz.underlying193⟩
instance : TI Go.Proofs.Tryz.prog 193 (.nilFunc) 1 8 := ⟨by kernel_rfl⟩
instance : UL Go.Proofs.Tryz.prog 194 (.func #[66, 66] #[3] false) := ⟨Go.Proofs.Tryz.underlying194⟩
instance : TI Go.Proofs.Tryz.prog 194 (.nilFunc) 1 8 := ⟨by kernel_rfl⟩
instance : UL Go.Proofs.Tryz.prog 195 (.func #[85, 85] #[85] false) := ⟨Go.Proofs.Tryz.underlying195⟩
instance : TI Go.Proofs.Tryz.prog 195 (.nilFunc) 1 8 := ⟨by kernel_rfl⟩
instance : UL Go.Proofs.Tryz.prog 196 (.func #[85, 85] #[3] false) := ⟨Go.Proofs.Tryz.underlying196⟩
instance : TI Go.Proofs.Tryz.prog 196 (.nilFunc) 1 8 := ⟨by kernel_rfl⟩
instance : UL Go.Proofs.Tryz.prog 197 (.func #[85] #[85] false) := ⟨Go.Proofs.Tryz.underlying197⟩
instance : TI Go.Proofs.Tryz.prog 197 (.nilFunc) 1 8 := ⟨by kernel_rfl⟩
instance : TI Go.Proofs.Tryz.prog 198 (.tuple #[.slice none 0 0, .int .i64 0]) 1 0 := ⟨by kernel_rfl⟩
instance : UL Go.Proofs.Tryz.prog 199 (.func #[85, 3] #[85, 3] false) := ⟨Go.Proofs.Tryz.underlying199⟩
instance : TI Go.Proofs.Tryz.prog 199 (.nilFunc) 1 8 := ⟨by kernel_rfl⟩
instance : UL Go.Proofs.Tryz.prog 200 (.func #[5] #[4] false) := ⟨Go.Proofs.Tryz.underlying200⟩
instance : TI Go.Proofs.Tryz.prog 200 (.nilFunc) 1 8 := ⟨by kernel_rfl⟩
instance : TI Go.Proofs.Tryz.prog 201 (.tuple #[.int .i32 0, .int .i64 0]) 1 0 := ⟨by kernel_rfl⟩
instance : UL Go.Proofs.Tryz.prog 202 (.func #[9] #[21, 3] false) := ⟨Go.Proofs.Tryz.underlying202⟩
instance : TI Go.Proofs.Tryz.prog 202 (.nilFunc) 1 8 := ⟨by kernel_rfl⟩
instance : UL Go.Proofs.Tryz.prog 203 (.func #[9, 21] #[4] false) := ⟨Go.Proofs.Tryz.underlying203⟩
instance : TI Go.Proofs.Tryz.prog 203 (.nilFunc) 1 8 := ⟨by kernel_rfl⟩
instance : TI Go.Proofs.Tryz.prog 204 (.tuple #[.int .u32 0, .int .u32 0]) 1 0 := ⟨by kernel_rfl⟩
instance : UL Go.Proofs.Tryz.prog 205 (.func #[66, 66] #[66, 66] false) := ⟨Go.Proofs.Tryz.underlying205⟩
instance : TI Go.Proofs.Tryz.prog 205 (.nilFunc) 1 8 := ⟨by kernel_rfl⟩
instance : TI Go.Proofs.Tryz.prog 206 (.tuple #[.int .u64 0, .int .u64 0]) 1 0 := ⟨by kernel_rfl⟩
instance : UL Go.Proofs.Tryz.prog 207 (.func #[141, 141] #[141, 141] false) := ⟨Go.Proofs.Tryz.underlying207⟩
instance : TI Go.Proofs.Tryz.prog 207 (.nilFunc) 1 8 := ⟨by kernel_rfl⟩
instance : UL Go.Proofs.Tryz.prog 208 (.pointer 5) := ⟨Go.Proofs.Tryz.underlying208⟩
instance : TI Go.Proofs.Tryz.prog 208 (.pointer none) 1 8 := ⟨by kernel_rfl⟩
instance : TI Go.Proofs.Tryz.prog 209 (.tuple #[.slice none 0 0, .int .u32 0]) 1 0 := ⟨by kernel_rfl⟩
instance : UL Go.Proofs.Tryz.prog 210 (.func #[66] #[98, 66] false) := ⟨Go.Proofs.Tryz.underlying210⟩
instance : TI Go.Proofs.Tryz.prog 210 (.nilFunc) 1 8 := ⟨by kernel_rfl⟩
instance : UL Go.Proofs.Tryz.prog 211 (.func #[98, 98] #[66] false) := ⟨Go.Proofs.Tryz.underlying211⟩
instance : TI Go.Proofs.Tryz.prog 211 (.nilFunc) 1 8 := ⟨by kernel_rfl⟩
instance : UL Go.Proofs.Tryz.prog 212 (.func #[9, 5] #[3] false) := ⟨Go.Proofs.Tryz.underlying212⟩
instance : TI Go.Proofs.Tryz.prog 212 (.nilFunc) 1 8 := ⟨by kernel_rfl⟩
instance : UL Go.Proofs.Tryz.prog 213 (.func #[3] #[3] false) := ⟨Go.Proofs.Tryz.underlying213⟩
instance : TI Go.Proofs.Tryz.prog 213 (.nilFunc) 1 8 := ⟨by kernel_rfl⟩
instance : UL Go.Proofs.Tryz.prog 214 (.func #[9, 9, 3, 3, 178] #[178] false) := ⟨Go.Proofs.Tryz.underlying214⟩
instance : TI Go.Proofs.Tryz.prog 214 (.nilFunc) 1 8 := ⟨by kernel_rfl⟩
instance : UL Go.Proofs.Tryz.prog 215 (.func #[] #[143] false) := ⟨Go.Proofs.Tryz.underlying215⟩
instance : TI Go.Proofs.Tryz.prog 215 (.nilFunc) 1 8 := ⟨by kernel_rfl⟩
instance : UL Go.Proofs.Tryz.prog 216 (.func #[3] #[4] false) := ⟨Go.Proofs.Tryz.underlying216⟩
instance : TI Go.Proofs.Tryz.prog 216 (.nilFunc) 1 8 := ⟨by kernel_rfl⟩
instance : UL Go.Proofs.Tryz.prog 217 (.func #[66] #[4] false) := ⟨Go.Proofs.Tryz.underlying217⟩
instance : TI Go.Proofs.Tryz.prog 217 (.nilFunc) 1 8 := ⟨by kernel_rfl⟩
instance : UL Go.Proofs.Tryz.prog 218 (.func #[9, 21] #[3] false) := ⟨Go.Proofs.Tryz.underlying218⟩
instance : TI Go.Proofs.Tryz.prog 218 (.nilFunc) 1 8 := ⟨by kernel_rfl⟩
instance : UL Go.Proofs.Tryz.prog 219 (.unsafePointer) := ⟨Go.Proofs.Tryz.underlying219⟩
instance : TI Go.Proofs.Tryz.prog 219 (.pointer none) 1 8 := ⟨by kernel_rfl⟩
instance : UL Go.Proofs.Tryz.prog 220 (.func #[219] #[219] false) := ⟨Go.Proofs.Tryz.underlying220⟩
instance : TI Go.Proofs.Tryz.prog 220 (.nilFunc) 1 8 := ⟨by kernel_rfl⟩
instance : UL Go.Proofs.Tryz.prog 221 (.func #[3] #[49] false) := ⟨Go.Proofs.Tryz.underlying221⟩
instance : TI Go.Proofs.Tryz.prog 221 (.nilFunc) 1 8 := ⟨by kernel_rfl⟩
instance : UL Go.Proofs.Tryz.prog 222 (.func #[2, 3] #[9] false) := ⟨Go.Proofs.Tryz.underlying222⟩
instance : TI Go.Proofs.Tryz.prog 222 (.nilFunc) 1 8 := ⟨by kernel_rfl⟩
instance : UL Go.Proofs.Tryz.prog 223 (.func #[9] #[66, 66] false) := ⟨Go.Proofs.Tryz.underlying223⟩
instance : TI Go.Proofs.Tryz.prog 223 (.nilFunc) 1 8 := ⟨by kernel_rfl⟩
instance : UL Go.Proofs.Tryz.prog 224 (.int .i64) := ⟨Go.Proofs.Tryz.underlying224⟩
instance : TI Go.Proofs.Tryz.prog 224 (.int .i64 0) 1 8 := ⟨by kernel_rfl⟩
instance : TI Go.Proofs.Tryz.prog 225 (.tuple #[.int .u64 0, .nilIface]) 1 0 := ⟨by kernel_rfl⟩
instance : UL Go.Proofs.Tryz.prog 226 (.func #[9, 3, 3] #[141, 178] false) := ⟨Go.Proofs.Tryz.underlying226⟩
instance : TI Go.Proofs.Tryz.prog 226 (.nilFunc) 1 8 := ⟨by kernel_rfl⟩
instance : UL Go.Proofs.Tryz.prog 227 (.pointer 243) := ⟨Go.Proofs.Tryz.underlying227⟩
instance : TI Go.Proofs.Tryz.prog 227 (.pointer none) 1 8 := ⟨by kernel_rfl⟩
instance : UL Go.Proofs.Tryz.prog 228 (.func #[9, 9] #[227] false) := ⟨Go.Proofs.Tryz.underlying228⟩
instance : TI Go.Proofs.Tryz.prog 228 (.nilFunc) 1 8 := ⟨by kernel_rfl⟩
instance : UL Go.Proofs.Tryz.prog 229 (.func #[9, 9, 3] #[227] false) := ⟨Go.Proofs.Tryz.underlying229⟩
instance : TI Go.Proofs.Tryz.prog 229 (.nilFunc) 1 8 := ⟨by kernel_rfl⟩
instance : UL Go.Proofs.Tryz.prog 230 (.array 256 5) := ⟨Go.Proofs.Tryz.underlying230⟩
instance : UL Go.Proofs.Tryz.prog 231 (.struct #[{ name := "lo", type := 5, offset := 0, embedded := false, tag := "", pkgPath := "unicode/utf8", byteOffset := 0 }, { name := "hi", type := 5, offset := 1, embedded := false, tag := "", pkgPath := "unicode/utf8", byteOffset := 1 }]) := ⟨Go.Proofs.Tryz.underlying231⟩
instance : TI Go.Proofs.Tryz.prog 231 (.agg #[.int .u8 0, .int .u8 0]) 2 2 := ⟨by kernel_rfl⟩
instance : UL Go.Proofs.Tryz.prog 232 (.struct #[{ name := "lo", type := 5, offset := 0, embedded := false, tag := "", pkgPath := "unicode/utf8", byteOffset := 0 }, { name := "hi", type := 5, offset := 1, embedded := false, tag := "", pkgPath := "unicode/utf8", byteOffset := 1 }]) := ⟨Go.Proofs.Tryz.underlying232⟩
instance : TI Go.Proofs.Tryz.prog 232 (.agg #[.int .u8 0, .int .u8 0]) 2 2 := ⟨by kernel_rfl⟩
instance : UL Go.Proofs.Tryz.prog 233 (.array 16 232) := ⟨Go.Proofs.Tryz.underlying233⟩
instance : TI Go.Proofs.Tryz.prog 233 (.agg #[.int .u8 0, .int .u8 0, .int .u8 0, .int .u8 0, .int .u8 0, .int .u8 0, .int .u8 0, .int .u8 0, .int .u8 0, .int .u8 0, .int .u8 0, .int .u8 0, .int .u8 0, .int .u8 0, .int .u8 0, .int .u8 0, .int .u8 0, .int .u8 0, .int .u8 0, .int .u8 0, .int .u8 0, .int .u8 0, .int .u8 0, .int .u8 0, .int .u8 0, .int .u8 0, .int .u8 0, .int .u8 0, .int .u8 0, .int .u8 0, .int .u8 0, .int .u8 0]) 32 32 := ⟨by kernel_rfl⟩
instance : UL Go.Proofs.Tryz.prog 234 (.func #[21] #[4] false) := ⟨Go.Proofs.Tryz.underlying234⟩
instance : TI Go.Proofs.Tryz.prog 234 (.nilFunc) 1 8 := ⟨by kernel_rfl⟩
instance : UL Go.Proofs.Tryz.prog 235 (.array 24 5) := ⟨Go.Proofs.Tryz.underlying235⟩
instance : TI Go.Proofs.Tryz.prog 235 (.agg #[.int .u8 0, .int .u8 0, .int .u8 0, .int .u8 0, .int .u8 0, .int .u8 0, .int .u8 0, .int .u8 0, .int .u8 0, .int .u8 0, .int .u8 0, .int .u8 0, .int .u8 0, .int .u8 0, .int .u8 0, .int .u8 0, .int .u8 0, .int .u8 0, .int .u8 0, .int .u8 0, .int .u8 0, .int .u8 0, .int .u8 0, .int .u8 0]) 24 24 := ⟨by kernel_rfl⟩
instance : UL Go.Proofs.Tryz.prog 236 (.func #[141] #[3] false) := ⟨Go.Proofs.Tryz.underlying236⟩
instance : TI Go.Proofs.Tryz.prog 236 (.nilFunc) 1 8 := ⟨by kernel_rfl⟩
instance : UL Go.Proofs.Tryz.prog 237 (.func #[49, 141] #[] false) := ⟨Go.Proofs.Tryz.underlying237⟩
instance : TI Go.Proofs.Tryz.prog 237 (.nilFunc) 1 8 := ⟨by kernel_rfl⟩
instance : TI Go.Proofs.Tryz.prog 238 (.tuple #[.slice none 0 0, .string ⟨#[]⟩]) 1 0 := ⟨by kernel_rfl⟩
instance : UL Go.Proofs.Tryz.prog 239 (.func #[49, 141, 3, 4, 4] #[49, 9] false) := ⟨Go.Proofs.Tryz.underlying239⟩
instance : TI Go.Proofs.Tryz.prog 239 (.nilFunc) 1 8 := ⟨by kernel_rfl⟩
instance : UL Go.Proofs.Tryz.prog 240 (.func #[5] #[5] false) := ⟨Go.Proofs.Tryz.underlying240⟩
instance : TI Go.Proofs.Tryz.prog 240 (.nilFunc) 1 8 := ⟨by kernel_rfl⟩
instance : UL Go.Proofs.Tryz.prog 241 (.func #[9] #[9] false) := ⟨Go.Proofs.Tryz.underlying241⟩
instance : TI Go.Proofs.Tryz.prog 241 (.nilFunc) 1 8 := ⟨by kernel_rfl⟩
instance : UL Go.Proofs.Tryz.prog 242 (.struct #[{ name := "Func", type := 9, offset := 0, embedded := false, tag := "", pkgPath := "", byteOffset := 0 }, { name := "Num", type := 9, offset := 1, embedded := false, tag := "", pkgPath := "", byteOffset := 16 }, { name := "Err", type := 178, offset := 2, embedded := false, tag := "", pkgPath := "", byteOffset := 32 }]) := ⟨Go.Proofs.Tryz.underlying242⟩
instance : TI Go.Proofs.Tryz.prog 242 (.agg #[.string ⟨#[]⟩, .string ⟨#[]⟩, .nilIface]) 3 48 := ⟨by kernel_rfl⟩
instance : UL Go.Proofs.Tryz.prog 243 (.struct #[{ name := "Func", type := 9, offset := 0, embedded := false, tag := "", pkgPath := "", byteOffset := 0 }, { name := "Num", type := 9, offset := 1, embedded := false, tag := "", pkgPath := "", byteOffset := 16 }, { name := "Err", type := 178, offset := 2, embedded := false, tag := "", pkgPath := "", byteOffset := 32 }]) := ⟨Go.Proofs.Tryz.underlying243⟩
instance : TI Go.Proofs.Tryz.prog 243 (.agg #[.string ⟨#[]⟩, .string ⟨#[]⟩, .nilIface]) 3 48 := ⟨by kernel_rfl⟩
instance : UL Go.Proofs.Tryz.prog 244 (.func #[9] #[178] false) := ⟨Go.Proofs.Tryz.underlying244⟩
instance : TI Go.Proofs.Tryz.prog 244 (.nilFunc) 1 8 := ⟨by kernel_rfl⟩
instance : UL Go.Proofs.Tryz.prog 245 (.func #[4] #[3] false) := ⟨Go.Proofs.Tryz.underlying245⟩
instance : TI Go.Proofs.Tryz.prog 245 (.nilFunc) 1 8 := ⟨by kernel_rfl⟩
instance : UL Go.Proofs.Tryz.prog 246 (.array 20 141) := ⟨Go.Proofs.Tryz.underlying246⟩
instance : TI Go.Proofs.Tryz.prog 246 (.agg #[.int .u64 0, .int .u64 0, .int .u64 0, .int .u64 0, .int .u64 0, .int .u64 0, .int .u64 0, .int .u64 0, .int .u64 0, .int .u64 0, .int .u64 0, .int .u64 0, .int .u64 0, .int .u64 0, .int .u64 0, .int .u64 0, .int .u64 0, .int .u64 0, .int .u64 0, .int .u64 0]) 20 160 := ⟨by kernel_rfl⟩
instance : UL Go.Proofs.Tryz.prog 247 (.array 65 5) := ⟨Go.Proofs.Tryz.underlying247⟩
instance : UL Go.Proofs.Tryz.prog 248 (.func #[40] #[3] false) := ⟨Go.Proofs.Tryz.underlying248⟩
instance : TI Go.Proofs.Tryz.prog 248 (.nilFunc) 1 8 := ⟨by kernel_rfl⟩
instance : UL Go.Proofs.Tryz.prog 249 (.pointer 251) := ⟨Go.Proofs.Tryz.underlying249⟩
instance : TI Go.Proofs.Tryz.prog 249 (.pointer none) 1 8 := ⟨by kernel_rfl⟩
instance : UL Go.Proofs.Tryz.prog 250 (.struct #[{ name := "s", type := 9, offset := 0, embedded := false, tag := "", pkgPath := "errors", byteOffset := 0 }]) := ⟨Go.Proofs.Tryz.underlying250⟩
instance : TI Go.Proofs.Tryz.prog 250 (.agg #[.string ⟨#[]⟩]) 1 16 := ⟨by kernel_rfl⟩
instance : UL Go.Proofs.Tryz.prog 251 (.struct #[{ name := "s", type := 9, offset := 0, embedded := false, tag := "", pkgPath := "errors", byteOffset := 0 }]) := ⟨Go.Proofs.Tryz.underlying251⟩
instance : TI Go.Proofs.Tryz.prog 251 (.agg #[.string ⟨#[]⟩]) 1 16 := ⟨by kernel_rfl⟩
instance : UL Go.Proofs.Tryz.prog 252 (.func #[66] #[3] false) := ⟨Go.Proofs.Tryz.underlying252⟩
instance : TI Go.Proofs.Tryz.prog 252 (.nilFunc) 1 8 := ⟨by kernel_rfl⟩
instance : UL Go.Proofs.Tryz.prog 253 (.array 32 5) := ⟨Go.Proofs.Tryz.underlying253⟩
instance : TI Go.Proofs.Tryz.prog 253 (.agg #[.int .u8 0, .int .u8 0, .int .u8 0, .int .u8 0, .int .u8 0, .int .u8 0, .int .u8 0, .int .u8 0, .int .u8 0, .int .u8 0, .int .u8 0, .int .u8 0, .int .u8 0, .int .u8 0, .int .u8 0, .int .u8 0, .int .u8 0, .int .u8 0, .int .u8 0, .int .u8 0, .int .u8 0, .int .u8 0, .int .u8 0, .int .u8 0, .int .u8 0, .int .u8 0, .int .u8 0, .int .u8 0, .int .u8 0, .int .u8 0, .int .u8 0, .int .u8 0]) 32 32 := ⟨by kernel_rfl⟩
instance : UL Go.Proofs.Tryz.prog 254 (.array 64 5) := ⟨Go.Proofs.Tryz.underlying254⟩
instance : TI Go.Proofs.Tryz.prog 254 (.agg #[.int .u8 0, .int .u8 0, .int .u8 0, .int .u8 0, .int .u8 0, .int .u8 0, .int .u8 0, .int .u8 0, .int .u8 0, .int .u8 0, .int .u8 0, .int .u8 0, .int .u8 0, .int .u8 0, .int .u8 0, .int .u8 0, .int .u8 0, .int .u8 0, .int .u8 0, .int .u8 0, .int .u8 0, .int .u8 0, .int .u8 0, .int .u8 0, .int .u8 0, .int .u8 0, .int .u8 0, .int .u8 0, .int .u8 0, .int .u8 0, .int .u8 0, .int .u8 0, .int .u8 0, .int .u8 0, .int .u8 0, .int .u8 0, .int .u8 0, .int .u8 0, .int .u8 0, .int .u8 0, .int .u8 0, .int .u8 0, .int .u8 0, .int .u8 0, .int .u8 0, .int .u8 0, .int .u8 0, .int .u8 0, .int .u8 0, .int .u8 0, .int .u8 0, .int .u8 0, .int .u8 0, .int .u8 0, .int .u8 0, .int .u8 0, .int .u8 0, .int .u8 0, .int .u8 0, .int .u8 0, .int .u8 0, .int .u8 0, .int .u8 0, .int .u8 0]) 64 64 := ⟨by kernel_rfl⟩
instance : UL Go.Proofs.Tryz.prog 255 (.struct #[{ name := "_interface", type := 17, offset := 0, embedded := false, tag := "", pkgPath := "runtime", byteOffset := 0 }, { name := "concrete", type := 17, offset := 1, embedded := false, tag := "", pkgPath := "runtime", byteOffset := 8 }, { name := "asserted", type := 17, offset := 2, embedded := false, tag := "", pkgPath := "runtime", byteOffset := 16 }, { name := "missingMethod", type := 9, offset := 3, embedded := false, tag := "", pkgPath := "runtime", byteOffset := 24 }]) := ⟨Go.Proofs.Tryz.underlying255⟩
instance : TI Go.Proofs.Tryz.prog 255 (.agg #[.pointer none, .pointer none, .pointer none, .string ⟨#[]⟩]) 4 40 := ⟨by kernel_rfl⟩
instance : UL Go.Proofs.Tryz.prog 256 (.struct #[{ name := "_interface", type := 17, offset := 0, embedded := false, tag := "", pkgPath := "runtime", byteOffset := 0 }, { name := "concrete", type := 17, offset := 1, embedded := false, tag := "", pkgPath := "runtime", byteOffset := 8 }, { name := "asserted", type := 17, offset := 2, embedded := false, tag := "", pkgPath := "runtime", byteOffset := 16 }, { name := "missingMethod", type := 9, offset := 3, embedded := false, tag := "", pkgPath := "runtime", byteOffset := 24 }]) := ⟨Go.Proofs.Tryz.underlying256⟩
instance : TI Go.Proofs.Tryz.prog 256 (.agg #[.pointer none, .pointer none, .pointer none, .string ⟨#[]⟩]) 4 40 := ⟨by kernel_rfl⟩
instance : UL Go.Proofs.Tryz.prog 257 (.array 0 16) := ⟨Go.Proofs.Tryz.underlying257⟩
instance : TI Go.Proofs.Tryz.prog 257 (.agg #[]) 0 0 := ⟨by kernel_rfl⟩
instance : UL Go.Proofs.Tryz.prog 258 (.struct #[{ name := "_", type := 257, offset := 0, embedded := false, tag := "", pkgPath := "runtime", byteOffset := 0 }]) := ⟨Go.Proofs.Tryz.underlying258⟩
instance : TI Go.Proofs.Tryz.prog 258 (.agg #[]) 0 0 := ⟨by kernel_rfl⟩
instance : UL Go.Proofs.Tryz.prog 259 (.struct #[{ name := "_", type := 257, offset := 0, embedded := false, tag := "", pkgPath := "runtime", byteOffset := 0 }]) := ⟨Go.Proofs.Tryz.underlying259⟩
instance : TI Go.Proofs.Tryz.prog 259 (.agg #[]) 0 0 := ⟨by kernel_rfl⟩
instance : UL Go.Proofs.Tryz.prog 260 (.int .u8) := ⟨Go.Proofs.Tryz.underlying260⟩
instance : TI Go.Proofs.Tryz.prog 260 (.int .u8 0) 1 1 := ⟨by kernel_rfl⟩
instance : UL Go.Proofs.Tryz.prog 261 (.int .u8) := ⟨Go.Proofs.Tryz.underlying261⟩
instance : TI Go.Proofs.Tryz.prog 261 (.int .u8 0) 1 1 := ⟨by kernel_rfl⟩
instance : UL Go.Proofs.Tryz.prog 262 (.func #[219, 219] #[4] false) := ⟨Go.Proofs.Tryz.underlying262⟩
instance : TI Go.Proofs.Tryz.prog 262 (.nilFunc) 1 8 := ⟨by kernel_rfl⟩
instance : UL Go.Proofs.Tryz.prog 263 (.int .i32) := ⟨Go.Proofs.Tryz.underlying263⟩
instance : TI Go.Proofs.Tryz.prog 263 (.int .i32 0) 1 4 := ⟨by kernel_rfl⟩
instance : UL Go.Proofs.Tryz.prog 264 (.int .i32) := ⟨Go.Proofs.Tryz.underlying264⟩
instance : TI Go.Proofs.Tryz.prog 264 (.int .i32 0) 1 4 := ⟨by kernel_rfl⟩
instance : UL Go.Proofs.Tryz.prog 265 (.struct #[{ name := "Size_", type := 12, offset := 0, embedded := false, tag := "", pkgPath := "", byteOffset := 0 }, { name := "PtrBytes", type := 12, offset := 1, embedded := false, tag := "", pkgPath := "", byteOffset := 8 }, { name := "Hash", type := 66, offset := 2, embedded := false, tag := "", pkgPath := "", byteOffset := 16 }, { name := "TFlag", type := 260, offset := 3, embedded := false, tag := "", pkgPath := "", byteOffset := 20 }, { name := "Align_", type := 5, offset := 4, embedded := false, tag := "", pkgPath := "", byteOffset := 21 }, { name := "FieldAlign_", type := 5, offset := 5, embedded := false, tag := "", pkgPath := "", byteOffset := 22 }, { name := "Kind_", type := 261, offset := 6, embedded := false, tag := "", pkgPath := "", byteOffset := 23 }, { name := "Equal", type := 262, offset := 7, embedded := false, tag := "", pkgPath := "", byteOffset := 24 }, { name := "GCData", type := 208, offset := 8, embedded := false, tag := "", pkgPath := "", byteOffset := 32 }, { name := "Str", type := 263, offset := 9, embedded := false, tag := "", pkgPath := "", byteOffset := 40 }, { name := "PtrToThis", type := 264, offset := 10, embedded := false, tag := "", pkgPath := "", byteOffset := 44 }]) := ⟨Go.Proofs.Tryz.underlying265⟩
instance : TI Go.Proofs.Tryz.prog 265 (.agg #[.int .u64 0, .int .u64 0, .int .u32 0, .int .u8 0, .int .u8 0, .int .u8 0, .int .u8 0, .nilFunc, .pointer none, .int .i32 0, .int .i32 0]) 11 48 := ⟨by kernel_rfl⟩
instance : UL Go.Proofs.Tryz.prog 266 (.struct #[{ name := "Size_", type := 12, offset := 0, embedded := false, tag := "", pkgPath := "", byteOffset := 0 }, { name := "PtrBytes", type := 12, offset := 1, embedded := false, tag := "", pkgPath := "", byteOffset := 8 }, { name := "Hash", type := 66, offset := 2, embedded := false, tag := "", pkgPath := "", byteOffset := 16 }, { name := "TFlag", type := 260, offset := 3, embedded := false, tag := "", pkgPath := "", byteOffset := 20 }, { name := "Align_", type := 5, offset := 4, embedded := false, tag := "", pkgPath := "", byteOffset := 21 }, { name := "FieldAlign_", type := 5, offset := 5, embedded := false, tag := "", pkgPath := "", byteOffset := 22 }, { name := "Kind_", type := 261, offset := 6, embedded := false, tag := "", pkgPath := "", byteOffset := 23 }, { name := "Equal", type := 262, offset := 7, embedded := false, tag := "", pkgPath := "", byteOffset := 24 }, { name := "GCData", type := 208, offset := 8, embedded := false, tag := "", pkgPath := "", byteOffset := 32 }, { name := "Str", type := 263, offset := 9, embedded := false, tag := "", pkgPath := "", byteOffset := 40 }, { name := "PtrToThis", type := 264, offset := 10, embedded := false, tag := "", pkgPath := "", byteOffset := 44 }]) := ⟨Go.Proofs.Tryz.underlying266⟩
instance : TI Go.Proofs.Tryz.prog 266 (.agg #[.int .u64 0, .int .u64 0, .int .u32 0, .int .u8 0, .int .u8 0, .int .u8 0, .int .u8 0, .nilFunc, .pointer none, .int .i32 0, .int .i32 0]) 11 48 := ⟨by kernel_rfl⟩
instance : FO Go.Proofs.Tryz.prog 7 0 0 1 := ⟨_, _, Go.Proofs.Tryz.underlying7, rfl, rfl, (by obtain ⟨i, h1, _, h2, _⟩ := (inferInstance : TI Go.Proofs.Tryz.prog 2 _ _ _).info; exact ⟨i, h1, h2⟩), by decide⟩
instance : FO Go.Proofs.Tryz.prog 7 1 1 1 := ⟨_, _, Go.Proofs.Tryz.underlying7, rfl, rfl, (by obtain ⟨i, h1, _, h2, _⟩ := (inferInstance : TI Go.Proofs.Tryz.prog 3 _ _ _).info; exact ⟨i, h1, h2⟩), by decide⟩
instance : FO Go.Proofs.Tryz.prog 7 2 2 1 := ⟨_, _, Go.Proofs.Tryz.underlying7, rfl, rfl, (by obtain ⟨i, h1, _, h2, _⟩ := (inferInstance : TI Go.Proofs.Tryz.prog 4 _ _ _).info; exact ⟨i, h1, h2⟩), by decide⟩
instance : FO Go.Proofs.Tryz.prog 7 3 3 1 := ⟨_, _, Go.Proofs.Tryz.underlying7, rfl, rfl, (by obtain ⟨i, h1, _, h2, _⟩ := (inferInstance : TI Go.Proofs.Tryz.prog 6 _ _ _).info; exact ⟨i, h1, h2⟩), by decide⟩
instance : FO Go.Proofs.Tryz.prog 8 0 0 1 := ⟨_, _, Go.Proofs.Tryz.underlying8, rfl, rfl, (by obtain ⟨i, h1, _, h2, _⟩ := (inferInstance : TI Go.Proofs.Tryz.prog 2 _ _ _).info; exact ⟨i, h1, h2⟩), by decide⟩
instance : FO Go.Proofs.Tryz.prog 8 1 1 1 := ⟨_, _, Go.Proofs.Tryz.underlying8, rfl, rfl, (by obtain ⟨i, h1, _, h2, _⟩ := (inferInstance : TI Go.Proofs.Tryz.prog 3 _ _ _).info; exact ⟨i, h1, h2⟩), by decide⟩
instance : FO Go.Proofs.Tryz.prog 8 2 2 1 := ⟨_, _, Go.Proofs.Tryz.underlying8, rfl, rfl, (by obtain ⟨i, h1, _, h2, _⟩ := (inferInstance : TI Go.Proofs.Tryz.prog 4 _ _ _).info; exact ⟨i, h1, h2⟩), by decide⟩
instance : FO Go.Proofs.Tryz.prog 8 3 3 1 := ⟨_, _, Go.Proofs.Tryz.underlying8, rfl, rfl, (by obtain ⟨i, h1, _, h2, _⟩ := (inferInstance : TI Go.Proofs.Tryz.prog 6 _ _ _).info; exact ⟨i, h1, h2⟩), by decide⟩
instance : FO Go.Proofs.Tryz.prog 13 0 0 1 := ⟨_, _, Go.Proofs.Tryz.underlying13, rfl, rfl, (by obtain ⟨i, h1, _, h2, _⟩ := (inferInstance : TI Go.Proofs.Tryz.prog 9 _ _ _).info; exact ⟨i, h1, h2⟩), by decide⟩
instance : FO Go.Proofs.Tryz.prog 13 1 1 1 := ⟨_, _, Go.Proofs.Tryz.underlying13, rfl, rfl, (by obtain ⟨i, h1, _, h2, _⟩ := (inferInstance : TI Go.Proofs.Tryz.prog 12 _ _ _).info; exact ⟨i, h1, h2⟩), by decide⟩
instance : FO Go.Proofs.Tryz.prog 14 0 0 1 := ⟨_, _, Go.Proofs.Tryz.underlying14, rfl, rfl, (by obtain ⟨i, h1, _, h2, _⟩ := (inferInstance : TI Go.Proofs.Tryz.prog 9 _ _ _).info; exact ⟨i, h1, h2⟩), by decide⟩
instance : FO Go.Proofs.Tryz.prog 14 1 1 1 := ⟨_, _, Go.Proofs.Tryz.underlying14, rfl, rfl, (by obtain ⟨i, h1, _, h2, _⟩ := (inferInstance : TI Go.Proofs.Tryz.prog 12 _ _ _).info; exact ⟨i, h1, h2⟩), by decide⟩
instance : FO Go.Proofs.Tryz.prog 18 0 0 1 := ⟨_, _, Go.Proofs.Tryz.underlying18, rfl, rfl, (by obtain ⟨i, h1, _, h2, _⟩ := (inferInstance : TI Go.Proofs.Tryz.prog 17 _ _ _).info; exact ⟨i, h1, h2⟩), by decide⟩
instance : FO Go.Proofs.Tryz.prog 19 0 0 1 := ⟨_, _, Go.Proofs.Tryz.underlying19, rfl, rfl, (by obtain ⟨i, h1, _, h2, _⟩ := (inferInstance : TI Go.Proofs.Tryz.prog 17 _ _ _).info; exact ⟨i, h1, h2⟩), by decide⟩
instance : FO Go.Proofs.Tryz.prog 23 0 0 1 := ⟨_, _, Go.Proofs.Tryz.underlying23, rfl, rfl, (by obtain ⟨i, h1, _, h2, _⟩ := (inferInstance : TI Go.Proofs.Tryz.prog 22 _ _ _).info; exact ⟨i, h1, h2⟩), by decide⟩
instance : FO Go.Proofs.Tryz.prog 23 1 1 1 := ⟨_, _, Go.Proofs.Tryz.underlying23, rfl, rfl, (by obtain ⟨i, h1, _, h2, _⟩ := (inferInstance : TI Go.Proofs.Tryz.prog 22 _ _ _).info; exact ⟨i, h1, h2⟩), by decide⟩
instance : FO Go.Proofs.Tryz.prog 24 0 0 1 := ⟨_, _, Go.Proofs.Tryz.underlying24, rfl, rfl, (by obtain ⟨i, h1, _, h2, _⟩ := (inferInstance : TI Go.Proofs.Tryz.prog 22 _ _ _).info; exact ⟨i, h1, h2⟩), by decide⟩
instance : FO Go.Proofs.Tryz.prog 24 1 1 1 := ⟨_, _, Go.Proofs.Tryz.underlying24, rfl, rfl, (by obtain ⟨i, h1, _, h2, _⟩ := (inferInstance : TI Go.Proofs.Tryz.prog 22 _ _ _).info; exact ⟨i, h1, h2⟩), by decide⟩
instance : FO Go.Proofs.Tryz.prog 27 0 0 1 := ⟨_, _, Go.Proofs.Tryz.underlying27, rfl, rfl, (by obtain ⟨i, h1, _, h2, _⟩ := (inferInstance : TI Go.Proofs.Tryz.prog 4 _ _ _).info; exact ⟨i, h1, h2⟩), by decide⟩
instance : FO Go.Proofs.Tryz.prog 27 1 1 1 := ⟨_, _, Go.Proofs.Tryz.underlying27, rfl, rfl, (by obtain ⟨i, h1, _, h2, _⟩ := (inferInstance : TI Go.Proofs.Tryz.prog 25 _ _ _).info; exact ⟨i, h1, h2⟩), by decide⟩
instance : FO Go.Proofs.Tryz.prog 27 2 2 1 := ⟨_, _, Go.Proofs.Tryz.underlying27, rfl, rfl, (by obtain ⟨i, h1, _, h2, _⟩ := (inferInstance : TI Go.Proofs.Tryz.prog 26 _ _ _).info; exact ⟨i, h1, h2⟩), by decide⟩
instance : FO Go.Proofs.Tryz.prog 28 0 0 1 := ⟨_, _, Go.Proofs.Tryz.underlying28, rfl, rfl, (by obtain ⟨i, h1, _, h2, _⟩ := (inferInstance : TI Go.Proofs.Tryz.prog 4 _ _ _).info; exact ⟨i, h1, h2⟩), by decide⟩
instance : FO Go.Proofs.Tryz.prog 28 1 1 1 := ⟨_, _, Go.Proofs.Tryz.underlying28, rfl, rfl, (by obtain ⟨i, h1, _, h2, _⟩ := (inferInstance : TI Go.Proofs.Tryz.prog 25 _ _ _).info; exact ⟨i, h1, h2⟩), by decide⟩
instance : FO Go.Proofs.Tryz.prog 28 2 2 1 := ⟨_, _, Go.Proofs.Tryz.underlying28, rfl, rfl, (by obtain ⟨i, h1, _, h2, _⟩ := (inferInstance : TI Go.Proofs.Tryz.prog 26 _ _ _).info; exact ⟨i, h1, h2⟩), by decide⟩
instance : FO Go.Proofs.Tryz.prog 29 0 0 3 := ⟨_, _, Go.Proofs.Tryz.underlying29, rfl, rfl, (by obtain ⟨i, h1, _, h2, _⟩ := (inferInstance : TI Go.Proofs.Tryz.prog 28 _ _ _).info; exact ⟨i, h1, h2⟩), by decide⟩
instance : FO Go.Proofs.Tryz.prog 29 1 3 3 := ⟨_, _, Go.Proofs.Tryz.underlying29, rfl, rfl, (by obtain ⟨i, h1, _, h2, _⟩ := (inferInstance : TI Go.Proofs.Tryz.prog 28 _ _ _).info; exact ⟨i, h1, h2⟩), by decide⟩
instance : FO Go.Proofs.Tryz.prog 30 0 0 3 := ⟨_, _, Go.Proofs.Tryz.underlying30, rfl, rfl, (by obtain ⟨i, h1, _, h2, _⟩ := (inferInstance : TI Go.Proofs.Tryz.prog 28 _ _ _).info; exact ⟨i, h1, h2⟩), by decide⟩
instance : FO Go.Proofs.Tryz.prog 30 1 3 3 := ⟨_, _, Go.Proofs.Tryz.underlying30, rfl, rfl, (by obtain ⟨i, h1, _, h2, _⟩ := (inferInstance : TI Go.Proofs.Tryz.prog 28 _ _ _).info; exact ⟨i, h1, h2⟩), by decide⟩
instance : FO Go.Proofs.Tryz.prog 31 0 0 2 := ⟨_, _, Go.Proofs.Tryz.underlying31, rfl, rfl, (by obtain ⟨i, h1, _, h2, _⟩ := (inferInstance : TI Go.Proofs.Tryz.prog 24 _ _ _).info; exact ⟨i, h1, h2⟩), by decide⟩
instance : FO Go.Proofs.Tryz.prog 31 1 2 2 := ⟨_, _, Go.Proofs.Tryz.underlying31, rfl, rfl, (by obtain ⟨i, h1, _, h2, _⟩ := (inferInstance : TI Go.Proofs.Tryz.prog 24 _ _ _).info; exact ⟨i, h1, h2⟩), by decide⟩
instance : FO Go.Proofs.Tryz.prog 31 2 4 6 := ⟨_, _, Go.Proofs.Tryz.underlying31, rfl, rfl, (by obtain ⟨i, h1, _, h2, _⟩ := (inferInstance : TI Go.Proofs.Tryz.prog 30 _ _ _).info; exact ⟨i, h1, h2⟩), by decide⟩
instance : FO Go.Proofs.Tryz.prog 31 3 10 6 := ⟨_, _, Go.Proofs.Tryz.underlying31, rfl, rfl, (by obtain ⟨i, h1, _, h2, _⟩ := (inferInstance : TI Go.Proofs.Tryz.prog 30 _ _ _).info; exact ⟨i, h1, h2⟩), by decide⟩
instance : FO Go.Proofs.Tryz.prog 32 0 0 2 := ⟨_, _, Go.Proofs.Tryz.underlying32, rfl, rfl, (by obtain ⟨i, h1, _, h2, _⟩ := (inferInstance : TI Go.Proofs.Tryz.prog 24 _ _ _).info; exact ⟨i, h1, h2⟩), by decide⟩
instance : FO Go.Proofs.Tryz.prog 32 1 2 2 := ⟨_, _, Go.Proofs.Tryz.underlying32, rfl, rfl, (by obtain ⟨i, h1, _, h2, _⟩ := (inferInstance : TI Go.Proofs.Tryz.prog 24 _ _ _).info; exact ⟨i, h1, h2⟩), by decide⟩
instance : FO Go.Proofs.Tryz.prog 32 2 4 6 := ⟨_, _, Go.Proofs.Tryz.underlying32, rfl, rfl, (by obtain ⟨i, h1, _, h2, _⟩ := (inferInstance : TI Go.Proofs.Tryz.prog 30 _ _ _).info; exact ⟨i, h1, h2⟩), by decide⟩
instance : FO Go.Proofs.Tryz.prog 32 3 10 6 := ⟨_, _, Go.Proofs.Tryz.underlying32, rfl, rfl, (by obtain ⟨i, h1, _, h2, _⟩ := (inferInstance : TI Go.Proofs.Tryz.prog 30 _ _ _).info; exact ⟨i, h1, h2⟩), by decide⟩
instance : FO Go.Proofs.Tryz.prog 86 0 0 1 := ⟨_, _, Go.Proofs.Tryz.underlying86, rfl, rfl, (by obtain ⟨i, h1, _, h2, _⟩ := (inferInstance : TI Go.Proofs.Tryz.prog 4 _ _ _).info; exact ⟨i, h1, h2⟩), by decide⟩
instance : FO Go.Proofs.Tryz.prog 86 1 1 1 := ⟨_, _, Go.Proofs.Tryz.underlying86, rfl, rfl, (by obtain ⟨i, h1, _, h2, _⟩ := (inferInstance : TI Go.Proofs.Tryz.prog 85 _ _ _).info; exact ⟨i, h1, h2⟩), by decide⟩
instance : FO Go.Proofs.Tryz.prog 87 0 0 1 := ⟨_, _, Go.Proofs.Tryz.underlying87, rfl, rfl, (by obtain ⟨i, h1, _, h2, _⟩ := (inferInstance : TI Go.Proofs.Tryz.prog 4 _ _ _).info; exact ⟨i, h1, h2⟩), by decide⟩
instance : FO Go.Proofs.Tryz.prog 87 1 1 1 := ⟨_, _, Go.Proofs.Tryz.underlying87, rfl, rfl, (by obtain ⟨i, h1, _, h2, _⟩ := (inferInstance : TI Go.Proofs.Tryz.prog 85 _ _ _).info; exact ⟨i, h1, h2⟩), by decide⟩
instance : FO Go.Proofs.Tryz.prog 88 0 0 2 := ⟨_, _, Go.Proofs.Tryz.underlying88, rfl, rfl, (by obtain ⟨i, h1, _, h2, _⟩ := (inferInstance : TI Go.Proofs.Tryz.prog 87 _ _ _).info; exact ⟨i, h1, h2⟩), by decide⟩
instance : FO Go.Proofs.Tryz.prog 88 1 2 2 := ⟨_, _, Go.Proofs.Tryz.underlying88, rfl, rfl, (by obtain ⟨i, h1, _, h2, _⟩ := (inferInstance : TI Go.Proofs.Tryz.prog 87 _ _ _).info; exact ⟨i, h1, h2⟩), by decide⟩
instance : FO Go.Proofs.Tryz.prog 89 0 0 2 := ⟨_, _, Go.Proofs.Tryz.underlying89, rfl, rfl, (by obtain ⟨i, h1, _, h2, _⟩ := (inferInstance : TI Go.Proofs.Tryz.prog 87 _ _ _).info; exact ⟨i, h1, h2⟩), by decide⟩
instance : FO Go.Proofs.Tryz.prog 89 1 2 2 := ⟨_, _, Go.Proofs.Tryz.underlying89, rfl, rfl, (by obtain ⟨i, h1, _, h2, _⟩ := (inferInstance : TI Go.Proofs.Tryz.prog 87 _ _ _).info; exact ⟨i, h1, h2⟩), by decide⟩
instance : FO Go.Proofs.Tryz.prog 99 0 0 1 := ⟨_, _, Go.Proofs.Tryz.underlying99, rfl, rfl, (by obtain ⟨i, h1, _, h2, _⟩ := (inferInstance : TI Go.Proofs.Tryz.prog 98 _ _ _).info; exact ⟨i, h1, h2⟩), by decide⟩
instance : FO Go.Proofs.Tryz.prog 99 1 1 1 := ⟨_, _, Go.Proofs.Tryz.underlying99, rfl, rfl, (by obtain ⟨i, h1, _, h2, _⟩ := (inferInstance : TI Go.Proofs.Tryz.prog 4 _ _ _).info; exact ⟨i, h1, h2⟩), by decide⟩
instance : FO Go.Proofs.Tryz.prog 100 0 0 1 := ⟨_, _, Go.Proofs.Tryz.underlying100, rfl, rfl, (by obtain ⟨i, h1, _, h2, _⟩ := (inferInstance : TI Go.Proofs.Tryz.prog 98 _ _ _).info; exact ⟨i, h1, h2⟩), by decide⟩
instance : FO Go.Proofs.Tryz.prog 100 1 1 1 := ⟨_, _, Go.Proofs.Tryz.underlying100, rfl, rfl, (by obtain ⟨i, h1, _, h2, _⟩ := (inferInstance : TI Go.Proofs.Tryz.prog 4 _ _ _).info; exact ⟨i, h1, h2⟩), by decide⟩
instance : FO Go.Proofs.Tryz.prog 101 0 0 2 := ⟨_, _, Go.Proofs.Tryz.underlying101, rfl, rfl, (by obtain ⟨i, h1, _, h2, _⟩ := (inferInstance : TI Go.Proofs.Tryz.prog 100 _ _ _).info; exact ⟨i, h1, h2⟩), by decide⟩
instance : FO Go.Proofs.Tryz.prog 101 1 2 1 := ⟨_, _, Go.Proofs.Tryz.underlying101, rfl, rfl, (by obtain ⟨i, h1, _, h2, _⟩ := (inferInstance : TI Go.Proofs.Tryz.prog 98 _ _ _).info; exact ⟨i, h1, h2⟩), by decide⟩
instance : FO Go.Proofs.Tryz.prog 102 0 0 2 := ⟨_, _, Go.Proofs.Tryz.underlying102, rfl, rfl, (by obtain ⟨i, h1, _, h2, _⟩ := (inferInstance : TI Go.Proofs.Tryz.prog 100 _ _ _).info; exact ⟨i, h1, h2⟩), by decide⟩
instance : FO Go.Proofs.Tryz.prog 102 1 2 1 := ⟨_, _, Go.Proofs.Tryz.underlying102, rfl, rfl, (by obtain ⟨i, h1, _, h2, _⟩ := (inferInstance : TI Go.Proofs.Tryz.prog 98 _ _ _).info; exact ⟨i, h1, h2⟩), by decide⟩
instance : FO Go.Proofs.Tryz.prog 144 0 0 1 := ⟨_, _, Go.Proofs.Tryz.underlying144, rfl, rfl, (by obtain ⟨i, h1, _, h2, _⟩ := (inferInstance : TI Go.Proofs.Tryz.prog 143 _ _ _).info; exact ⟨i, h1, h2⟩), by decide⟩
instance : FO Go.Proofs.Tryz.prog 144 1 1 1 := ⟨_, _, Go.Proofs.Tryz.underlying144, rfl, rfl, (by obtain ⟨i, h1, _, h2, _⟩ := (inferInstance : TI Go.Proofs.Tryz.prog 4 _ _ _).info; exact ⟨i, h1, h2⟩), by decide⟩
instance : FO Go.Proofs.Tryz.prog 145 0 0 1 := ⟨_, _, Go.Proofs.Tryz.underlying145, rfl, rfl, (by obtain ⟨i, h1, _, h2, _⟩ := (inferInstance : TI Go.Proofs.Tryz.prog 143 _ _ _).info; exact ⟨i, h1, h2⟩), by decide⟩
instance : FO Go.Proofs.Tryz.prog 145 1 1 1 := ⟨_, _, Go.Proofs.Tryz.underlying145, rfl, rfl, (by obtain ⟨i, h1, _, h2, _⟩ := (inferInstance : TI Go.Proofs.Tryz.prog 4 _ _ _).info; exact ⟨i, h1, h2⟩), by decide⟩
instance : FO Go.Proofs.Tryz.prog 174 0 0 1 := ⟨_, _, Go.Proofs.Tryz.underlying174, rfl, rfl, (by obtain ⟨i, h1, _, h2, _⟩ := (inferInstance : TI Go.Proofs.Tryz.prog 173 _ _ _).info; exact ⟨i, h1, h2⟩), by decide⟩
instance : FO Go.Proofs.Tryz.prog 174 1 1 1 := ⟨_, _, Go.Proofs.Tryz.underlying174, rfl, rfl, (by obtain ⟨i, h1, _, h2, _⟩ := (inferInstance : TI Go.Proofs.Tryz.prog 49 _ _ _).info; exact ⟨i, h1, h2⟩), by decide⟩
instance : FO Go.Proofs.Tryz.prog 175 0 0 1 := ⟨_, _, Go.Proofs.Tryz.underlying175, rfl, rfl, (by obtain ⟨i, h1, _, h2, _⟩ := (inferInstance : TI Go.Proofs.Tryz.prog 173 _ _ _).info; exact ⟨i, h1, h2⟩), by decide⟩
instance : FO Go.Proofs.Tryz.prog 175 1 1 1 := ⟨_, _, Go.Proofs.Tryz.underlying175, rfl, rfl, (by obtain ⟨i, h1, _, h2, _⟩ := (inferInstance : TI Go.Proofs.Tryz.prog 49 _ _ _).info; exact ⟨i, h1, h2⟩), by decide⟩
instance : FO Go.Proofs.Tryz.prog 231 0 0 1 := ⟨_, _, Go.Proofs.Tryz.underlying231, rfl, rfl, (by obtain ⟨i, h1, _, h2, _⟩ := (inferInstance : TI Go.Proofs.Tryz.prog 5 _ _ _).info; exact ⟨i, h1, h2⟩), by decide⟩
instance : FO Go.Proofs.Tryz.prog 231 1 1 1 := ⟨_, _, Go.Proofs.Tryz.underlying231, rfl, rfl, (by obtain ⟨i, h1, _, h2, _⟩ := (inferInstance : TI Go.Proofs.Tryz.prog 5 _ _ _).info; exact ⟨i, h1, h2⟩), by decide⟩
instance : FO Go.Proofs.Tryz.prog 232 0 0 1 := ⟨_, _, Go.Proofs.Tryz.underlying232, rfl, rfl, (by obtain ⟨i, h1, _, h2, _⟩ := (inferInstance : TI Go.Proofs.Tryz.prog 5 _ _ _).info; exact ⟨i, h1, h2⟩), by decide⟩
instance : FO Go.Proofs.Tryz.prog 232 1 1 1 := ⟨_, _, Go.Proofs.Tryz.underlying232, rfl, rfl, (by obtain ⟨i, h1, _, h2, _⟩ := (inferInstance : TI Go.Proofs.Tryz.prog 5 _ _ _).info; exact ⟨i, h1, h2⟩), by decide⟩
instance : FO Go.Proofs.Tryz.prog 242 0 0 1 := ⟨_, _, Go.Proofs.Tryz.underlying242, rfl, rfl, (by obtain ⟨i, h1, _, h2, _⟩ := (inferInstance : TI Go.Proofs.Tryz.prog 9 _ _ _).info; exact ⟨i, h1, h2⟩), by decide⟩
instance : FO Go.Proofs.Tryz.prog 242 1 1 1 := ⟨_, _, Go.Proofs.Tryz.underlying242, rfl, rfl, (by obtain ⟨i, h1, _, h2, _⟩ := (inferInstance : TI Go.Proofs.Tryz.prog 9 _ _ _).info; exact ⟨i, h1, h2⟩), by decide⟩
instance : FO Go.Proofs.Tryz.prog 242 2 2 1 := ⟨_, _, Go.Proofs.Tryz.underlying242, rfl, rfl, (by obtain ⟨i, h1, _, h2, _⟩ := (inferInstance : TI Go.Proofs.Tryz.prog 178 _ _ _).info; exact ⟨i, h1, h2⟩), by decide⟩
instance : FO Go.Proofs.Tryz.prog 243 0 0 1 := ⟨_, _, Go.Proofs.Tryz.underlying243, rfl, rfl, (by obtain ⟨i, h1, _, h2, _⟩ := (inferInstance : TI Go.Proofs.Tryz.prog 9 _ _ _).info; exact ⟨i, h1, h2⟩), by decide⟩
instance : FO Go.Proofs.Tryz.prog 243 1 1 1 := ⟨_, _, Go.Proofs.Tryz.underlying243, rfl, rfl, (by obtain ⟨i, h1, _, h2, _⟩ := (inferInstance : TI Go.Proofs.Tryz.prog 9 _ _ _).info; exact ⟨i, h1, h2⟩), by decide⟩
instance : FO Go.Proofs.Tryz.prog 243 2 2 1 := ⟨_, _, Go.Proofs.Tryz.underlying243, rfl, rfl, (by obtain ⟨i, h1, _, h2, _⟩ := (inferInstance : TI Go.Proofs.Tryz.prog 178 _ _ _).info; exact ⟨i, h1, h2⟩), by decide⟩
instance : FO Go.Proofs.Tryz.prog 250 0 0 1 := ⟨_, _, Go.Proofs.Tryz.underlying250, rfl, rfl, (by obtain ⟨i, h1, _, h2, _⟩ := (inferInstance : TI Go.Proofs.Tryz.prog 9 _ _ _).info; exact ⟨i, h1, h2⟩), by decide⟩
instance : FO Go.Proofs.Tryz.prog 251 0 0 1 := ⟨_, _, Go.Proofs.Tryz.underlying251, rfl, rfl, (by obtain ⟨i, h1, _, h2, _⟩ := (inferInstance : TI Go.Proofs.Tryz.prog 9 _ _ _).info; exact ⟨i, h1, h2⟩), by decide⟩
instance : FO Go.Proofs.Tryz.prog 255 0 0 1 := ⟨_, _, Go.Proofs.Tryz.underlying255, rfl, rfl, (by obtain ⟨i, h1, _, h2, _⟩ := (inferInstance : TI Go.Proofs.Tryz.prog 17 _ _ _).info; exact ⟨i, h1, h2⟩), by decide⟩
instance : FO Go.Proofs.Tryz.prog 255 1 1 1 := ⟨_, _, Go.Proofs.Tryz.underlying255, rfl, rfl, (by obtain ⟨i, h1, _, h2, _⟩ := (inferInstance : TI Go.Proofs.Tryz.prog 17 _ _ _).info; exact ⟨i, h1, h2⟩), by decide⟩
instance : FO Go.Proofs.Tryz.prog 255 2 2 1 := ⟨_, _, Go.Proofs.Tryz.underlying255, rfl, rfl, (by obtain ⟨i, h1, _, h2, _⟩ := (inferInstance : TI Go.Proofs.Tryz.prog 17 _ _ _).info; exact ⟨i, h1, h2⟩), by decide⟩
instance : FO Go.Proofs.Tryz.prog 255 3 3 1 := ⟨_, _, Go.Proofs.Tryz.underlying255, rfl, rfl, (by obtain ⟨i, h1, _, h2, _⟩ := (inferInstance : TI Go.Proofs.Tryz.prog 9 _ _ _).info; exact ⟨i, h1, h2⟩), by decide⟩
instance : FO Go.Proofs.Tryz.prog 256 0 0 1 := ⟨_, _, Go.Proofs.Tryz.underlying256, rfl, rfl, (by obtain ⟨i, h1, _, h2, _⟩ := (inferInstance : TI Go.Proofs.Tryz.prog 17 _ _ _).info; exact ⟨i, h1, h2⟩), by decide⟩
instance : FO Go.Proofs.Tryz.prog 256 1 1 1 := ⟨_, _, Go.Proofs.Tryz.underlying256, rfl, rfl, (by obtain ⟨i, h1, _, h2, _⟩ := (inferInstance : TI Go.Proofs.Tryz.prog 17 _ _ _).info; exact ⟨i, h1, h2⟩), by decide⟩
instance : FO Go.Proofs.Tryz.prog 256 2 2 1 := ⟨_, _, Go.Proofs.Tryz.underlying256, rfl, rfl, (by obtain ⟨i, h1, _, h2, _⟩ := (inferInstance : TI Go.Proofs.Tryz.prog 17 _ _ _).info; exact ⟨i, h1, h2⟩), by decide⟩
instance : FO Go.Proofs.Tryz.prog 256 3 3 1 := ⟨_, _, Go.Proofs.Tryz.underlying256, rfl, rfl, (by obtain ⟨i, h1, _, h2, _⟩ := (inferInstance : TI Go.Proofs.Tryz.prog 9 _ _ _).info; exact ⟨i, h1, h2⟩), by decide⟩
instance : FO Go.Proofs.Tryz.prog 265 0 0 1 := ⟨_, _, Go.Proofs.Tryz.underlying265, rfl, rfl, (by obtain ⟨i, h1, _, h2, _⟩ := (inferInstance : TI Go.Proofs.Tryz.prog 12 _ _ _).info; exact ⟨i, h1, h2⟩), by decide⟩
instance : FO Go.Proofs.Tryz.prog 265 1 1 1 := ⟨_, _, Go.Proofs.Tryz.underlying265, rfl, rfl, (by obtain ⟨i, h1, _, h2, _⟩ := (inferInstance : TI Go.Proofs.Tryz.prog 12 _ _ _).info; exact ⟨i, h1, h2⟩), by decide⟩
instance : FO Go.Proofs.Tryz.prog 265 2 2 1 := ⟨_, _, Go.Proofs.Tryz.underlying265, rfl, rfl, (by obtain ⟨i, h1, _, h2, _⟩ := (inferInstance : TI Go.Proofs.Tryz.prog 66 _ _ _).info; exact ⟨i, h1, h2⟩), by decide⟩
instance : FO Go.Proofs.Tryz.prog 265 3 3 1 := ⟨_, _, Go.Proofs.Tryz.underlying265, rfl, rfl, (by obtain ⟨i, h1, _, h2, _⟩ := (inferInstance : TI Go.Proofs.Tryz.prog 260 _ _ _).info; exact ⟨i, h1, h2⟩), by decide⟩
instance : FO Go.Proofs.Tryz.prog 265 4 4 1 := ⟨_, _, Go.Proofs.Tryz.underlying265, rfl, rfl, (by obtain ⟨i, h1, _, h2, _⟩ := (inferInstance : TI Go.Proofs.Tryz.prog 5 _ _ _).info; exact ⟨i, h1, h2⟩), by decide⟩
instance : FO Go.Proofs.Tryz.prog 265 5 5 1 := ⟨_, _, Go.Proofs.Tryz.underlying265, rfl, rfl, (by obtain ⟨i, h1, _, h2, _⟩ := (inferInstance : TI Go.Proofs.Tryz.prog 5 _ _ _).info; exact ⟨i, h1, h2⟩), by decide⟩
instance : FO Go.Proofs.Tryz.prog 265 6 6 1 := ⟨_, _, Go.Proofs.Tryz.underlying265, rfl, rfl, (by obtain ⟨i, h1, _, h2, _⟩ := (inferInstance : TI Go.Proofs.Tryz.prog 261 _ _ _).info; exact ⟨i, h1, h2⟩), by decide⟩
instance : FO Go.Proofs.Tryz.prog 265 7 7 1 := ⟨_, _, Go.Proofs.Tryz.underlying265, rfl, rfl, (by obtain ⟨i, h1, _, h2, _⟩ := (inferInstance : TI Go.Proofs.Tryz.prog 262 _ _ _).info; exact ⟨i, h1, h2⟩), by decide⟩
instance : FO Go.Proofs.Tryz.prog 265 8 8 1 := ⟨_, _, Go.Proofs.Tryz.underlying265, rfl, rfl, (by obtain ⟨i, h1, _, h2, _⟩ := (inferInstance : TI Go.Proofs.Tryz.prog 208 _ _ _).info; exact ⟨i, h1, h2⟩), by decide⟩
instance : FO Go.Proofs.Tryz.prog 265 9 9 1 := ⟨_, _, Go.Proofs.Tryz.underlying265, rfl, rfl, (by obtain ⟨i, h1, _, h2, _⟩ := (inferInstance : TI Go.Proofs.Tryz.prog 263 _ _ _).info; exact ⟨i, h1, h2⟩), by decide⟩
instance : FO Go.Proofs.Tryz.prog 265 10 10 1 := ⟨_, _, Go.Proofs.Tryz.underlying265, rfl, rfl, (by obtain ⟨i, h1, _, h2, _⟩ := (inferInstance : TI Go.Proofs.Tryz.prog 264 _ _ _).info; exact ⟨i, h1, h2⟩), by decide⟩
instance : FO Go.Proofs.Tryz.prog 266 0 0 1 := ⟨_, _, Go.Proofs.Tryz.underlying266, rfl, rfl, (by obtain ⟨i, h1, _, h2, _⟩ := (inferInstance : TI Go.Proofs.Tryz.prog 12 _ _ _).info; exact ⟨i, h1, h2⟩), by decide⟩
instance : FO Go.Proofs.Tryz.prog 266 1 1 1 := ⟨_, _, Go.Proofs.Tryz.underlying266, rfl, rfl, (by obtain ⟨i, h1, _, h2, _⟩ := (inferInstance : TI Go.Proofs.Tryz.prog 12 _ _ _).info; exact ⟨i, h1, h2⟩), by decide⟩
instance : FO Go.Proofs.Tryz.prog 266 2 2 1 := ⟨_, _, Go.Proofs.Tryz.underlying266, rfl, rfl, (by obtain ⟨i, h1, _, h2, _⟩ := (inferInstance : TI Go.Proofs.Tryz.prog 66 _ _ _).info; exact ⟨i, h1, h2⟩), by decide⟩
instance : FO Go.Proofs.Tryz.prog 266 3 3 1 := ⟨_, _, Go.Proofs.Tryz.underlying266, rfl, rfl, (by obtain ⟨i, h1, _, h2, _⟩ := (inferInstance : TI Go.Proofs.Tryz.prog 260 _ _ _).info; exact ⟨i, h1, h2⟩), by decide⟩
instance : FO Go.Proofs.Tryz.prog 266 4 4 1 := ⟨_, _, Go.Proofs.Tryz.underlying266, rfl, rfl, (by obtain ⟨i, h1, _, h2, _⟩ := (inferInstance : TI Go.Proofs.Tryz.prog 5 _ _ _).info; exact ⟨i, h1, h2⟩), by decide⟩
instance : FO Go.Proofs.Tryz.prog 266 5 5 1 := ⟨_, _, Go.Proofs.Tryz.underlying266, rfl, rfl, (by obtain ⟨i, h1, _, h2, _⟩ := (inferInstance : TI Go.Proofs.Tryz.prog 5 _ _ _).info; exact ⟨i, h1, h2⟩), by decide⟩
instance : FO Go.Proofs.Tryz.prog 266 6 6 1 := ⟨_, _, Go.Proofs.Tryz.underlying266, rfl, rfl, (by obtain ⟨i, h1, _, h2, _⟩ := (inferInstance : TI Go.Proofs.Tryz.prog 261 _ _ _).info; exact ⟨i, h1, h2⟩), by decide⟩
instance : FO Go.Proofs.Tryz.prog 266 7 7 1 := ⟨_, _, Go.Proofs.Tryz.underlying266, rfl, rfl, (by obtain ⟨i, h1, _, h2, _⟩ := (inferInstance : TI Go.Proofs.Tryz.prog 262 _ _ _).info; exact ⟨i, h1, h2⟩), by decide⟩
instance : FO Go.Proofs.Tryz.prog 266 8 8 1 := ⟨_, _, Go.Proofs.Tryz.underlying266, rfl, rfl, (by obtain ⟨i, h1, _, h2, _⟩ := (inferInstance : TI Go.Proofs.Tryz.prog 208 _ _ _).info; exact ⟨i, h1, h2⟩), by decide⟩
instance : FO Go.Proofs.Tryz.prog 266 9 9 1 := ⟨_, _, Go.Proofs.Tryz.underlying266, rfl, rfl, (by obtain ⟨i, h1, _, h2, _⟩ := (inferInstance : TI Go.Proofs.Tryz.prog 263 _ _ _).info; exact ⟨i, h1, h2⟩), by decide⟩
instance : FO Go.Proofs.Tryz.prog 266 10 10 1 := ⟨_, _, Go.Proofs.Tryz.underlying266, rfl, rfl, (by obtain ⟨i, h1, _, h2, _⟩ := (inferInstance : TI Go.Proofs.Tryz.prog 264 _ _ _).info; exact ⟨i, h1, h2⟩), by decide⟩
instance : Body Go.Proofs.Tryz.prog 3 := Body.mk' Go.Proofs.Tryz.func3 (by kernel_rfl) (by kernel_rfl)
instance : Body Go.Proofs.Tryz.prog 4 := Body.mk' Go.Proofs.Tryz.func4 (by kernel_rfl) (by kernel_rfl)
instance : Body Go.Proofs.Tryz.prog 5 := Body.mk' Go.Proofs.Tryz.func5 (by kernel_rfl) (by kernel_rfl)
instance : Body Go.Proofs.Tryz.prog 6 := Body.mk' Go.Proofs.Tryz.func6 (by kernel_rfl) (by kernel_rfl)
instance : Body Go.Proofs.Tryz.prog 7 := Body.mk' Go.Proofs.Tryz.func7 (by kernel_rfl) (by kernel_rfl)
instance : Body Go.Proofs.Tryz.prog 8 := Body.mk' Go.Proofs.Tryz.func8 (by kernel_rfl) (by kernel_rfl)
instance : Body Go.Proofs.Tryz.prog 9 := Body.mk' Go.Proofs.Tryz.func9 (by kernel_rfl) (by kernel_rfl)
instance : Body Go.Proofs.Tryz.prog 10 := Body.mk' Go.Proofs.Tryz.func10 (by kernel_rfl) (by kernel_rfl)
instance : Body Go.Proofs.Tryz.prog 11 := Body.mk' Go.Proofs.Tryz.func11 (by kernel_rfl) (by kernel_rfl)
instance : Body Go.Proofs.Tryz.prog 12 := Body.mk' Go.Proofs.Tryz.func12 (by kernel_rfl) (by kernel_rfl)
instance : Body Go.Proofs.Tryz.prog 13 := Body.mk' Go.Proofs.Tryz.func13 (by kernel_rfl) (by kernel_rfl)
instance : Body Go.Proofs.Tryz.prog 14 := Body.mk' Go.Proofs.Tryz.func14 (by kernel_rfl) (by kernel_rfl)
instance : Body Go.Proofs.Tryz.prog 15 := Body.mk' Go.Proofs.Tryz.func15 (by kernel_rfl) (by kernel_rfl)
instance : Body Go.Proofs.Tryz.prog 16 := Body.mk' Go.Proofs.Tryz.func16 (by kernel_rfl) (by kernel_rfl)
instance : Body Go.Proofs.Tryz.prog 17 := Body.mk' Go.Proofs.Tryz.func17 (by kernel_rfl) (by kernel_rfl)
instance : Body Go.Proofs.Tryz.prog 18 := Body.mk' Go.Proofs.Tryz.func18 (by kernel_rfl) (by kernel_rfl)
instance : Body Go.Proofs.Tryz.prog 19 := Body.mk' Go.Proofs.Tryz.func19 (by kernel_rfl) (by kernel_rfl)
instance : Body Go.Proofs.Tryz.prog 20 := Body.mk' Go.Proofs.Tryz.func20 (by kernel_rfl) (by kernel_rfl)
instance : Body Go.Proofs.Tryz.prog 21 := Body.mk' Go.Proofs.Tryz.func21 (by kernel_rfl) (by kernel_rfl)
instance : Body Go.Proofs.Tryz.prog 22 := Body.mk' Go.Proofs.Tryz.func22 (by kernel_rfl) (by kernel_rfl)
instance : Body Go.Proofs.Tryz.prog 23 := Body.mk' Go.Proofs.Tryz.func23 (by kernel_rfl) (by kernel_rfl)
instance : Body Go.Proofs.Tryz.prog 24 := Body.mk' Go.Proofs.Tryz.func24 (by kernel_rfl) (by kernel_rfl)
instance : Body Go.Proofs.Tryz.prog 25 := Body.mk' Go.Proofs.Tryz.func25 (by kernel_rfl) (by kernel_rfl)
instance : Body Go.Proofs.Tryz.prog 26 := Body.mk' Go.Proofs.Tryz.func26 (by kernel_rfl) (by kernel_rfl)
instance : Body Go.Proofs.Tryz.prog 27 := Body.mk' Go.Proofs.Tryz.func27 (by kernel_rfl) (by kernel_rfl)
instance : Body Go.Proofs.Tryz.prog 28 := Body.mk' Go.Proofs.Tryz.func28 (by kernel_rfl) (by kernel_rfl)
instance : Body Go.Proofs.Tryz.prog 29 := Body.mk' Go.Proofs.Tryz.func29 (by kernel_rfl) (by kernel_rfl)
instance : Body Go.Proofs.Tryz.prog 30 := Body.mk' Go.Proofs.Tryz.func30 (by kernel_rfl) (by kernel_rfl)
instance : Body Go.Proofs.Tryz.prog 31 := Body.mk' Go.Proofs.Tryz.func31 (by kernel_rfl) (by kernel_rfl)
instance : Body Go.Proofs.Tryz.prog 32 := Body.mk' Go.Proofs.Tryz.func32 (by kernel_rfl) (by kernel_rfl)
instance : Body Go.Proofs.Tryz.prog 33 := Body.mk' Go.Proofs.Tryz.func33 (by kernel_rfl) (by kernel_rfl)
instance : Body Go.Proofs.Tryz.prog 34 := Body.mk' Go.Proofs.Tryz.func34 (by kernel_rfl) (by kernel_rfl)
instance : Body Go.Proofs.Tryz.prog 35 := Body.mk' Go.Proofs.Tryz.func35 (by kernel_rfl) (by kernel_rfl)
instance : Body Go.Proofs.Tryz.prog 36 := Body.mk' Go.Proofs.Tryz.func36 (by kernel_rfl) (by kernel_rfl)
instance : Body Go.Proofs.Tryz.prog 37 := Body.mk' Go.Proofs.Tryz.func37 (by kernel_rfl) (by kernel_rfl)
instance : Body Go.Proofs.Tryz.prog 38 := Body.mk' Go.Proofs.Tryz.func38 (by kernel_rfl) (by kernel_rfl)
instance : Body Go.Proofs.Tryz.prog 39 := Body.mk' Go.Proofs.Tryz.func39 (by kernel_rfl) (by kernel_rfl)
instance : Body Go.Proofs.Tryz.prog 40 := Body.mk' Go.Proofs.Tryz.func40 (by kernel_rfl) (by kernel_rfl)
instance : Body Go.Proofs.Tryz.prog 41 := Body.mk' Go.Proofs.Tryz.func41 (by kernel_rfl) (by kernel_rfl)
instance : Body Go.Proofs.Tryz.prog 42 := Body.mk' Go.Proofs.Tryz.func42 (by kernel_rfl) (by kernel_rfl)
instance : Body Go.Proofs.Tryz.prog 43 := Body.mk' Go.Proofs.Tryz.func43 (by kernel_rfl) (by kernel_rfl)
instance : Body Go.Proofs.Tryz.prog 44 := Body.mk' Go.Proofs.Tryz.func44 (by kernel_rfl) (by kernel_rfl)
instance : Body Go.Proofs.Tryz.prog 45 := Body.mk' Go.Proofs.Tryz.func45 (by kernel_rfl) (by kernel_rfl)
instance : Body Go.Proofs.Tryz.prog 46 := Body.mk' Go.Proofs.Tryz.func46 (by kernel_rfl) (by kernel_rfl)
instance : Body Go.Proofs.Tryz.prog 47 := Body.mk' Go.Proofs.Tryz.func47 (by kernel_rfl) (by kernel_rfl)
instance : Body Go.Proofs.Tryz.prog 48 := Body.mk' Go.Proofs.Tryz.func48 (by kernel_rfl) (by kernel_rfl)
instance : Body Go.Proofs.Tryz.prog 49 := Body.mk' Go.Proofs.Tryz.func49 (by kernel_rfl) (by kernel_rfl)
instance : Body Go.Proofs.Tryz.prog 50 := Body.mk' Go.Proofs.Tryz.func50 (by kernel_rfl) (by kernel_rfl)
instance : Body Go.Proofs.Tryz.prog 51 := Body.mk' Go.Proofs.Tryz.func51 (by kernel_rfl) (by kernel_rfl)
instance : Body Go.Proofs.Tryz.prog 52 := Body.mk' Go.Proofs.Tryz.func52 (by kernel_rfl) (by kernel_rfl)
instance : Body Go.Proofs.Tryz.prog 53 := Body.mk' Go.Proofs.Tryz.func53 (by kernel_rfl) (by kernel_rfl)
instance : Body Go.Proofs.Tryz.prog 54 := Body.mk' Go.Proofs.Tryz.func54 (by kernel_rfl) (by kernel_rfl)
instance : Body Go.Proofs.Tryz.prog 55 := Body.mk' Go.Proofs.Tryz.func55 (by kernel_rfl) (by kernel_rfl)
instance : Body Go.Proofs.Tryz.prog 56 := Body.mk' Go.Proofs.Tryz.func56 (by kernel_rfl) (by kernel_rfl)
instance : Body Go.Proofs.Tryz.prog 57 := Body.mk' Go.Proofs.Tryz.func57 (by kernel_rfl) (by kernel_rfl)
instance : Body Go.Proofs.Tryz.prog 58 := Body.mk' Go.Proofs.Tryz.func58 (by kernel_rfl) (by kernel_rfl)
instance : Body Go.Proofs.Tryz.prog 59 := Body.mk' Go.Proofs.Tryz.func59 (by kernel_rfl) (by kernel_rfl)
instance : Body Go.Proofs.Tryz.prog 60 := Body.mk' Go.Proofs.Tryz.func60 (by kernel_rfl) (by kernel_rfl)
instance : Body Go.Proofs.Tryz.prog 61 := Body.mk' Go.Proofs.Tryz.func61 (by kernel_rfl) (by kernel_rfl)
instance : Body Go.Proofs.Tryz.prog 62 := Body.mk' Go.Proofs.Tryz.func62 (by kernel_rfl) (by kernel_rfl)
instance : Body Go.Proofs.Tryz.prog 63 := Body.mk' Go.Proofs.Tryz.func63 (by kernel_rfl) (by kernel_rfl)
instance : Body Go.Proofs.Tryz.prog 64 := Body.mk' Go.Proofs.Tryz.func64 (by kernel_rfl) (by kernel_rfl)
instance : Body Go.Proofs.Tryz.prog 65 := Body.mk' Go.Proofs.Tryz.func65 (by kernel_rfl) (by kernel_rfl)
instance : Body Go.Proofs.Tryz.prog 66 := Body.mk' Go.Proofs.Tryz.func66 (by kernel_rfl) (by kernel_rfl)
instance : Body Go.Proofs.Tryz.prog 67 := Body.mk' Go.Proofs.Tryz.func67 (by kernel_rfl) (by kernel_rfl)
instance : Body Go.Proofs.Tryz.prog 68 := Body.mk' Go.Proofs.Tryz.func68 (by kernel_rfl) (by kernel_rfl)
instance : Body Go.Proofs.Tryz.prog 69 := Body.mk' Go.Proofs.Tryz.func69 (by kernel_rfl) (by kernel_rfl)
instance : Body Go.Proofs.Tryz.prog 70 := Body.mk' Go.Proofs.Tryz.func70 (by kernel_rfl) (by kernel_rfl)
instance : Body Go.Proofs.Tryz.prog 71 := Body.mk' Go.Proofs.Tryz.func71 (by kernel_rfl) (by kernel_rfl)
instance : Body Go.Proofs.Tryz.prog 72 := Body.mk' Go.Proofs.Tryz.func72 (by kernel_rfl) (by kernel_rfl)
instance : Body Go.Proofs.Tryz.prog 73 := Body.mk' Go.Proofs.Tryz.func73 (by kernel_rfl) (by kernel_rfl)
instance : Body Go.Proofs.Tryz.prog 74 := Body.mk' Go.Proofs.Tryz.func74 (by kernel_rfl) (by kernel_rfl)
instance : Body Go.Proofs.Tryz.prog 75 := Body.mk' Go.Proofs.Tryz.func75 (by kernel_rfl) (by kernel_rfl)
instance : Body Go.Proofs.Tryz.prog 76 := Body.mk' Go.Proofs.Tryz.func76 (by kernel_rfl) (by kernel_rfl)
instance : Body Go.Proofs.Tryz.prog 77 := Body.mk' Go.Proofs.Tryz.func77 (by kernel_rfl) (by kernel_rfl)
instance : Body Go.Proofs.Tryz.prog 78 := Body.mk' Go.Proofs.Tryz.func78 (by kernel_rfl) (by kernel_rfl)
instance : Body Go.Proofs.Tryz.prog 79 := Body.mk' Go.Proofs.Tryz.func79 (by kernel_rfl) (by kernel_rfl)
instance : Body Go.Proofs.Tryz.prog 80 := Body.mk' Go.Proofs.Tryz.func80 (by kernel_rfl) (by kernel_rfl)
instance : Body Go.Proofs.Tryz.prog 81 := Body.mk' Go.Proofs.Tryz.func81 (by kernel_rfl) (by kernel_rfl)
instance : Body Go.Proofs.Tryz.prog 82 := Body.mk' Go.Proofs.Tryz.func82 (by kernel_rfl) (by kernel_rfl)
instance : Body Go.Proofs.Tryz.prog 83 := Body.mk' Go.Proofs.Tryz.func83 (by kernel_rfl) (by kernel_rfl)
instance : Body Go.Proofs.Tryz.prog 84 := Body.mk' Go.Proofs.Tryz.func84 (by kernel_rfl) (by kernel_rfl)
instance : Body Go.Proofs.Tryz.prog 85 := Body.mk' Go.Proofs.Tryz.func85 (by kernel_rfl) (by kernel_rfl)
instance : Body Go.Proofs.Tryz.prog 86 := Body.mk' Go.Proofs.Tryz.func86 (by kernel_rfl) (by kernel_rfl)
instance : Body Go.Proofs.Tryz.prog 87 := Body.mk' Go.Proofs.Tryz.func87 (by kernel_rfl) (by kernel_rfl)
instance : Body Go.Proofs.Tryz.prog 88 := Body.mk' Go.Proofs.Tryz.func88 (by kernel_rfl) (by kernel_rfl)
instance : Body Go.Proofs.Tryz.prog 89 := Body.mk' Go.Proofs.Tryz.func89 (by kernel_rfl) (by kernel_rfl)
instance : Body Go.Proofs.Tryz.prog 90 := Body.mk' Go.Proofs.Tryz.func90 (by kernel_rfl) (by kernel_rfl)
instance : Body Go.Proofs.Tryz.prog 91 := Body.mk' Go.Proofs.Tryz.func91 (by kernel_rfl) (by kernel_rfl)
instance : Body Go.Proofs.Tryz.prog 92 := Body.mk' Go.Proofs.Tryz.func92 (by kernel_rfl) (by kernel_rfl)
instance : Body Go.Proofs.Tryz.prog 93 := Body.mk' Go.Proofs.Tryz.func93 (by kernel_rfl) (by kernel_rfl)
instance : Body Go.Proofs.Tryz.prog 94 := Body.mk' Go.Proofs.Tryz.func94 (by kernel_rfl) (by kernel_rfl)
instance : Body Go.Proofs.Tryz.prog 95 := Body.mk' Go.Proofs.Tryz.func95 (by kernel_rfl) (by kernel_rfl)
instance : Body Go.Proofs.Tryz.prog 96 := Body.mk' Go.Proofs.Tryz.func96 (by kernel_rfl) (by kernel_rfl)
instance : Body Go.Proofs.Tryz.prog 97 := Body.mk' Go.Proofs.Tryz.func97 (by kernel_rfl) (by kernel_rfl)
instance : Body Go.Proofs.Tryz.prog 98 := Body.mk' Go.Proofs.Tryz.func98 (by kernel_rfl) (by kernel_rfl)
instance : Body Go.Proofs.Tryz.prog 99 := Body.mk' Go.Proofs.Tryz.func99 (by kernel_rfl) (by kernel_rfl)
instance : Body Go.Proofs.Tryz.prog 100 := Body.mk' Go.Proofs.Tryz.func100 (by kernel_rfl) (by kernel_rfl)
instance : Body Go.Proofs.Tryz.prog 101 := Body.mk' Go.Proofs.Tryz.func101 (by kernel_rfl) (by kernel_rfl)
instance : Body Go.Proofs.Tryz.prog 102 := Body.mk' Go.Proofs.Tryz.func102 (by kernel_rfl) (by kernel_rfl)
instance : Body Go.Proofs.Tryz.prog 103 := Body.mk' Go.Proofs.Tryz.func103 (by kernel_rfl) (by kernel_rfl)
instance : Body Go.Proofs.Tryz.prog 104 := Body.mk' Go.Proofs.Tryz.func104 (by kernel_rfl) (by kernel_rfl)
instance : Body Go.Proofs.Tryz.prog 105 := Body.mk' Go.Proofs.Tryz.func105 (by kernel_rfl) (by kernel_rfl)
instance : Body Go.Proofs.Tryz.prog 106 := Body.mk' Go.Proofs.Tryz.func106 (by kernel_rfl) (by kernel_rfl)
instance : Body Go.Proofs.Tryz.prog 107 := Body.mk' Go.Proofs.Tryz.func107 (by kernel_rfl) (by kernel_rfl)
instance : Body Go.Proofs.Tryz.prog 108 := Body.mk' Go.Proofs.Tryz.func108 (by kernel_rfl) (by kernel_rfl)
instance : Body Go.Proofs.Tryz.prog 109 := Body.mk' Go.Proofs.Tryz.func109 (by kernel_rfl) (by kernel_rfl)
instance : Body Go.Proofs.Tryz.prog 110 := Body.mk' Go.Proofs.Tryz.func110 (by kernel_rfl) (by kernel_rfl)
instance : Body Go.Proofs.Tryz.prog 111 := Body.mk' Go.Proofs.Tryz.func111 (by kernel_rfl) (by kernel_rfl)
instance : Body Go.Proofs.Tryz.prog 112 := Body.mk' Go.Proofs.Tryz.func112 (by kernel_rfl) (by kernel_rfl)
instance : Body Go.Proofs.Tryz.prog 113 := Body.mk' Go.Proofs.Tryz.func113 (by kernel_rfl) (by kernel_rfl)
instance : Body Go.Proofs.Tryz.prog 114 := Body.mk' Go.Proofs.Tryz.func114 (by kernel_rfl) (by kernel_rfl)
instance : Body Go.Proofs.Tryz.prog 115 := Body.mk' Go.Proofs.Tryz.func115 (by kernel_rfl) (by kernel_rfl)
instance : Body Go.Proofs.Tryz.prog 116 := Body.mk' Go.Proofs.Tryz.func116 (by kernel_rfl) (by kernel_rfl)
instance : Body Go.Proofs.Tryz.prog 117 := Body.mk' Go.Proofs.Tryz.func117 (by kernel_rfl) (by kernel_rfl)
instance : Body Go.Proofs.Tryz.prog 118 := Body.mk' Go.Proofs.Tryz.func118 (by kernel_rfl) (by kernel_rfl)
instance : Body Go.Proofs.Tryz.prog 119 := Body.mk' Go.Proofs.Tryz.func119 (by kernel_rfl) (by kernel_rfl)
instance : Body Go.Proofs.Tryz.prog 120 := Body.mk' Go.Proofs.Tryz.func120 (by kernel_rfl) (by kernel_rfl)
instance : Body Go.Proofs.Tryz.prog 121 := Body.mk' Go.Proofs.Tryz.func121 (by kernel_rfl) (by kernel_rfl)
instance : Body Go.Proofs.Tryz.prog 122 := Body.mk' Go.Proofs.Tryz.func122 (by kernel_rfl) (by kernel_rfl)
instance : Body Go.Proofs.Tryz.prog 123 := Body.mk' Go.Proofs.Tryz.func123 (by kernel_rfl) (by kernel_rfl)
instance : Body Go.Proofs.Tryz.prog 124 := Body.mk' Go.Proofs.Tryz.func124 (by kernel_rfl) (by kernel_rfl)
instance : Body Go.Proofs.Tryz.prog 125 := Body.mk' Go.Proofs.Tryz.func125 (by kernel_rfl) (by kernel_rfl)
instance : Body Go.Proofs.Tryz.prog 126 := Body.mk' Go.Proofs.Tryz.func126 (by kernel_rfl) (by kernel_rfl)
instance : Body Go.Proofs.Tryz.prog 127 := Body.mk' Go.Proofs.Tryz.func127 (by kernel_rfl) (by kernel_rfl)
instance : Body Go.Proofs.Tryz.prog 128 := Body.mk' Go.Proofs.Tryz.func128 (by kernel_rfl) (by kernel_rfl)
instance : Body Go.Proofs.Tryz.prog 129 := Body.mk' Go.Proofs.Tryz.func129 (by kernel_rfl) (by kernel_rfl)
instance : Body Go.Proofs.Tryz.prog 130 := Body.mk' Go.Proofs.Tryz.func130 (by kernel_rfl) (by kernel_rfl)
instance : Body Go.Proofs.Tryz.prog 131 := Body.mk' Go.Proofs.Tryz.func131 (by kernel_rfl) (by kernel_rfl)
instance : Body Go.Proofs.Tryz.prog 132 := Body.mk' Go.Proofs.Tryz.func132 (by kernel_rfl) (by kernel_rfl)
instance : Body Go.Proofs.Tryz.prog 133 := Body.mk' Go.Proofs.Tryz.func133 (by kernel_rfl) (by kernel_rfl)
instance : Body Go.Proofs.Tryz.prog 134 := Body.mk' Go.Proofs.Tryz.func134 (by kernel_rfl) (by kernel_rfl)
instance : Body Go.Proofs.Tryz.prog 135 := Body.mk' Go.Proofs.Tryz.func135 (by kernel_rfl) (by kernel_rfl)
instance : Body Go.Proofs.Tryz.prog 136 := Body.mk' Go.Proofs.Tryz.func136 (by kernel_rfl) (by kernel_rfl)
instance : Body Go.Proofs.Tryz.prog 137 := Body.mk' Go.Proofs.Tryz.func137 (by kernel_rfl) (by kernel_rfl)
instance : Body Go.Proofs.Tryz.prog 138 := Body.mk' Go.Proofs.Tryz.func138 (by kernel_rfl) (by kernel_rfl)
instance : Body Go.Proofs.Tryz.prog 139 := Body.mk' Go.Proofs.Tryz.func139 (by kernel_rfl) (by kernel_rfl)
instance : Body Go.Proofs.Tryz.prog 140 := Body.mk' Go.Proofs.Tryz.func140 (by kernel_rfl) (by kernel_rfl)
instance : Body Go.Proofs.Tryz.prog 141 := Body.mk' Go.Proofs.Tryz.func141 (by kernel_rfl) (by kernel_rfl)
instance : Body Go.Proofs.Tryz.prog 142 := Body.mk' Go.Proofs.Tryz.func142 (by kernel_rfl) (by kernel_rfl)
instance : Body Go.Proofs.Tryz.prog 143 := Body.mk' Go.Proofs.Tryz.func143 (by kernel_rfl) (by kernel_rfl)
instance : Body Go.Proofs.Tryz.prog 144 := Body.mk' Go.Proofs.Tryz.func144 (by kernel_rfl) (by kernel_rfl)
instance : Body Go.Proofs.Tryz.prog 145 := Body.mk' Go.Proofs.Tryz.func145 (by kernel_rfl) (by kernel_rfl)
instance : Body Go.Proofs.Tryz.prog 146 := Body.mk' Go.Proofs.Tryz.func146 (by kernel_rfl) (by kernel_rfl)
instance : Body Go.Proofs.Tryz.prog 147 := Body.mk' Go.Proofs.Tryz.func147 (by kernel_rfl) (by kernel_rfl)
instance : Body Go.Proofs.Tryz.prog 148 := Body.mk' Go.Proofs.Tryz.func148 (by kernel_rfl) (by kernel_rfl)
instance : Body Go.Proofs.Tryz.prog 149 := Body.mk' Go.Proofs.Tryz.func149 (by kernel_rfl) (by kernel_rfl)
instance : Body Go.Proofs.Tryz.prog 150 := Body.mk' Go.Proofs.Tryz.func150 (by kernel_rfl) (by kernel_rfl)
instance : Body Go.Proofs.Tryz.prog 151 := Body.mk' Go.Proofs.Tryz.func151 (by kernel_rfl) (by kernel_rfl)
instance : Body Go.Proofs.Tryz.prog 152 := Body.mk' Go.Proofs.Tryz.func152 (by kernel_rfl) (by kernel_rfl)
instance : Body Go.Proofs.Tryz.prog 153 := Body.mk' Go.Proofs.Tryz.func153 (by kernel_rfl) (by kernel_rfl)
instance : Body Go.Proofs.Tryz.prog 154 := Body.mk' Go.Proofs.Tryz.func154 (by kernel_rfl) (by kernel_rfl)
instance : Body Go.Proofs.Tryz.prog 155 := Body.mk' Go.Proofs.Tryz.func155 (by kernel_rfl) (by kernel_rfl)
instance : Body Go.Proofs.Tryz.prog 156 := Body.mk' Go.Proofs.Tryz.func156 (by kernel_rfl) (by kernel_rfl)
instance : Body Go.Proofs.Tryz.prog 157 := Body.mk' Go.Proofs.Tryz.func157 (by kernel_rfl) (by kernel_rfl)
instance : Body Go.Proofs.Tryz.prog 158 := Body.mk' Go.Proofs.Tryz.func158 (by kernel_rfl) (by kernel_rfl)
instance : Body Go.Proofs.Tryz.prog 159 := Body.mk' Go.Proofs.Tryz.func159 (by kernel_rfl) (by kernel_rfl)
instance : Body Go.Proofs.Tryz.prog 160 := Body.mk' Go.Proofs.Tryz.func160 (by kernel_rfl) (by kernel_rfl)
instance : Body Go.Proofs.Tryz.prog 161 := Body.mk' Go.Proofs.Tryz.func161 (by kernel_rfl) (by kernel_rfl)
instance : Body Go.Proofs.Tryz.prog 162 := Body.mk' Go.Proofs.Tryz.func162 (by kernel_rfl) (by kernel_rfl)
instance : Body Go.Proofs.Tryz.prog 163 := Body.mk' Go.Proofs.Tryz.func163 (by kernel_rfl) (by kernel_rfl)
instance : Body Go.Proofs.Tryz.prog 164 := Body.mk' Go.Proofs.Tryz.func164 (by kernel_rfl) (by kernel_rfl)
instance : Body Go.Proofs.Tryz.prog 165 := Body.mk' Go.Proofs.Tryz.func165 (by kernel_rfl) (by kernel_rfl)
instance : Body Go.Proofs.Tryz.prog 166 := Body.mk' Go.Proofs.Tryz.func166 (by kernel_rfl) (by kernel_rfl)
instance : Body Go.Proofs.Tryz.prog 167 := Body.mk' Go.Proofs.Tryz.func167 (by kernel_rfl) (by kernel_rfl)
instance : Body Go.Proofs.Tryz.prog 168 := Body.mk' Go.Proofs.Tryz.func168 (by kernel_rfl) (by kernel_rfl)
instance : Body Go.Proofs.Tryz.prog 169 := Body.mk' Go.Proofs.Tryz.func169 (by kernel_rfl) (by kernel_rfl)
instance : Body Go.Proofs.Tryz.prog 170 := Body.mk' Go.Proofs.Tryz.func170 (by kernel_rfl) (by kernel_rfl)
instance : Body Go.Proofs.Tryz.prog 171 := Body.mk' Go.Proofs.Tryz.func171 (by kernel_rfl) (by kernel_rfl)
instance : Body Go.Proofs.Tryz.prog 172 := Body.mk' Go.Proofs.Tryz.func172 (by kernel_rfl) (by kernel_rfl)
instance : Body Go.Proofs.Tryz.prog 173 := Body.mk' Go.Proofs.Tryz.func173 (by kernel_rfl) (by kernel_rfl)
instance : Body Go.Proofs.Tryz.prog 174 := Body.mk' Go.Proofs.Tryz.func174 (by kernel_rfl) (by kernel_rfl)
instance : Body Go.Proofs.Tryz.prog 175 := Body.mk' Go.Proofs.Tryz.func175 (by kernel_rfl) (by kernel_rfl)
instance : Body Go.Proofs.Tryz.prog 176 := Body.mk' Go.Proofs.Tryz.func176 (by kernel_rfl) (by kernel_rfl)
instance : Body Go.Proofs.Tryz.prog 178 := Body.mk' Go.Proofs.Tryz.func178 (by kernel_rfl) (by kernel_rfl)
instance : Body Go.Proofs.Tryz.prog 179 := Body.mk' Go.Proofs.Tryz.func179 (by kernel_rfl) (by kernel_rfl)
instance : Body Go.Proofs.Tryz.prog 180 := Body.mk' Go.Proofs.Tryz.func180 (by kernel_rfl) (by kernel_rfl)
instance : Body Go.Proofs.Tryz.prog 181 := Body.mk' Go.Proofs.Tryz.func181 (by kernel_rfl) (by kernel_rfl)
instance : Body Go.Proofs.Tryz.prog 182 := Body.mk' Go.Proofs.Tryz.func182 (by kernel_rfl) (by kernel_rfl)
instance : Body Go.Proofs.Tryz.prog 183 := Body.mk' Go.Proofs.Tryz.func183 (by kernel_rfl) (by kernel_rfl)
instance : Body Go.Proofs.Tryz.prog 184 := Body.mk' Go.Proofs.Tryz.func184 (by kernel_rfl) (by kernel_rfl)
instance : Body Go.Proofs.Tryz.prog 185 := Body.mk' Go.Proofs.Tryz.func185 (by kernel_rfl) (by kernel_rfl)
instance : Body Go.Proofs.Tryz.prog 186 := Body.mk' Go.Proofs.Tryz.func186 (by kernel_rfl) (by kernel_rfl)
instance : Body Go.Proofs.Tryz.prog 187 := Body.mk' Go.Proofs.Tryz.func187 (by kernel_rfl) (by kernel_rfl)
instance : Body Go.Proofs.Tryz.prog 188 := Body.mk' Go.Proofs.Tryz.func188 (by kernel_rfl) (by kernel_rfl)
instance : Body Go.Proofs.Tryz.prog 191 := Body.mk' Go.Proofs.Tryz.func191 (by kernel_rfl) (by kernel_rfl)
instance : Body Go.Proofs.Tryz.prog 193 := Body.mk' Go.Proofs.Tryz.func193 (by kernel_rfl) (by kernel_rfl)
instance : Body Go.Proofs.Tryz.prog 194 := Body.mk' Go.Proofs.Tryz.func194 (by kernel_rfl) (by kernel_rfl)
instance : Body Go.Proofs.Tryz.prog 195 := Body.mk' Go.Proofs.Tryz.func195 (by kernel_rfl) (by kernel_rfl)
instance : Body Go.Proofs.Tryz.prog 196 := Body.mk' Go.Proofs.Tryz.func196 (by kernel_rfl) (by kernel_rfl)
instance : Body Go.Proofs.Tryz.prog 197 := Body.mk' Go.Proofs.Tryz.func197 (by kernel_rfl) (by kernel_rfl)
instance : Body Go.Proofs.Tryz.prog 198 := Body.mk' Go.Proofs.Tryz.func198 (by kernel_rfl) (by kernel_rfl)
instance : Body Go.Proofs.Tryz.prog 199 := Body.mk' Go.Proofs.Tryz.func199 (by kernel_rfl) (by kernel_rfl)
instance : Body Go.Proofs.Tryz.prog 200 := Body.mk' Go.Proofs.Tryz.func200 (by kernel_rfl) (by kernel_rfl)
instance : Body Go.Proofs.Tryz.prog 201 := Body.mk' Go.Proofs.Tryz.func201 (by kernel_rfl) (by kernel_rfl)
instance : Body Go.Proofs.Tryz.prog 202 := Body.mk' Go.Proofs.Tryz.func202 (by kernel_rfl) (by kernel_rfl)
instance : Body Go.Proofs.Tryz.prog 203 := Body.mk' Go.Proofs.Tryz.func203 (by kernel_rfl) (by kernel_rfl)
instance : Body Go.Proofs.Tryz.prog 204 := Body.mk' Go.Proofs.Tryz.func204 (by kernel_rfl) (by kernel_rfl)
instance : Body Go.Proofs.Tryz.prog 205 := Body.mk' Go.Proofs.Tryz.func205 (by kernel_rfl) (by kernel_rfl)
instance : Body Go.Proofs.Tryz.prog 206 := Body.mk' Go.Proofs.Tryz.func206 (by kernel_rfl) (by kernel_rfl)
instance : Body Go.Proofs.Tryz.prog 207 := Body.mk' Go.Proofs.Tryz.func207 (by kernel_rfl) (by kernel_rfl)
instance : Body Go.Proofs.Tryz.prog 208 := Body.mk' Go.Proofs.Tryz.func208 (by kernel_rfl) (by kernel_rfl)
instance : Body Go.Proofs.Tryz.prog 209 := Body.mk' Go.Proofs.Tryz.func209 (by kernel_rfl) (by kernel_rfl)
instance : Body Go.Proofs.Tryz.prog 210 := Body.mk' Go.Proofs.Tryz.func210 (by kernel_rfl) (by kernel_rfl)
instance : Body Go.Proofs.Tryz.prog 211 := Body.mk' Go.Proofs.Tryz.func211 (by kernel_rfl) (by kernel_rfl)
instance : Body Go.Proofs.Tryz.prog 212 := Body.mk' Go.Proofs.Tryz.func212 (by kernel_rfl) (by kernel_rfl)
instance : Body Go.Proofs.Tryz.prog 213 := Body.mk' Go.Proofs.Tryz.func213 (by kernel_rfl) (by kernel_rfl)
instance : Body Go.Proofs.Tryz.prog 214 := Body.mk' Go.Proofs.Tryz.func214 (by kernel_rfl) (by kernel_rfl)
instance : Body Go.Proofs.Tryz.prog 215 := Body.mk' Go.Proofs.Tryz.func215 (by kernel_rfl) (by kernel_rfl)
end Go.Proofs.YtldljckhfcoafaaGreatDoor
