/- Instances on this translation's types and functions, printed by wip/sx/types.py. -/
import Derived.Test.YtjpghlljcibcjaaGreatDoorSx5
import Derived.Test.YtjpghlljcibcjaaGreatDoorProg
import Derived.KernelRfl
namespace Go.Proofs.YtjpghlljcibcjaaGreatDoor
open Go Go.Sx
instance : Mix Go.Proofs.Tryz.prog := ⟨by kernel_rfl⟩
instance : TI Go.Proofs.Tryz.prog 0 (.tuple #[]) 1 0 := ⟨by kernel_rfl⟩
instance : UL Go.Proofs.Tryz.prog 1 (.func #[] #[] false) := ⟨Go.Proofs.Tryz.underlying1⟩
instance : TI Go.Proofs.Tryz.prog 1 (.nilFunc) 1 8 := ⟨by kernel_rfl⟩
instance : UL Go.Proofs.Tryz.prog 2 (.int .i64) := ⟨Go.Proofs.Tryz.underlying2⟩
instance : TI Go.Proofs.Tryz.prog 2 (.int .i64 0) 1 8 := ⟨by kernel_rfl⟩
instance : UL Go.Proofs.Tryz.prog 3 (.int .i64) := ⟨Go.Proofs.Tryz.underlying3⟩
instance : TI Go.Proofs.Tryz.prog 3 (.int .i64 0) 1 8 := ⟨by kernel_rfl⟩
instance : UL Go.Proofs.Tryz.prog 4 (.bool) := ⟨Go.Proofs.Tryz.underlying4⟩
instance : TI Go.Proofs.Tryz.prog 4 (.bool false) 1 1 := ⟨by kernel_rfl⟩
instance : UL Go.Proofs.Tryz.prog 5 (.int .u8) := ⟨Go.Proofs.Tryz.underlying5⟩
instance : TI Go.Proofs.Tryz.prog 5 (.int .u8 0) 1 1 := ⟨by kernel_rfl⟩
instance : UL Go.Proofs.Tryz.prog 6 (.int .u8) := ⟨Go.Proofs.Tryz.underlying6⟩
instance : TI Go.Proofs.Tryz.prog 6 (.int .u8 0) 1 1 := ⟨by kernel_rfl⟩
instance : UL Go.Proofs.Tryz.prog 7 (.struct #[{ name := "x", type := 2, offset := 0, embedded := false, tag := "", pkgPath := "runtime", byteOffset := 0 }, { name := "y", type := 3, offset := 1, embedded := false, tag := "", pkgPath := "runtime", byteOffset := 8 }, { name := "signed", type := 4, offset := 2, embedded := false, tag := "", pkgPath := "runtime", byteOffset := 16 }, { name := "code", type := 6, offset := 3, embedded := false, tag := "", pkgPath := "runtime", byteOffset := 17 }]) := ⟨Go.Proofs.Tryz.underlying7⟩
instance : TI Go.Proofs.Tryz.prog 7 (.agg #[.int .i64 0, .int .i64 0, .bool false, .int .u8 0]) 4 24 := ⟨by kernel_rfl⟩
instance : UL Go.Proofs.Tryz.prog 8 (.struct #[{ name := "x", type := 2, offset := 0, embedded := false, tag := "", pkgPath := "runtime", byteOffset := 0 }, { name := "y", type := 3, offset := 1, embedded := false, tag := "", pkgPath := "runtime", byteOffset := 8 }, { name := "signed", type := 4, offset := 2, embedded := false, tag := "", pkgPath := "runtime", byteOffset := 16 }, { name := "code", type := 6, offset := 3, embedded := false, tag := "", pkgPath := "runtime", byteOffset := 17 }]) := ⟨Go.Proofs.Tryz.underlying8⟩
instance : TI Go.Proofs.Tryz.prog 8 (.agg #[.int .i64 0, .int .i64 0, .bool false, .int .u8 0]) 4 24 := ⟨by kernel_rfl⟩
instance : UL Go.Proofs.Tryz.prog 9 (.string) := ⟨Go.Proofs.Tryz.underlying9⟩
instance : TI Go.Proofs.Tryz.prog 9 (.string ⟨#[]⟩) 1 16 := ⟨by kernel_rfl⟩
instance : UL Go.Proofs.Tryz.prog 10 (.string) := ⟨Go.Proofs.Tryz.underlying10⟩
instance : TI Go.Proofs.Tryz.prog 10 (.string ⟨#[]⟩) 1 16 := ⟨by kernel_rfl⟩
instance : UL Go.Proofs.Tryz.prog 11 (.string) := ⟨Go.Proofs.Tryz.underlying11⟩
instance : TI Go.Proofs.Tryz.prog 11 (.string ⟨#[]⟩) 1 16 := ⟨by kernel_rfl⟩
instance : UL Go.Proofs.Tryz.prog 12 (.int .u64) := ⟨Go.Proofs.Tryz.underlying12⟩
instance : TI Go.Proofs.Tryz.prog 12 (.int .u64 0) 1 8 := ⟨by kernel_rfl⟩
instance : UL Go.Proofs.Tryz.prog 13 (.struct #[{ name := "msg", type := 9, offset := 0, embedded := false, tag := "", pkgPath := "runtime", byteOffset := 0 }, { name := "addr", type := 12, offset := 1, embedded := false, tag := "", pkgPath := "runtime", byteOffset := 16 }]) := ⟨Go.Proofs.Tryz.underlying13⟩
instance : TI Go.Proofs.Tryz.prog 13 (.agg #[.string ⟨#[]⟩, .int .u64 0]) 2 24 := ⟨by kernel_rfl⟩
instance : UL Go.Proofs.Tryz.prog 14 (.struct #[{ name := "msg", type := 9, offset := 0, embedded := false, tag := "", pkgPath := "runtime", byteOffset := 0 }, { name := "addr", type := 12, offset := 1, embedded := false, tag := "", pkgPath := "runtime", byteOffset := 16 }]) := ⟨Go.Proofs.Tryz.underlying14⟩
instance : TI Go.Proofs.Tryz.prog 14 (.agg #[.string ⟨#[]⟩, .int .u64 0]) 2 24 := ⟨by kernel_rfl⟩
instance : UL Go.Proofs.Tryz.prog 15 (.pointer 211) := ⟨Go.Proofs.Tryz.underlying15⟩
instance : TI Go.Proofs.Tryz.prog 15 (.pointer none) 1 8 := ⟨by kernel_rfl⟩
instance : UL Go.Proofs.Tryz.prog 16 (.pointer 214) := ⟨Go.Proofs.Tryz.underlying16⟩
instance : TI Go.Proofs.Tryz.prog 16 (.pointer none) 1 8 := ⟨by kernel_rfl⟩
instance : UL Go.Proofs.Tryz.prog 17 (.pointer 221) := ⟨Go.Proofs.Tryz.underlying17⟩
instance : TI Go.Proofs.Tryz.prog 17 (.pointer none) 1 8 := ⟨by kernel_rfl⟩
instance : UL Go.Proofs.Tryz.prog 18 (.struct #[{ name := "typ", type := 17, offset := 0, embedded := false, tag := "", pkgPath := "internal/runtime/maps", byteOffset := 0 }]) := ⟨Go.Proofs.Tryz.underlying18⟩
instance : TI Go.Proofs.Tryz.prog 18 (.agg #[.pointer none]) 1 8 := ⟨by kernel_rfl⟩
instance : UL Go.Proofs.Tryz.prog 19 (.struct #[{ name := "typ", type := 17, offset := 0, embedded := false, tag := "", pkgPath := "internal/runtime/maps", byteOffset := 0 }]) := ⟨Go.Proofs.Tryz.underlying19⟩
instance : TI Go.Proofs.Tryz.prog 19 (.agg #[.pointer none]) 1 8 := ⟨by kernel_rfl⟩
instance : UL Go.Proofs.Tryz.prog 21 (.int .i32) := ⟨Go.Proofs.Tryz.underlying21⟩
instance : TI Go.Proofs.Tryz.prog 21 (.int .i32 0) 1 4 := ⟨by kernel_rfl⟩
instance : UL Go.Proofs.Tryz.prog 22 (.slice 3) := ⟨Go.Proofs.Tryz.underlying22⟩
instance : TI Go.Proofs.Tryz.prog 22 (.slice none 0 0) 1 24 := ⟨by kernel_rfl⟩
instance : UL Go.Proofs.Tryz.prog 23 (.int .u16) := ⟨Go.Proofs.Tryz.underlying23⟩
instance : TI Go.Proofs.Tryz.prog 23 (.int .u16 0) 1 2 := ⟨by kernel_rfl⟩
instance : UL Go.Proofs.Tryz.prog 24 (.array 3 23) := ⟨Go.Proofs.Tryz.underlying24⟩
instance : TI Go.Proofs.Tryz.prog 24 (.agg #[.int .u16 0, .int .u16 0, .int .u16 0]) 3 6 := ⟨by kernel_rfl⟩
instance : UL Go.Proofs.Tryz.prog 25 (.array 3 5) := ⟨Go.Proofs.Tryz.underlying25⟩
instance : TI Go.Proofs.Tryz.prog 25 (.agg #[.int .u8 0, .int .u8 0, .int .u8 0]) 3 3 := ⟨by kernel_rfl⟩
instance : UL Go.Proofs.Tryz.prog 26 (.array 4 22) := ⟨Go.Proofs.Tryz.underlying26⟩
instance : TI Go.Proofs.Tryz.prog 26 (.agg #[.slice none 0 0, .slice none 0 0, .slice none 0 0, .slice none 0 0]) 4 96 := ⟨by kernel_rfl⟩
instance : UL Go.Proofs.Tryz.prog 27 (.array 3 3) := ⟨Go.Proofs.Tryz.underlying27⟩
instance : TI Go.Proofs.Tryz.prog 27 (.agg #[.int .i64 0, .int .i64 0, .int .i64 0]) 3 24 := ⟨by kernel_rfl⟩
instance : UL Go.Proofs.Tryz.prog 28 (.int .i64) := ⟨Go.Proofs.Tryz.underlying28⟩
instance : TI Go.Proofs.Tryz.prog 28 (.int .i64 0) 1 8 := ⟨by kernel_rfl⟩
instance : TI Go.Proofs.Tryz.prog 29 (.tuple #[.agg #[.int .i64 0, .int .i64 0, .int .i64 0], .int .i64 0]) 1 0 := ⟨by kernel_rfl⟩
instance : UL Go.Proofs.Tryz.prog 30 (.func #[22] #[27, 28] false) := ⟨Go.Proofs.Tryz.underlying30⟩
instance : TI Go.Proofs.Tryz.prog 30 (.nilFunc) 1 8 := ⟨by kernel_rfl⟩
instance : UL Go.Proofs.Tryz.prog 31 (.slice 27) := ⟨Go.Proofs.Tryz.underlying31⟩
instance : TI Go.Proofs.Tryz.prog 31 (.slice none 0 0) 1 24 := ⟨by kernel_rfl⟩
instance : TI Go.Proofs.Tryz.prog 32 (.tuple #[.slice none 0 0, .int .i64 0]) 1 0 := ⟨by kernel_rfl⟩
instance : UL Go.Proofs.Tryz.prog 33 (.func #[22] #[31, 28] false) := ⟨Go.Proofs.Tryz.underlying33⟩
instance : TI Go.Proofs.Tryz.prog 33 (.nilFunc) 1 8 := ⟨by kernel_rfl⟩
instance : UL Go.Proofs.Tryz.prog 34 (.func #[36, 36] #[4] false) := ⟨Go.Proofs.Tryz.underlying34⟩
instance : TI Go.Proofs.Tryz.prog 34 (.nilFunc) 1 8 := ⟨by kernel_rfl⟩
instance : UL Go.Proofs.Tryz.prog 35 (.struct #[{ name := "Points", type := 31, offset := 0, embedded := false, tag := "", pkgPath := "", byteOffset := 0 }, { name := "Faces", type := 31, offset := 1, embedded := false, tag := "", pkgPath := "", byteOffset := 24 }]) := ⟨Go.Proofs.Tryz.underlying35⟩
instance : TI Go.Proofs.Tryz.prog 35 (.agg #[.slice none 0 0, .slice none 0 0]) 2 48 := ⟨by kernel_rfl⟩
instance : UL Go.Proofs.Tryz.prog 36 (.struct #[{ name := "Points", type := 31, offset := 0, embedded := false, tag := "", pkgPath := "", byteOffset := 0 }, { name := "Faces", type := 31, offset := 1, embedded := false, tag := "", pkgPath := "", byteOffset := 24 }]) := ⟨Go.Proofs.Tryz.underlying36⟩
instance : TI Go.Proofs.Tryz.prog 36 (.agg #[.slice none 0 0, .slice none 0 0]) 2 48 := ⟨by kernel_rfl⟩
instance : UL Go.Proofs.Tryz.prog 37 (.func #[] #[4] false) := ⟨Go.Proofs.Tryz.underlying37⟩
instance : TI Go.Proofs.Tryz.prog 37 (.nilFunc) 1 8 := ⟨by kernel_rfl⟩
instance : UL Go.Proofs.Tryz.prog 38 (.func #[22, 24, 25] #[4] false) := ⟨Go.Proofs.Tryz.underlying38⟩
instance : TI Go.Proofs.Tryz.prog 38 (.nilFunc) 1 8 := ⟨by kernel_rfl⟩
instance : UL Go.Proofs.Tryz.prog 39 (.struct #[{ name := "Size", type := 5, offset := 0, embedded := false, tag := "", pkgPath := "", byteOffset := 0 }, { name := "Turn", type := 5, offset := 1, embedded := false, tag := "", pkgPath := "", byteOffset := 1 }, { name := "Step", type := 24, offset := 2, embedded := false, tag := "", pkgPath := "", byteOffset := 2 }, { name := "Shear", type := 25, offset := 5, embedded := false, tag := "", pkgPath := "", byteOffset := 8 }]) := ⟨Go.Proofs.Tryz.underlying39⟩
instance : TI Go.Proofs.Tryz.prog 39 (.agg #[.int .u8 0, .int .u8 0, .int .u16 0, .int .u16 0, .int .u16 0, .int .u8 0, .int .u8 0, .int .u8 0]) 8 12 := ⟨by kernel_rfl⟩
instance : UL Go.Proofs.Tryz.prog 40 (.struct #[{ name := "Size", type := 5, offset := 0, embedded := false, tag := "", pkgPath := "", byteOffset := 0 }, { name := "Turn", type := 5, offset := 1, embedded := false, tag := "", pkgPath := "", byteOffset := 1 }, { name := "Step", type := 24, offset := 2, embedded := false, tag := "", pkgPath := "", byteOffset := 2 }, { name := "Shear", type := 25, offset := 5, embedded := false, tag := "", pkgPath := "", byteOffset := 8 }]) := ⟨Go.Proofs.Tryz.underlying40⟩
instance : TI Go.Proofs.Tryz.prog 40 (.agg #[.int .u8 0, .int .u8 0, .int .u16 0, .int .u16 0, .int .u16 0, .int .u8 0, .int .u8 0, .int .u8 0]) 8 12 := ⟨by kernel_rfl⟩
instance : UL Go.Proofs.Tryz.prog 41 (.slice 5) := ⟨Go.Proofs.Tryz.underlying41⟩
instance : TI Go.Proofs.Tryz.prog 41 (.slice none 0 0) 1 24 := ⟨by kernel_rfl⟩
instance : UL Go.Proofs.Tryz.prog 42 (.slice 23) := ⟨Go.Proofs.Tryz.underlying42⟩
instance : TI Go.Proofs.Tryz.prog 42 (.slice none 0 0) 1 24 := ⟨by kernel_rfl⟩
instance : UL Go.Proofs.Tryz.prog 43 (.struct #[{ name := "Size", type := 41, offset := 0, embedded := false, tag := "", pkgPath := "", byteOffset := 0 }, { name := "Out", type := 5, offset := 1, embedded := false, tag := "", pkgPath := "", byteOffset := 24 }, { name := "Values", type := 42, offset := 2, embedded := false, tag := "", pkgPath := "", byteOffset := 32 }, { name := "Smooth", type := 4, offset := 3, embedded := false, tag := "", pkgPath := "", byteOffset := 56 }]) := ⟨Go.Proofs.Tryz.underlying43⟩
instance : TI Go.Proofs.Tryz.prog 43 (.agg #[.slice none 0 0, .int .u8 0, .slice none 0 0, .bool false]) 4 64 := ⟨by kernel_rfl⟩
instance : UL Go.Proofs.Tryz.prog 44 (.struct #[{ name := "Size", type := 41, offset := 0, embedded := false, tag := "", pkgPath := "", byteOffset := 0 }, { name := "Out", type := 5, offset := 1, embedded := false, tag := "", pkgPath := "", byteOffset := 24 }, { name := "Values", type := 42, offset := 2, embedded := false, tag := "", pkgPath := "", byteOffset := 32 }, { name := "Smooth", type := 4, offset := 3, embedded := false, tag := "", pkgPath := "", byteOffset := 56 }]) := ⟨Go.Proofs.Tryz.underlying44⟩
instance : TI Go.Proofs.Tryz.prog 44 (.agg #[.slice none 0 0, .int .u8 0, .slice none 0 0, .bool false]) 4 64 := ⟨by kernel_rfl⟩
instance : UL Go.Proofs.Tryz.prog 45 (.struct #[{ name := "Size", type := 22, offset := 0, embedded := false, tag := "", pkgPath := "", byteOffset := 0 }, { name := "Out", type := 3, offset := 1, embedded := false, tag := "", pkgPath := "", byteOffset := 24 }, { name := "Data", type := 22, offset := 2, embedded := false, tag := "", pkgPath := "", byteOffset := 32 }]) := ⟨Go.Proofs.Tryz.underlying45⟩
instance : TI Go.Proofs.Tryz.prog 45 (.agg #[.slice none 0 0, .int .i64 0, .slice none 0 0]) 3 56 := ⟨by kernel_rfl⟩
instance : UL Go.Proofs.Tryz.prog 46 (.struct #[{ name := "Size", type := 22, offset := 0, embedded := false, tag := "", pkgPath := "", byteOffset := 0 }, { name := "Out", type := 3, offset := 1, embedded := false, tag := "", pkgPath := "", byteOffset := 24 }, { name := "Data", type := 22, offset := 2, embedded := false, tag := "", pkgPath := "", byteOffset := 32 }]) := ⟨Go.Proofs.Tryz.underlying46⟩
instance : TI Go.Proofs.Tryz.prog 46 (.agg #[.slice none 0 0, .int .i64 0, .slice none 0 0]) 3 56 := ⟨by kernel_rfl⟩
instance : UL Go.Proofs.Tryz.prog 47 (.func #[] #[46] false) := ⟨Go.Proofs.Tryz.underlying47⟩
instance : TI Go.Proofs.Tryz.prog 47 (.nilFunc) 1 8 := ⟨by kernel_rfl⟩
instance : UL Go.Proofs.Tryz.prog 48 (.int .u64) := ⟨Go.Proofs.Tryz.underlying48⟩
instance : TI Go.Proofs.Tryz.prog 48 (.int .u64 0) 1 8 := ⟨by kernel_rfl⟩
instance : UL Go.Proofs.Tryz.prog 49 (.array 4 46) := ⟨Go.Proofs.Tryz.underlying49⟩
instance : TI Go.Proofs.Tryz.prog 49 (.agg #[.slice none 0 0, .int .i64 0, .slice none 0 0, .slice none 0 0, .int .i64 0, .slice none 0 0, .slice none 0 0, .int .i64 0, .slice none 0 0, .slice none 0 0, .int .i64 0, .slice none 0 0]) 12 224 := ⟨by kernel_rfl⟩
instance : TI Go.Proofs.Tryz.prog 50 (.tuple #[.agg #[.slice none 0 0, .slice none 0 0], .int .i64 0]) 1 0 := ⟨by kernel_rfl⟩
instance : UL Go.Proofs.Tryz.prog 51 (.func #[46] #[36, 28] false) := ⟨Go.Proofs.Tryz.underlying51⟩
instance : TI Go.Proofs.Tryz.prog 51 (.nilFunc) 1 8 := ⟨by kernel_rfl⟩
instance : UL Go.Proofs.Tryz.prog 52 (.func #[40, 44, 23, 3, 5] #[4] false) := ⟨Go.Proofs.Tryz.underlying52⟩
instance : TI Go.Proofs.Tryz.prog 52 (.nilFunc) 1 8 := ⟨by kernel_rfl⟩
instance : UL Go.Proofs.Tryz.prog 53 (.string) := ⟨Go.Proofs.Tryz.underlying53⟩
instance : TI Go.Proofs.Tryz.prog 53 (.string ⟨#[]⟩) 1 16 := ⟨by kernel_rfl⟩
instance : TI Go.Proofs.Tryz.prog 54 (.tuple #[.string ⟨#[]⟩, .int .i64 0]) 1 0 := ⟨by kernel_rfl⟩
instance : UL Go.Proofs.Tryz.prog 55 (.func #[36] #[53, 28] false) := ⟨Go.Proofs.Tryz.underlying55⟩
instance : TI Go.Proofs.Tryz.prog 55 (.nilFunc) 1 8 := ⟨by kernel_rfl⟩
instance : UL Go.Proofs.Tryz.prog 56 (.func #[46, 27] #[27] false) := ⟨Go.Proofs.Tryz.underlying56⟩
instance : TI Go.Proofs.Tryz.prog 56 (.nilFunc) 1 8 := ⟨by kernel_rfl⟩
instance : TI Go.Proofs.Tryz.prog 57 (.tuple #[.agg #[.int .i64 0, .int .i64 0, .int .i64 0], .bool false]) 1 0 := ⟨by kernel_rfl⟩
instance : UL Go.Proofs.Tryz.prog 58 (.func #[3, 3, 3] #[27, 4] false) := ⟨Go.Proofs.Tryz.underlying58⟩
instance : TI Go.Proofs.Tryz.prog 58 (.nilFunc) 1 8 := ⟨by kernel_rfl⟩
instance : UL Go.Proofs.Tryz.prog 59 (.func #[40] #[4] false) := ⟨Go.Proofs.Tryz.underlying59⟩
instance : TI Go.Proofs.Tryz.prog 59 (.nilFunc) 1 8 := ⟨by kernel_rfl⟩
instance : UL Go.Proofs.Tryz.prog 60 (.map 27 3) := ⟨Go.Proofs.Tryz.underlying60⟩
instance : TI Go.Proofs.Tryz.prog 60 (.map none) 1 8 := ⟨by kernel_rfl⟩
instance : UL Go.Proofs.Tryz.prog 61 (.func #[40, 5] #[4] false) := ⟨Go.Proofs.Tryz.underlying61⟩
instance : TI Go.Proofs.Tryz.prog 61 (.nilFunc) 1 8 := ⟨by kernel_rfl⟩
instance : UL Go.Proofs.Tryz.prog 62 (.func #[3] #[9] false) := ⟨Go.Proofs.Tryz.underlying62⟩
instance : TI Go.Proofs.Tryz.prog 62 (.nilFunc) 1 8 := ⟨by kernel_rfl⟩
instance : UL Go.Proofs.Tryz.prog 63 (.func #[3, 3] #[3] false) := ⟨Go.Proofs.Tryz.underlying63⟩
instance : TI Go.Proofs.Tryz.prog 63 (.nilFunc) 1 8 := ⟨by kernel_rfl⟩
instance : UL Go.Proofs.Tryz.prog 64 (.func #[3, 3, 3] #[27] false) := ⟨Go.Proofs.Tryz.underlying64⟩
instance : TI Go.Proofs.Tryz.prog 64 (.nilFunc) 1 8 := ⟨by kernel_rfl⟩
instance : UL Go.Proofs.Tryz.prog 65 (.func #[27] #[31] false) := ⟨Go.Proofs.Tryz.underlying65⟩
instance : TI Go.Proofs.Tryz.prog 65 (.nilFunc) 1 8 := ⟨by kernel_rfl⟩
instance : UL Go.Proofs.Tryz.prog 66 (.func #[31, 31] #[4] false) := ⟨Go.Proofs.Tryz.underlying66⟩
instance : TI Go.Proofs.Tryz.prog 66 (.nilFunc) 1 8 := ⟨by kernel_rfl⟩
instance : UL Go.Proofs.Tryz.prog 67 (.array 6 27) := ⟨Go.Proofs.Tryz.underlying67⟩
instance : TI Go.Proofs.Tryz.prog 67 (.agg #[.int .i64 0, .int .i64 0, .int .i64 0, .int .i64 0, .int .i64 0, .int .i64 0, .int .i64 0, .int .i64 0, .int .i64 0, .int .i64 0, .int .i64 0, .int .i64 0, .int .i64 0, .int .i64 0, .int .i64 0, .int .i64 0, .int .i64 0, .int .i64 0]) 18 144 := ⟨by kernel_rfl⟩
instance : UL Go.Proofs.Tryz.prog 68 (.func #[22, 3] #[46] false) := ⟨Go.Proofs.Tryz.underlying68⟩
instance : TI Go.Proofs.Tryz.prog 68 (.nilFunc) 1 8 := ⟨by kernel_rfl⟩
instance : TI Go.Proofs.Tryz.prog 69 (.tuple #[.int .i64 0, .bool false]) 1 0 := ⟨by kernel_rfl⟩
instance : UL Go.Proofs.Tryz.prog 70 (.func #[46] #[28] false) := ⟨Go.Proofs.Tryz.underlying70⟩
instance : TI Go.Proofs.Tryz.prog 70 (.nilFunc) 1 8 := ⟨by kernel_rfl⟩
instance : UL Go.Proofs.Tryz.prog 71 (.func #[46] #[36] false) := ⟨Go.Proofs.Tryz.underlying71⟩
instance : TI Go.Proofs.Tryz.prog 71 (.nilFunc) 1 8 := ⟨by kernel_rfl⟩
instance : UL Go.Proofs.Tryz.prog 72 (.func #[36] #[28] false) := ⟨Go.Proofs.Tryz.underlying72⟩
instance : TI Go.Proofs.Tryz.prog 72 (.nilFunc) 1 8 := ⟨by kernel_rfl⟩
instance : UL Go.Proofs.Tryz.prog 73 (.func #[53, 28] #[53] false) := ⟨Go.Proofs.Tryz.underlying73⟩
instance : TI Go.Proofs.Tryz.prog 73 (.nilFunc) 1 8 := ⟨by kernel_rfl⟩
instance : UL Go.Proofs.Tryz.prog 74 (.func #[36, 28] #[36] false) := ⟨Go.Proofs.Tryz.underlying74⟩
instance : TI Go.Proofs.Tryz.prog 74 (.nilFunc) 1 8 := ⟨by kernel_rfl⟩
instance : UL Go.Proofs.Tryz.prog 75 (.func #[36] #[36, 28] false) := ⟨Go.Proofs.Tryz.underlying75⟩
instance : TI Go.Proofs.Tryz.prog 75 (.nilFunc) 1 8 := ⟨by kernel_rfl⟩
instance : UL Go.Proofs.Tryz.prog 76 (.func #[31, 27, 3, 3] #[31] false) := ⟨Go.Proofs.Tryz.underlying76⟩
instance : TI Go.Proofs.Tryz.prog 76 (.nilFunc) 1 8 := ⟨by kernel_rfl⟩
instance : TI Go.Proofs.Tryz.prog 77 (.tuple #[.int .i64 0, .int .i64 0]) 1 0 := ⟨by kernel_rfl⟩
instance : UL Go.Proofs.Tryz.prog 78 (.func #[53] #[3, 28] false) := ⟨Go.Proofs.Tryz.underlying78⟩
instance : TI Go.Proofs.Tryz.prog 78 (.nilFunc) 1 8 := ⟨by kernel_rfl⟩
instance : UL Go.Proofs.Tryz.prog 79 (.func #[3] #[53] false) := ⟨Go.Proofs.Tryz.underlying79⟩
instance : TI Go.Proofs.Tryz.prog 79 (.nilFunc) 1 8 := ⟨by kernel_rfl⟩
instance : UL Go.Proofs.Tryz.prog 80 (.func #[53, 53] #[53, 28] false) := ⟨Go.Proofs.Tryz.underlying80⟩
instance : TI Go.Proofs.Tryz.prog 80 (.nilFunc) 1 8 := ⟨by kernel_rfl⟩
instance : UL Go.Proofs.Tryz.prog 81 (.func #[27, 27] #[3] false) := ⟨Go.Proofs.Tryz.underlying81⟩
instance : TI Go.Proofs.Tryz.prog 81 (.nilFunc) 1 8 := ⟨by kernel_rfl⟩
instance : UL Go.Proofs.Tryz.prog 82 (.func #[27, 27] #[27] false) := ⟨Go.Proofs.Tryz.underlying82⟩
instance : TI Go.Proofs.Tryz.prog 82 (.nilFunc) 1 8 := ⟨by kernel_rfl⟩
instance : UL Go.Proofs.Tryz.prog 83 (.func #[3, 3] #[4] false) := ⟨Go.Proofs.Tryz.underlying83⟩
instance : TI Go.Proofs.Tryz.prog 83 (.nilFunc) 1 8 := ⟨by kernel_rfl⟩
instance : UL Go.Proofs.Tryz.prog 84 (.func #[22] #[3] false) := ⟨Go.Proofs.Tryz.underlying84⟩
instance : TI Go.Proofs.Tryz.prog 84 (.nilFunc) 1 8 := ⟨by kernel_rfl⟩
instance : UL Go.Proofs.Tryz.prog 85 (.func #[22, 3] #[22] false) := ⟨Go.Proofs.Tryz.underlying85⟩
instance : TI Go.Proofs.Tryz.prog 85 (.nilFunc) 1 8 := ⟨by kernel_rfl⟩
instance : UL Go.Proofs.Tryz.prog 86 (.func #[3, 3, 3] #[4] false) := ⟨Go.Proofs.Tryz.underlying86⟩
instance : TI Go.Proofs.Tryz.prog 86 (.nilFunc) 1 8 := ⟨by kernel_rfl⟩
instance : UL Go.Proofs.Tryz.prog 87 (.func #[22] #[3] true) := ⟨Go.Proofs.Tryz.underlying87⟩
instance : TI Go.Proofs.Tryz.prog 87 (.nilFunc) 1 8 := ⟨by kernel_rfl⟩
instance : UL Go.Proofs.Tryz.prog 88 (.func #[31, 28] #[31] false) := ⟨Go.Proofs.Tryz.underlying88⟩
instance : TI Go.Proofs.Tryz.prog 88 (.nilFunc) 1 8 := ⟨by kernel_rfl⟩
instance : UL Go.Proofs.Tryz.prog 89 (.func #[27, 28] #[27] false) := ⟨Go.Proofs.Tryz.underlying89⟩
instance : TI Go.Proofs.Tryz.prog 89 (.nilFunc) 1 8 := ⟨by kernel_rfl⟩
instance : UL Go.Proofs.Tryz.prog 90 (.func #[22, 28] #[22] false) := ⟨Go.Proofs.Tryz.underlying90⟩
instance : TI Go.Proofs.Tryz.prog 90 (.nilFunc) 1 8 := ⟨by kernel_rfl⟩
instance : TI Go.Proofs.Tryz.prog 91 (.tuple #[.slice none 0 0, .int .i64 0]) 1 0 := ⟨by kernel_rfl⟩
instance : UL Go.Proofs.Tryz.prog 92 (.func #[46, 22] #[22, 28] false) := ⟨Go.Proofs.Tryz.underlying92⟩
instance : TI Go.Proofs.Tryz.prog 92 (.nilFunc) 1 8 := ⟨by kernel_rfl⟩
instance : UL Go.Proofs.Tryz.prog 93 (.array 2 3) := ⟨Go.Proofs.Tryz.underlying93⟩
instance : TI Go.Proofs.Tryz.prog 93 (.agg #[.int .i64 0, .int .i64 0]) 2 16 := ⟨by kernel_rfl⟩
instance : UL Go.Proofs.Tryz.prog 94 (.array 2 3) := ⟨Go.Proofs.Tryz.underlying94⟩
instance : TI Go.Proofs.Tryz.prog 94 (.agg #[.int .i64 0, .int .i64 0]) 2 16 := ⟨by kernel_rfl⟩
instance : UL Go.Proofs.Tryz.prog 95 (.map 94 4) := ⟨Go.Proofs.Tryz.underlying95⟩
instance : TI Go.Proofs.Tryz.prog 95 (.map none) 1 8 := ⟨by kernel_rfl⟩
instance : UL Go.Proofs.Tryz.prog 96 (.func #[120] #[] false) := ⟨Go.Proofs.Tryz.underlying96⟩
instance : TI Go.Proofs.Tryz.prog 96 (.nilFunc) 1 8 := ⟨by kernel_rfl⟩
instance : UL Go.Proofs.Tryz.prog 97 (.func #[120] #[] false) := ⟨Go.Proofs.Tryz.underlying97⟩
instance : TI Go.Proofs.Tryz.prog 97 (.nilFunc) 1 8 := ⟨by kernel_rfl⟩
instance : UL Go.Proofs.Tryz.prog 98 (.func #[] #[97] false) := ⟨Go.Proofs.Tryz.underlying98⟩
instance : TI Go.Proofs.Tryz.prog 98 (.nilFunc) 1 8 := ⟨by kernel_rfl⟩
instance : TI Go.Proofs.Tryz.prog 99 (.tuple #[.int .i64 0, .int .i64 0]) 1 0 := ⟨by kernel_rfl⟩
instance : UL Go.Proofs.Tryz.prog 100 (.func #[3] #[3, 3] false) := ⟨Go.Proofs.Tryz.underlying100⟩
instance : TI Go.Proofs.Tryz.prog 100 (.nilFunc) 1 8 := ⟨by kernel_rfl⟩
instance : UL Go.Proofs.Tryz.prog 101 (.func #[36] #[3, 3] false) := ⟨Go.Proofs.Tryz.underlying101⟩
instance : TI Go.Proofs.Tryz.prog 101 (.nilFunc) 1 8 := ⟨by kernel_rfl⟩
instance : UL Go.Proofs.Tryz.prog 102 (.func #[31] #[31] false) := ⟨Go.Proofs.Tryz.underlying102⟩
instance : TI Go.Proofs.Tryz.prog 102 (.nilFunc) 1 8 := ⟨by kernel_rfl⟩
instance : UL Go.Proofs.Tryz.prog 103 (.func #[46] #[4] false) := ⟨Go.Proofs.Tryz.underlying103⟩
instance : TI Go.Proofs.Tryz.prog 103 (.nilFunc) 1 8 := ⟨by kernel_rfl⟩
instance : UL Go.Proofs.Tryz.prog 104 (.func #[31, 27] #[3] false) := ⟨Go.Proofs.Tryz.underlying104⟩
instance : TI Go.Proofs.Tryz.prog 104 (.nilFunc) 1 8 := ⟨by kernel_rfl⟩
instance : UL Go.Proofs.Tryz.prog 105 (.func #[53] #[4] false) := ⟨Go.Proofs.Tryz.underlying105⟩
instance : TI Go.Proofs.Tryz.prog 105 (.nilFunc) 1 8 := ⟨by kernel_rfl⟩
instance : UL Go.Proofs.Tryz.prog 106 (.func #[108, 108] #[3] false) := ⟨Go.Proofs.Tryz.underlying106⟩
instance : TI Go.Proofs.Tryz.prog 106 (.nilFunc) 1 8 := ⟨by kernel_rfl⟩
instance : UL Go.Proofs.Tryz.prog 107 (.struct #[{ name := "Below", type := 4, offset := 0, embedded := false, tag := "", pkgPath := "", byteOffset := 0 }, { name := "D", type := 22, offset := 1, embedded := false, tag := "", pkgPath := "", byteOffset := 8 }]) := ⟨Go.Proofs.Tryz.underlying107⟩
instance : TI Go.Proofs.Tryz.prog 107 (.agg #[.bool false, .slice none 0 0]) 2 32 := ⟨by kernel_rfl⟩
instance : UL Go.Proofs.Tryz.prog 108 (.struct #[{ name := "Below", type := 4, offset := 0, embedded := false, tag := "", pkgPath := "", byteOffset := 0 }, { name := "D", type := 22, offset := 1, embedded := false, tag := "", pkgPath := "", byteOffset := 8 }]) := ⟨Go.Proofs.Tryz.underlying108⟩
instance : TI Go.Proofs.Tryz.prog 108 (.agg #[.bool false, .slice none 0 0]) 2 32 := ⟨by kernel_rfl⟩
instance : UL Go.Proofs.Tryz.prog 109 (.func #[53] #[108] false) := ⟨Go.Proofs.Tryz.underlying109⟩
instance : TI Go.Proofs.Tryz.prog 109 (.nilFunc) 1 8 := ⟨by kernel_rfl⟩
instance : UL Go.Proofs.Tryz.prog 110 (.func #[3] #[108] false) := ⟨Go.Proofs.Tryz.underlying110⟩
instance : TI Go.Proofs.Tryz.prog 110 (.nilFunc) 1 8 := ⟨by kernel_rfl⟩
instance : UL Go.Proofs.Tryz.prog 111 (.func #[3, 53, 53] #[53, 28] false) := ⟨Go.Proofs.Tryz.underlying111⟩
instance : TI Go.Proofs.Tryz.prog 111 (.nilFunc) 1 8 := ⟨by kernel_rfl⟩
instance : UL Go.Proofs.Tryz.prog 112 (.func #[2, 3] #[9] false) := ⟨Go.Proofs.Tryz.underlying112⟩
instance : TI Go.Proofs.Tryz.prog 112 (.nilFunc) 1 8 := ⟨by kernel_rfl⟩
instance : UL Go.Proofs.Tryz.prog 113 (.struct #[{ name := "Grid", type := 46, offset := 0, embedded := true, tag := "", pkgPath := "", byteOffset := 0 }]) := ⟨Go.Proofs.Tryz.underlying113⟩
instance : TI Go.Proofs.Tryz.prog 113 (.agg #[.slice none 0 0, .int .i64 0, .slice none 0 0]) 3 56 := ⟨by kernel_rfl⟩
instance : UL Go.Proofs.Tryz.prog 114 (.struct #[{ name := "Grid", type := 46, offset := 0, embedded := true, tag := "", pkgPath := "", byteOffset := 0 }]) := ⟨Go.Proofs.Tryz.underlying114⟩
instance : TI Go.Proofs.Tryz.prog 114 (.agg #[.slice none 0 0, .int .i64 0, .slice none 0 0]) 3 56 := ⟨by kernel_rfl⟩
instance : UL Go.Proofs.Tryz.prog 115 (.array 4 3) := ⟨Go.Proofs.Tryz.underlying115⟩
instance : TI Go.Proofs.Tryz.prog 115 (.agg #[.int .i64 0, .int .i64 0, .int .i64 0, .int .i64 0]) 4 32 := ⟨by kernel_rfl⟩
instance : UL Go.Proofs.Tryz.prog 116 (.array 4 3) := ⟨Go.Proofs.Tryz.underlying116⟩
instance : TI Go.Proofs.Tryz.prog 116 (.agg #[.int .i64 0, .int .i64 0, .int .i64 0, .int .i64 0]) 4 32 := ⟨by kernel_rfl⟩
instance : TI Go.Proofs.Tryz.prog 117 (.tuple #[.agg #[.int .i64 0, .int .i64 0, .int .i64 0, .int .i64 0], .bool false]) 1 0 := ⟨by kernel_rfl⟩
instance : UL Go.Proofs.Tryz.prog 118 (.func #[22] #[116, 4] false) := ⟨Go.Proofs.Tryz.underlying118⟩
instance : TI Go.Proofs.Tryz.prog 118 (.nilFunc) 1 8 := ⟨by kernel_rfl⟩
instance : UL Go.Proofs.Tryz.prog 119 (.func #[116] #[22] false) := ⟨Go.Proofs.Tryz.underlying119⟩
instance : TI Go.Proofs.Tryz.prog 119 (.nilFunc) 1 8 := ⟨by kernel_rfl⟩
instance : UL Go.Proofs.Tryz.prog 120 (.func #[94] #[4] false) := ⟨Go.Proofs.Tryz.underlying120⟩
instance : TI Go.Proofs.Tryz.prog 120 (.nilFunc) 1 8 := ⟨by kernel_rfl⟩
instance : UL Go.Proofs.Tryz.prog 121 (.map 153 3) := ⟨Go.Proofs.Tryz.underlying121⟩
instance : TI Go.Proofs.Tryz.prog 121 (.map none) 1 8 := ⟨by kernel_rfl⟩
instance : UL Go.Proofs.Tryz.prog 122 (.struct #[{ name := "Mesh", type := 36, offset := 0, embedded := true, tag := "", pkgPath := "", byteOffset := 0 }, { name := "owners", type := 121, offset := 2, embedded := false, tag := "", pkgPath := "verdigris/mesh", byteOffset := 48 }]) := ⟨Go.Proofs.Tryz.underlying122⟩
instance : TI Go.Proofs.Tryz.prog 122 (.agg #[.slice none 0 0, .slice none 0 0, .map none]) 3 56 := ⟨by kernel_rfl⟩
instance : UL Go.Proofs.Tryz.prog 123 (.struct #[{ name := "Mesh", type := 36, offset := 0, embedded := true, tag := "", pkgPath := "", byteOffset := 0 }, { name := "owners", type := 121, offset := 2, embedded := false, tag := "", pkgPath := "verdigris/mesh", byteOffset := 48 }]) := ⟨Go.Proofs.Tryz.underlying123⟩
instance : TI Go.Proofs.Tryz.prog 123 (.agg #[.slice none 0 0, .slice none 0 0, .map none]) 3 56 := ⟨by kernel_rfl⟩
instance : UL Go.Proofs.Tryz.prog 124 (.func #[] #[3, 4] false) := ⟨Go.Proofs.Tryz.underlying124⟩
instance : TI Go.Proofs.Tryz.prog 124 (.nilFunc) 1 8 := ⟨by kernel_rfl⟩
instance : UL Go.Proofs.Tryz.prog 125 (.func #[] #[3, 4] false) := ⟨Go.Proofs.Tryz.underlying125⟩
instance : TI Go.Proofs.Tryz.prog 125 (.nilFunc) 1 8 := ⟨by kernel_rfl⟩
instance : UL Go.Proofs.Tryz.prog 126 (.array 7 125) := ⟨Go.Proofs.Tryz.underlying126⟩
instance : TI Go.Proofs.Tryz.prog 126 (.agg #[.nilFunc, .nilFunc, .nilFunc, .nilFunc, .nilFunc, .nilFunc, .nilFunc]) 7 56 := ⟨by kernel_rfl⟩
instance : TI Go.Proofs.Tryz.prog 127 (.tuple #[.int .i64 0, .bool false]) 1 0 := ⟨by kernel_rfl⟩
instance : UL Go.Proofs.Tryz.prog 128 (.func #[108] #[53, 28] false) := ⟨Go.Proofs.Tryz.underlying128⟩
instance : TI Go.Proofs.Tryz.prog 128 (.nilFunc) 1 8 := ⟨by kernel_rfl⟩
instance : UL Go.Proofs.Tryz.prog 129 (.func #[108, 108] #[108] false) := ⟨Go.Proofs.Tryz.underlying129⟩
instance : TI Go.Proofs.Tryz.prog 129 (.nilFunc) 1 8 := ⟨by kernel_rfl⟩
instance : UL Go.Proofs.Tryz.prog 130 (.func #[4, 22] #[108] false) := ⟨Go.Proofs.Tryz.underlying130⟩
instance : TI Go.Proofs.Tryz.prog 130 (.nilFunc) 1 8 := ⟨by kernel_rfl⟩
instance : UL Go.Proofs.Tryz.prog 131 (.slice 174) := ⟨Go.Proofs.Tryz.underlying131⟩
instance : TI Go.Proofs.Tryz.prog 131 (.slice none 0 0) 1 24 := ⟨by kernel_rfl⟩
instance : UL Go.Proofs.Tryz.prog 132 (.slice 174) := ⟨Go.Proofs.Tryz.underlying132⟩
instance : TI Go.Proofs.Tryz.prog 132 (.slice none 0 0) 1 24 := ⟨by kernel_rfl⟩
instance : UL Go.Proofs.Tryz.prog 133 (.struct #[{ name := "magnitude", type := 132, offset := 0, embedded := true, tag := "", pkgPath := "verdigris/whole", byteOffset := 0 }, { name := "negative", type := 4, offset := 1, embedded := false, tag := "", pkgPath := "verdigris/whole", byteOffset := 24 }]) := ⟨Go.Proofs.Tryz.underlying133⟩
instance : TI Go.Proofs.Tryz.prog 133 (.agg #[.slice none 0 0, .bool false]) 2 32 := ⟨by kernel_rfl⟩
instance : UL Go.Proofs.Tryz.prog 134 (.struct #[{ name := "magnitude", type := 132, offset := 0, embedded := true, tag := "", pkgPath := "verdigris/whole", byteOffset := 0 }, { name := "negative", type := 4, offset := 1, embedded := false, tag := "", pkgPath := "verdigris/whole", byteOffset := 24 }]) := ⟨Go.Proofs.Tryz.underlying134⟩
instance : TI Go.Proofs.Tryz.prog 134 (.agg #[.slice none 0 0, .bool false]) 2 32 := ⟨by kernel_rfl⟩
instance : TI Go.Proofs.Tryz.prog 135 (.tuple #[.agg #[.slice none 0 0, .bool false], .agg #[.slice none 0 0, .bool false], .int .i64 0]) 1 0 := ⟨by kernel_rfl⟩
instance : UL Go.Proofs.Tryz.prog 136 (.func #[53, 53] #[134, 134, 28] false) := ⟨Go.Proofs.Tryz.underlying136⟩
instance : TI Go.Proofs.Tryz.prog 136 (.nilFunc) 1 8 := ⟨by kernel_rfl⟩
instance : UL Go.Proofs.Tryz.prog 137 (.func #[134, 134] #[134] false) := ⟨Go.Proofs.Tryz.underlying137⟩
instance : TI Go.Proofs.Tryz.prog 137 (.nilFunc) 1 8 := ⟨by kernel_rfl⟩
instance : UL Go.Proofs.Tryz.prog 138 (.func #[134] #[134] false) := ⟨Go.Proofs.Tryz.underlying138⟩
instance : TI Go.Proofs.Tryz.prog 138 (.nilFunc) 1 8 := ⟨by kernel_rfl⟩
instance : UL Go.Proofs.Tryz.prog 139 (.struct #[{ name := "run", type := 137, offset := 0, embedded := false, tag := "", pkgPath := "verdigris/whole", byteOffset := 0 }]) := ⟨Go.Proofs.Tryz.underlying139⟩
instance : TI Go.Proofs.Tryz.prog 139 (.agg #[.nilFunc]) 1 8 := ⟨by kernel_rfl⟩
instance : UL Go.Proofs.Tryz.prog 140 (.struct #[{ name := "run", type := 137, offset := 0, embedded := false, tag := "", pkgPath := "verdigris/whole", byteOffset := 0 }]) := ⟨Go.Proofs.Tryz.underlying140⟩
instance : TI Go.Proofs.Tryz.prog 140 (.agg #[.nilFunc]) 1 8 := ⟨by kernel_rfl⟩
instance : UL Go.Proofs.Tryz.prog 141 (.array 4 140) := ⟨Go.Proofs.Tryz.underlying141⟩
instance : TI Go.Proofs.Tryz.prog 141 (.agg #[.nilFunc, .nilFunc, .nilFunc, .nilFunc]) 4 32 := ⟨by kernel_rfl⟩
instance : UL Go.Proofs.Tryz.prog 142 (.func #[134] #[53, 28] false) := ⟨Go.Proofs.Tryz.underlying142⟩
instance : TI Go.Proofs.Tryz.prog 142 (.nilFunc) 1 8 := ⟨by kernel_rfl⟩
instance : UL Go.Proofs.Tryz.prog 143 (.array 24 5) := ⟨Go.Proofs.Tryz.underlying143⟩
instance : TI Go.Proofs.Tryz.prog 143 (.agg #[.int .u8 0, .int .u8 0, .int .u8 0, .int .u8 0, .int .u8 0, .int .u8 0, .int .u8 0, .int .u8 0, .int .u8 0, .int .u8 0, .int .u8 0, .int .u8 0, .int .u8 0, .int .u8 0, .int .u8 0, .int .u8 0, .int .u8 0, .int .u8 0, .int .u8 0, .int .u8 0, .int .u8 0, .int .u8 0, .int .u8 0, .int .u8 0]) 24 24 := ⟨by kernel_rfl⟩
instance : UL Go.Proofs.Tryz.prog 144 (.int .u64) := ⟨Go.Proofs.Tryz.underlying144⟩
instance : TI Go.Proofs.Tryz.prog 144 (.int .u64 0) 1 8 := ⟨by kernel_rfl⟩
instance : UL Go.Proofs.Tryz.prog 145 (.func #[144] #[3] false) := ⟨Go.Proofs.Tryz.underlying145⟩
instance : TI Go.Proofs.Tryz.prog 145 (.nilFunc) 1 8 := ⟨by kernel_rfl⟩
instance : UL Go.Proofs.Tryz.prog 146 (.func #[41, 144] #[] false) := ⟨Go.Proofs.Tryz.underlying146⟩
instance : TI Go.Proofs.Tryz.prog 146 (.nilFunc) 1 8 := ⟨by kernel_rfl⟩
instance : TI Go.Proofs.Tryz.prog 147 (.tuple #[.slice none 0 0, .string ⟨#[]⟩]) 1 0 := ⟨by kernel_rfl⟩
instance : UL Go.Proofs.Tryz.prog 148 (.func #[41, 144, 3, 4, 4] #[41, 9] false) := ⟨Go.Proofs.Tryz.underlying148⟩
instance : TI Go.Proofs.Tryz.prog 148 (.nilFunc) 1 8 := ⟨by kernel_rfl⟩
instance : UL Go.Proofs.Tryz.prog 149 (.func #[116] #[3] false) := ⟨Go.Proofs.Tryz.underlying149⟩
instance : TI Go.Proofs.Tryz.prog 149 (.nilFunc) 1 8 := ⟨by kernel_rfl⟩
instance : UL Go.Proofs.Tryz.prog 150 (.func #[178] #[] false) := ⟨Go.Proofs.Tryz.underlying150⟩
instance : TI Go.Proofs.Tryz.prog 150 (.nilFunc) 1 8 := ⟨by kernel_rfl⟩
instance : UL Go.Proofs.Tryz.prog 151 (.func #[178] #[] false) := ⟨Go.Proofs.Tryz.underlying151⟩
instance : TI Go.Proofs.Tryz.prog 151 (.nilFunc) 1 8 := ⟨by kernel_rfl⟩
instance : UL Go.Proofs.Tryz.prog 152 (.func #[] #[151] false) := ⟨Go.Proofs.Tryz.underlying152⟩
instance : TI Go.Proofs.Tryz.prog 152 (.nilFunc) 1 8 := ⟨by kernel_rfl⟩
instance : UL Go.Proofs.Tryz.prog 153 (.array 2 3) := ⟨Go.Proofs.Tryz.underlying153⟩
instance : TI Go.Proofs.Tryz.prog 153 (.agg #[.int .i64 0, .int .i64 0]) 2 16 := ⟨by kernel_rfl⟩
instance : UL Go.Proofs.Tryz.prog 154 (.func #[] #[153] false) := ⟨Go.Proofs.Tryz.underlying154⟩
instance : TI Go.Proofs.Tryz.prog 154 (.nilFunc) 1 8 := ⟨by kernel_rfl⟩
instance : UL Go.Proofs.Tryz.prog 155 (.slice 4) := ⟨Go.Proofs.Tryz.underlying155⟩
instance : TI Go.Proofs.Tryz.prog 155 (.slice none 0 0) 1 24 := ⟨by kernel_rfl⟩
instance : UL Go.Proofs.Tryz.prog 156 (.func #[155, 4] #[3] false) := ⟨Go.Proofs.Tryz.underlying156⟩
instance : TI Go.Proofs.Tryz.prog 156 (.nilFunc) 1 8 := ⟨by kernel_rfl⟩
instance : UL Go.Proofs.Tryz.prog 157 (.func #[36, 3, 3, 3] #[3] false) := ⟨Go.Proofs.Tryz.underlying157⟩
instance : TI Go.Proofs.Tryz.prog 157 (.nilFunc) 1 8 := ⟨by kernel_rfl⟩
instance : UL Go.Proofs.Tryz.prog 158 (.func #[108] #[9] false) := ⟨Go.Proofs.Tryz.underlying158⟩
instance : TI Go.Proofs.Tryz.prog 158 (.nilFunc) 1 8 := ⟨by kernel_rfl⟩
instance : UL Go.Proofs.Tryz.prog 159 (.func #[22, 22] #[22] false) := ⟨Go.Proofs.Tryz.underlying159⟩
instance : TI Go.Proofs.Tryz.prog 159 (.nilFunc) 1 8 := ⟨by kernel_rfl⟩
instance : UL Go.Proofs.Tryz.prog 160 (.func #[22, 22] #[3] false) := ⟨Go.Proofs.Tryz.underlying160⟩
instance : TI Go.Proofs.Tryz.prog 160 (.nilFunc) 1 8 := ⟨by kernel_rfl⟩
instance : UL Go.Proofs.Tryz.prog 161 (.func #[108] #[108] false) := ⟨Go.Proofs.Tryz.underlying161⟩
instance : TI Go.Proofs.Tryz.prog 161 (.nilFunc) 1 8 := ⟨by kernel_rfl⟩
instance : UL Go.Proofs.Tryz.prog 162 (.func #[22] #[22] false) := ⟨Go.Proofs.Tryz.underlying162⟩
instance : TI Go.Proofs.Tryz.prog 162 (.nilFunc) 1 8 := ⟨by kernel_rfl⟩
instance : TI Go.Proofs.Tryz.prog 163 (.tuple #[.agg #[.slice none 0 0, .bool false], .bool false]) 1 0 := ⟨by kernel_rfl⟩
instance : UL Go.Proofs.Tryz.prog 164 (.func #[53] #[134, 4] false) := ⟨Go.Proofs.Tryz.underlying164⟩
instance : TI Go.Proofs.Tryz.prog 164 (.nilFunc) 1 8 := ⟨by kernel_rfl⟩
instance : UL Go.Proofs.Tryz.prog 165 (.func #[132, 4] #[134] false) := ⟨Go.Proofs.Tryz.underlying165⟩
instance : TI Go.Proofs.Tryz.prog 165 (.nilFunc) 1 8 := ⟨by kernel_rfl⟩
instance : UL Go.Proofs.Tryz.prog 166 (.func #[132] #[132] false) := ⟨Go.Proofs.Tryz.underlying166⟩
instance : TI Go.Proofs.Tryz.prog 166 (.nilFunc) 1 8 := ⟨by kernel_rfl⟩
instance : UL Go.Proofs.Tryz.prog 167 (.func #[132] #[3] false) := ⟨Go.Proofs.Tryz.underlying167⟩
instance : TI Go.Proofs.Tryz.prog 167 (.nilFunc) 1 8 := ⟨by kernel_rfl⟩
instance : UL Go.Proofs.Tryz.prog 168 (.func #[] #[134] false) := ⟨Go.Proofs.Tryz.underlying168⟩
instance : TI Go.Proofs.Tryz.prog 168 (.nilFunc) 1 8 := ⟨by kernel_rfl⟩
instance : UL Go.Proofs.Tryz.prog 169 (.func #[] #[3] false) := ⟨Go.Proofs.Tryz.underlying169⟩
instance : TI Go.Proofs.Tryz.prog 169 (.nilFunc) 1 8 := ⟨by kernel_rfl⟩
instance : UL Go.Proofs.Tryz.prog 170 (.func #[] #[9] false) := ⟨Go.Proofs.Tryz.underlying170⟩
instance : TI Go.Proofs.Tryz.prog 170 (.nilFunc) 1 8 := ⟨by kernel_rfl⟩
instance : UL Go.Proofs.Tryz.prog 171 (.func #[3] #[3] false) := ⟨Go.Proofs.Tryz.underlying171⟩
instance : TI Go.Proofs.Tryz.prog 171 (.nilFunc) 1 8 := ⟨by kernel_rfl⟩
instance : UL Go.Proofs.Tryz.prog 172 (.func #[4] #[3] false) := ⟨Go.Proofs.Tryz.underlying172⟩
instance : TI Go.Proofs.Tryz.prog 172 (.nilFunc) 1 8 := ⟨by kernel_rfl⟩
instance : UL Go.Proofs.Tryz.prog 173 (.array 20 144) := ⟨Go.Proofs.Tryz.underlying173⟩
instance : TI Go.Proofs.Tryz.prog 173 (.agg #[.int .u64 0, .int .u64 0, .int .u64 0, .int .u64 0, .int .u64 0, .int .u64 0, .int .u64 0, .int .u64 0, .int .u64 0, .int .u64 0, .int .u64 0, .int .u64 0, .int .u64 0, .int .u64 0, .int .u64 0, .int .u64 0, .int .u64 0, .int .u64 0, .int .u64 0, .int .u64 0]) 20 160 := ⟨by kernel_rfl⟩
instance : UL Go.Proofs.Tryz.prog 174 (.int .u32) := ⟨Go.Proofs.Tryz.underlying174⟩
instance : TI Go.Proofs.Tryz.prog 174 (.int .u32 0) 1 4 := ⟨by kernel_rfl⟩
instance : UL Go.Proofs.Tryz.prog 175 (.array 65 5) := ⟨Go.Proofs.Tryz.underlying175⟩
instance : UL Go.Proofs.Tryz.prog 176 (.func #[3] #[4] false) := ⟨Go.Proofs.Tryz.underlying176⟩
instance : TI Go.Proofs.Tryz.prog 176 (.nilFunc) 1 8 := ⟨by kernel_rfl⟩
instance : UL Go.Proofs.Tryz.prog 177 (.func #[48] #[3] false) := ⟨Go.Proofs.Tryz.underlying177⟩
instance : TI Go.Proofs.Tryz.prog 177 (.nilFunc) 1 8 := ⟨by kernel_rfl⟩
instance : UL Go.Proofs.Tryz.prog 178 (.func #[3, 153] #[4] false) := ⟨Go.Proofs.Tryz.underlying178⟩
instance : TI Go.Proofs.Tryz.prog 178 (.nilFunc) 1 8 := ⟨by kernel_rfl⟩
instance : UL Go.Proofs.Tryz.prog 179 (.func #[27] #[4] false) := ⟨Go.Proofs.Tryz.underlying179⟩
instance : TI Go.Proofs.Tryz.prog 179 (.nilFunc) 1 8 := ⟨by kernel_rfl⟩
instance : UL Go.Proofs.Tryz.prog 180 (.func #[36, 3] #[27] false) := ⟨Go.Proofs.Tryz.underlying180⟩
instance : TI Go.Proofs.Tryz.prog 180 (.nilFunc) 1 8 := ⟨by kernel_rfl⟩
instance : TI Go.Proofs.Tryz.prog 181 (.tuple #[.string ⟨#[]⟩, .bool false]) 1 0 := ⟨by kernel_rfl⟩
instance : UL Go.Proofs.Tryz.prog 182 (.func #[9, 9] #[9, 4] false) := ⟨Go.Proofs.Tryz.underlying182⟩
instance : TI Go.Proofs.Tryz.prog 182 (.nilFunc) 1 8 := ⟨by kernel_rfl⟩
instance : UL Go.Proofs.Tryz.prog 183 (.func #[9] #[132] false) := ⟨Go.Proofs.Tryz.underlying183⟩
instance : TI Go.Proofs.Tryz.prog 183 (.nilFunc) 1 8 := ⟨by kernel_rfl⟩
instance : UL Go.Proofs.Tryz.prog 184 (.func #[174, 174] #[3] false) := ⟨Go.Proofs.Tryz.underlying184⟩
instance : TI Go.Proofs.Tryz.prog 184 (.nilFunc) 1 8 := ⟨by kernel_rfl⟩
instance : UL Go.Proofs.Tryz.prog 185 (.func #[] #[132] false) := ⟨Go.Proofs.Tryz.underlying185⟩
instance : TI Go.Proofs.Tryz.prog 185 (.nilFunc) 1 8 := ⟨by kernel_rfl⟩
instance : UL Go.Proofs.Tryz.prog 186 (.func #[] #[144] false) := ⟨Go.Proofs.Tryz.underlying186⟩
instance : TI Go.Proofs.Tryz.prog 186 (.nilFunc) 1 8 := ⟨by kernel_rfl⟩
instance : UL Go.Proofs.Tryz.prog 187 (.func #[144] #[132] false) := ⟨Go.Proofs.Tryz.underlying187⟩
instance : TI Go.Proofs.Tryz.prog 187 (.nilFunc) 1 8 := ⟨by kernel_rfl⟩
instance : TI Go.Proofs.Tryz.prog 188 (.tuple #[.slice none 0 0, .slice none 0 0]) 1 0 := ⟨by kernel_rfl⟩
instance : UL Go.Proofs.Tryz.prog 189 (.func #[132] #[132, 132] false) := ⟨Go.Proofs.Tryz.underlying189⟩
instance : TI Go.Proofs.Tryz.prog 189 (.nilFunc) 1 8 := ⟨by kernel_rfl⟩
instance : UL Go.Proofs.Tryz.prog 190 (.pointer 192) := ⟨Go.Proofs.Tryz.underlying190⟩
instance : TI Go.Proofs.Tryz.prog 190 (.pointer none) 1 8 := ⟨by kernel_rfl⟩
instance : UL Go.Proofs.Tryz.prog 191 (.struct #[{ name := "addr", type := 190, offset := 0, embedded := false, tag := "", pkgPath := "strings", byteOffset := 0 }, { name := "buf", type := 41, offset := 1, embedded := false, tag := "", pkgPath := "strings", byteOffset := 8 }]) := ⟨Go.Proofs.Tryz.underlying191⟩
instance : TI Go.Proofs.Tryz.prog 191 (.agg #[.pointer none, .slice none 0 0]) 2 32 := ⟨by kernel_rfl⟩
instance : UL Go.Proofs.Tryz.prog 192 (.struct #[{ name := "addr", type := 190, offset := 0, embedded := false, tag := "", pkgPath := "strings", byteOffset := 0 }, { name := "buf", type := 41, offset := 1, embedded := false, tag := "", pkgPath := "strings", byteOffset := 8 }]) := ⟨Go.Proofs.Tryz.underlying192⟩
instance : TI Go.Proofs.Tryz.prog 192 (.agg #[.pointer none, .slice none 0 0]) 2 32 := ⟨by kernel_rfl⟩
instance : TI Go.Proofs.Tryz.prog 194 (.nilIface) 1 16 := ⟨by kernel_rfl⟩
instance : UL Go.Proofs.Tryz.prog 195 (.func #[5] #[194] false) := ⟨Go.Proofs.Tryz.underlying195⟩
instance : TI Go.Proofs.Tryz.prog 195 (.nilFunc) 1 8 := ⟨by kernel_rfl⟩
instance : TI Go.Proofs.Tryz.prog 196 (.tuple #[.int .i64 0, .nilIface]) 1 0 := ⟨by kernel_rfl⟩
instance : UL Go.Proofs.Tryz.prog 197 (.func #[9] #[3, 194] false) := ⟨Go.Proofs.Tryz.underlying197⟩
instance : TI Go.Proofs.Tryz.prog 197 (.nilFunc) 1 8 := ⟨by kernel_rfl⟩
instance : UL Go.Proofs.Tryz.prog 198 (.func #[174, 3] #[] false) := ⟨Go.Proofs.Tryz.underlying198⟩
instance : TI Go.Proofs.Tryz.prog 198 (.nilFunc) 1 8 := ⟨by kernel_rfl⟩
instance : UL Go.Proofs.Tryz.prog 199 (.func #[174] #[3] false) := ⟨Go.Proofs.Tryz.underlying199⟩
instance : TI Go.Proofs.Tryz.prog 199 (.nilFunc) 1 8 := ⟨by kernel_rfl⟩
instance : UL Go.Proofs.Tryz.prog 200 (.func #[174] #[4] false) := ⟨Go.Proofs.Tryz.underlying200⟩
instance : TI Go.Proofs.Tryz.prog 200 (.nilFunc) 1 8 := ⟨by kernel_rfl⟩
instance : TI Go.Proofs.Tryz.prog 201 (.tuple #[.slice none 0 0, .int .u32 0]) 1 0 := ⟨by kernel_rfl⟩
instance : UL Go.Proofs.Tryz.prog 202 (.func #[174] #[132, 174] false) := ⟨Go.Proofs.Tryz.underlying202⟩
instance : TI Go.Proofs.Tryz.prog 202 (.nilFunc) 1 8 := ⟨by kernel_rfl⟩
instance : UL Go.Proofs.Tryz.prog 203 (.func #[132, 132] #[174] false) := ⟨Go.Proofs.Tryz.underlying203⟩
instance : TI Go.Proofs.Tryz.prog 203 (.nilFunc) 1 8 := ⟨by kernel_rfl⟩
instance : UL Go.Proofs.Tryz.prog 204 (.pointer 5) := ⟨Go.Proofs.Tryz.underlying204⟩
instance : TI Go.Proofs.Tryz.prog 204 (.pointer none) 1 8 := ⟨by kernel_rfl⟩
instance : UL Go.Proofs.Tryz.prog 205 (.array 32 5) := ⟨Go.Proofs.Tryz.underlying205⟩
instance : TI Go.Proofs.Tryz.prog 205 (.agg #[.int .u8 0, .int .u8 0, .int .u8 0, .int .u8 0, .int .u8 0, .int .u8 0, .int .u8 0, .int .u8 0, .int .u8 0, .int .u8 0, .int .u8 0, .int .u8 0, .int .u8 0, .int .u8 0, .int .u8 0, .int .u8 0, .int .u8 0, .int .u8 0, .int .u8 0, .int .u8 0, .int .u8 0, .int .u8 0, .int .u8 0, .int .u8 0, .int .u8 0, .int .u8 0, .int .u8 0, .int .u8 0, .int .u8 0, .int .u8 0, .int .u8 0, .int .u8 0]) 32 32 := ⟨by kernel_rfl⟩
instance : UL Go.Proofs.Tryz.prog 206 (.array 64 5) := ⟨Go.Proofs.Tryz.underlying206⟩
instance : TI Go.Proofs.Tryz.prog 206 (.agg #[.int .u8 0, .int .u8 0, .int .u8 0, .int .u8 0, .int .u8 0, .int .u8 0, .int .u8 0, .int .u8 0, .int .u8 0, .int .u8 0, .int .u8 0, .int .u8 0, .int .u8 0, .int .u8 0, .int .u8 0, .int .u8 0, .int .u8 0, .int .u8 0, .int .u8 0, .int .u8 0, .int .u8 0, .int .u8 0, .int .u8 0, .int .u8 0, .int .u8 0, .int .u8 0, .int .u8 0, .int .u8 0, .int .u8 0, .int .u8 0, .int .u8 0, .int .u8 0, .int .u8 0, .int .u8 0, .int .u8 0, .int .u8 0, .int .u8 0, .int .u8 0, .int .u8 0, .int .u8 0, .int .u8 0, .int .u8 0, .int .u8 0, .int .u8 0, .int .u8 0, .int .u8 0, .int .u8 0, .int .u8 0, .int .u8 0, .int .u8 0, .int .u8 0, .int .u8 0, .int .u8 0, .int .u8 0, .int .u8 0, .int .u8 0, .int .u8 0, .int .u8 0, .int .u8 0, .int .u8 0, .int .u8 0, .int .u8 0, .int .u8 0, .int .u8 0]) 64 64 := ⟨by kernel_rfl⟩
instance : UL Go.Proofs.Tryz.prog 207 (.func #[9, 9] #[4] false) := ⟨Go.Proofs.Tryz.underlying207⟩
instance : TI Go.Proofs.Tryz.prog 207 (.nilFunc) 1 8 := ⟨by kernel_rfl⟩
instance : UL Go.Proofs.Tryz.prog 208 (.unsafePointer) := ⟨Go.Proofs.Tryz.underlying208⟩
instance : TI Go.Proofs.Tryz.prog 208 (.pointer none) 1 8 := ⟨by kernel_rfl⟩
instance : UL Go.Proofs.Tryz.prog 209 (.func #[208] #[208] false) := ⟨Go.Proofs.Tryz.underlying209⟩
instance : TI Go.Proofs.Tryz.prog 209 (.nilFunc) 1 8 := ⟨by kernel_rfl⟩
instance : UL Go.Proofs.Tryz.prog 210 (.struct #[{ name := "_interface", type := 17, offset := 0, embedded := false, tag := "", pkgPath := "runtime", byteOffset := 0 }, { name := "concrete", type := 17, offset := 1, embedded := false, tag := "", pkgPath := "runtime", byteOffset := 8 }, { name := "asserted", type := 17, offset := 2, embedded := false, tag := "", pkgPath := "runtime", byteOffset := 16 }, { name := "missingMethod", type := 9, offset := 3, embedded := false, tag := "", pkgPath := "runtime", byteOffset := 24 }]) := ⟨Go.Proofs.Tryz.underlying210⟩
instance : TI Go.Proofs.Tryz.prog 210 (.agg #[.pointer none, .pointer none, .pointer none, .string ⟨#[]⟩]) 4 40 := ⟨by kernel_rfl⟩
instance : UL Go.Proofs.Tryz.prog 211 (.struct #[{ name := "_interface", type := 17, offset := 0, embedded := false, tag := "", pkgPath := "runtime", byteOffset := 0 }, { name := "concrete", type := 17, offset := 1, embedded := false, tag := "", pkgPath := "runtime", byteOffset := 8 }, { name := "asserted", type := 17, offset := 2, embedded := false, tag := "", pkgPath := "runtime", byteOffset := 16 }, { name := "missingMethod", type := 9, offset := 3, embedded := false, tag := "", pkgPath := "runtime", byteOffset := 24 }]) := ⟨Go.Proofs.Tryz.underlying211⟩
instance : TI Go.Proofs.Tryz.prog 211 (.agg #[.pointer none, .pointer none, .pointer none, .string ⟨#[]⟩]) 4 40 := ⟨by kernel_rfl⟩
instance : UL Go.Proofs.Tryz.prog 212 (.array 0 16) := ⟨Go.Proofs.Tryz.underlying212⟩
instance : TI Go.Proofs.Tryz.prog 212 (.agg #[]) 0 0 := ⟨by kernel_rfl⟩
instance : UL Go.Proofs.Tryz.prog 213 (.struct #[{ name := "_", type := 212, offset := 0, embedded := false, tag := "", pkgPath := "runtime", byteOffset := 0 }]) := ⟨Go.Proofs.Tryz.underlying213⟩
instance : TI Go.Proofs.Tryz.prog 213 (.agg #[]) 0 0 := ⟨by kernel_rfl⟩
instance : UL Go.Proofs.Tryz.prog 214 (.struct #[{ name := "_", type := 212, offset := 0, embedded := false, tag := "", pkgPath := "runtime", byteOffset := 0 }]) := ⟨Go.Proofs.Tryz.underlying214⟩
instance : TI Go.Proofs.Tryz.prog 214 (.agg #[]) 0 0 := ⟨by kernel_rfl⟩
instance : UL Go.Proofs.Tryz.prog 215 (.int .u8) := ⟨Go.Proofs.Tryz.underlying215⟩
instance : TI Go.Proofs.Tryz.prog 215 (.int .u8 0) 1 1 := ⟨by kernel_rfl⟩
instance : UL Go.Proofs.Tryz.prog 216 (.int .u8) := ⟨Go.Proofs.Tryz.underlying216⟩
instance : TI Go.Proofs.Tryz.prog 216 (.int .u8 0) 1 1 := ⟨by kernel_rfl⟩
instance : UL Go.Proofs.Tryz.prog 217 (.func #[208, 208] #[4] false) := ⟨Go.Proofs.Tryz.underlying217⟩
instance : TI Go.Proofs.Tryz.prog 217 (.nilFunc) 1 8 := ⟨by kernel_rfl⟩
instance : UL Go.Proofs.Tryz.prog 218 (.int .i32) := ⟨Go.Proofs.Tryz.underlying218⟩
instance : TI Go.Proofs.Tryz.prog 218 (.int .i32 0) 1 4 := ⟨by kernel_rfl⟩
instance : UL Go.Proofs.Tryz.prog 219 (.int .i32) := ⟨Go.Proofs.Tryz.underlying219⟩
instance : TI Go.Proofs.Tryz.prog 219 (.int .i32 0) 1 4 := ⟨by kernel_rfl⟩
instance : UL Go.Proofs.Tryz.prog 220 (.struct #[{ name := "Size_", type := 12, offset := 0, embedded := false, tag := "", pkgPath := "", byteOffset := 0 }, { name := "PtrBytes", type := 12, offset := 1, embedded := false, tag := "", pkgPath := "", byteOffset := 8 }, { name := "Hash", type := 174, offset := 2, embedded := false, tag := "", pkgPath := "", byteOffset := 16 }, { name := "TFlag", type := 215, offset := 3, embedded := false, tag := "", pkgPath := "", byteOffset := 20 }, { name := "Align_", type := 5, offset := 4, embedded := false, tag := "", pkgPath := "", byteOffset := 21 }, { name := "FieldAlign_", type := 5, offset := 5, embedded := false, tag := "", pkgPath := "", byteOffset := 22 }, { name := "Kind_", type := 216, offset := 6, embedded := false, tag := "", pkgPath := "", byteOffset := 23 }, { name := "Equal", type := 217, offset := 7, embedded := false, tag := "", pkgPath := "", byteOffset := 24 }, { name := "GCData", type := 204, offset := 8, embedded := false, tag := "", pkgPath := "", byteOffset := 32 }, { name := "Str", type := 218, offset := 9, embedded := false, tag := "", pkgPath := "", byteOffset := 40 }, { name := "PtrToThis", type := 219, offset := 10, embedded := false, tag := "", pkgPath := "", byteOffset := 44 }]) := ⟨Go.Proofs.Tryz.underlying220⟩
instance : TI Go.Proofs.Tryz.prog 220 (.agg #[.int .u64 0, .int .u64 0, .int .u32 0, .int .u8 0, .int .u8 0, .int .u8 0, .int .u8 0, .nilFunc, .pointer none, .int .i32 0, .int .i32 0]) 11 48 := ⟨by kernel_rfl⟩
instance : UL Go.Proofs.Tryz.prog 221 (.struct #[{ name := "Size_", type := 12, offset := 0, embedded := false, tag := "", pkgPath := "", byteOffset := 0 }, { name := "PtrBytes", type := 12, offset := 1, embedded := false, tag := "", pkgPath := "", byteOffset := 8 }, { name := "Hash", type := 174, offset := 2, embedded := false, tag := "", pkgPath := "", byteOffset := 16 }, { name := "TFlag", type := 215, offset := 3, embedded := false, tag := "", pkgPath := "", byteOffset := 20 }, { name := "Align_", type := 5, offset := 4, embedded := false, tag := "", pkgPath := "", byteOffset := 21 }, { name := "FieldAlign_", type := 5, offset := 5, embedded := false, tag := "", pkgPath := "", byteOffset := 22 }, { name := "Kind_", type := 216, offset := 6, embedded := false, tag := "", pkgPath := "", byteOffset := 23 }, { name := "Equal", type := 217, offset := 7, embedded := false, tag := "", pkgPath := "", byteOffset := 24 }, { name := "GCData", type := 204, offset := 8, embedded := false, tag := "", pkgPath := "", byteOffset := 32 }, { name := "Str", type := 218, offset := 9, embedded := false, tag := "", pkgPath := "", byteOffset := 40 }, { name := "PtrToThis", type := 219, offset := 10, embedded := false, tag := "", pkgPath := "", byteOffset := 44 }]) := ⟨Go.Proofs.Tryz.underlying221⟩
instance : TI Go.Proofs.Tryz.prog 221 (.agg #[.int .u64 0, .int .u64 0, .int .u32 0, .int .u8 0, .int .u8 0, .int .u8 0, .int .u8 0, .nilFunc, .pointer none, .int .i32 0, .int .i32 0]) 11 48 := ⟨by kernel_rfl⟩
instance : UL Go.Proofs.Tryz.prog 222 (.func #[] #[224] false) := ⟨Go.Proofs.Tryz.underlying222⟩
instance : TI Go.Proofs.Tryz.prog 222 (.nilFunc) 1 8 := ⟨by kernel_rfl⟩
instance : UL Go.Proofs.Tryz.prog 223 (.func #[225] #[] false) := ⟨Go.Proofs.Tryz.underlying223⟩
instance : TI Go.Proofs.Tryz.prog 223 (.nilFunc) 1 8 := ⟨by kernel_rfl⟩
instance : UL Go.Proofs.Tryz.prog 224 (.func #[225] #[] false) := ⟨Go.Proofs.Tryz.underlying224⟩
instance : TI Go.Proofs.Tryz.prog 224 (.nilFunc) 1 8 := ⟨by kernel_rfl⟩
instance : UL Go.Proofs.Tryz.prog 225 (.func #[22] #[4] false) := ⟨Go.Proofs.Tryz.underlying225⟩
instance : TI Go.Proofs.Tryz.prog 225 (.nilFunc) 1 8 := ⟨by kernel_rfl⟩
instance : FO Go.Proofs.Tryz.prog 7 0 0 1 := ⟨_, _, Go.Proofs.Tryz.underlying7, rfl, rfl, (by obtain ⟨i, h1, _, h2, _⟩ := (inferInstance : TI Go.Proofs.Tryz.prog 2 _ _ _).info; exact ⟨i, h1, h2⟩), by decide⟩
instance : FO Go.Proofs.Tryz.prog 7 1 1 1 := ⟨_, _, Go.Proofs.Tryz.underlying7, rfl, rfl, (by obtain ⟨i, h1, _, h2, _⟩ := (inferInstance : TI Go.Proofs.Tryz.prog 3 _ _ _).info; exact ⟨i, h1, h2⟩), by decide⟩
instance : FO Go.Proofs.Tryz.prog 7 2 2 1 := ⟨_, _, Go.Proofs.Tryz.underlying7, rfl, rfl, (by obtain ⟨i, h1, _, h2, _⟩ := (inferInstance : TI Go.Proofs.Tryz.prog 4 _ _ _).info; exact ⟨i, h1, h2⟩), by decide⟩
instance : FO Go.Proofs.Tryz.prog 7 3 3 1 := ⟨_, _, Go.Proofs.Tryz.underlying7, rfl, rfl, (by obtain ⟨i, h1, _, h2, _⟩ := (inferInstance : TI Go.Proofs.Tryz.prog 6 _ _ _).info; exact ⟨i, h1, h2⟩), by decide⟩
instance : FO Go.Proofs.Tryz.prog 8 0 0 1 := ⟨_, _, Go.Proofs.Tryz.underlying8, rfl, rfl, (by obtain ⟨i, h1, _, h2, _⟩ := (inferInstance : TI Go.Proofs.Tryz.prog 2 _ _ _).info; exact ⟨i, h1, h2⟩), by decide⟩
instance : FO Go.Proofs.Tryz.prog 8 1 1 1 := ⟨_, _, Go.Proofs.Tryz.underlying8, rfl, rfl, (by obtain ⟨i, h1, _, h2, _⟩ := (inferInstance : TI Go.Proofs.Tryz.prog 3 _ _ _).info; exact ⟨i, h1, h2⟩), by decide⟩
instance : FO Go.Proofs.Tryz.prog 8 2 2 1 := ⟨_, _, Go.Proofs.Tryz.underlying8, rfl, rfl, (by obtain ⟨i, h1, _, h2, _⟩ := (inferInstance : TI Go.Proofs.Tryz.prog 4 _ _ _).info; exact ⟨i, h1, h2⟩), by decide⟩
instance : FO Go.Proofs.Tryz.prog 8 3 3 1 := ⟨_, _, Go.Proofs.Tryz.underlying8, rfl, rfl, (by obtain ⟨i, h1, _, h2, _⟩ := (inferInstance : TI Go.Proofs.Tryz.prog 6 _ _ _).info; exact ⟨i, h1, h2⟩), by decide⟩
instance : FO Go.Proofs.Tryz.prog 13 0 0 1 := ⟨_, _, Go.Proofs.Tryz.underlying13, rfl, rfl, (by obtain ⟨i, h1, _, h2, _⟩ := (inferInstance : TI Go.Proofs.Tryz.prog 9 _ _ _).info; exact ⟨i, h1, h2⟩), by decide⟩
instance : FO Go.Proofs.Tryz.prog 13 1 1 1 := ⟨_, _, Go.Proofs.Tryz.underlying13, rfl, rfl, (by obtain ⟨i, h1, _, h2, _⟩ := (inferInstance : TI Go.Proofs.Tryz.prog 12 _ _ _).info; exact ⟨i, h1, h2⟩), by decide⟩
instance : FO Go.Proofs.Tryz.prog 14 0 0 1 := ⟨_, _, Go.Proofs.Tryz.underlying14, rfl, rfl, (by obtain ⟨i, h1, _, h2, _⟩ := (inferInstance : TI Go.Proofs.Tryz.prog 9 _ _ _).info; exact ⟨i, h1, h2⟩), by decide⟩
instance : FO Go.Proofs.Tryz.prog 14 1 1 1 := ⟨_, _, Go.Proofs.Tryz.underlying14, rfl, rfl, (by obtain ⟨i, h1, _, h2, _⟩ := (inferInstance : TI Go.Proofs.Tryz.prog 12 _ _ _).info; exact ⟨i, h1, h2⟩), by decide⟩
instance : FO Go.Proofs.Tryz.prog 18 0 0 1 := ⟨_, _, Go.Proofs.Tryz.underlying18, rfl, rfl, (by obtain ⟨i, h1, _, h2, _⟩ := (inferInstance : TI Go.Proofs.Tryz.prog 17 _ _ _).info; exact ⟨i, h1, h2⟩), by decide⟩
instance : FO Go.Proofs.Tryz.prog 19 0 0 1 := ⟨_, _, Go.Proofs.Tryz.underlying19, rfl, rfl, (by obtain ⟨i, h1, _, h2, _⟩ := (inferInstance : TI Go.Proofs.Tryz.prog 17 _ _ _).info; exact ⟨i, h1, h2⟩), by decide⟩
instance : FO Go.Proofs.Tryz.prog 35 0 0 1 := ⟨_, _, Go.Proofs.Tryz.underlying35, rfl, rfl, (by obtain ⟨i, h1, _, h2, _⟩ := (inferInstance : TI Go.Proofs.Tryz.prog 31 _ _ _).info; exact ⟨i, h1, h2⟩), by decide⟩
instance : FO Go.Proofs.Tryz.prog 35 1 1 1 := ⟨_, _, Go.Proofs.Tryz.underlying35, rfl, rfl, (by obtain ⟨i, h1, _, h2, _⟩ := (inferInstance : TI Go.Proofs.Tryz.prog 31 _ _ _).info; exact ⟨i, h1, h2⟩), by decide⟩
instance : FO Go.Proofs.Tryz.prog 36 0 0 1 := ⟨_, _, Go.Proofs.Tryz.underlying36, rfl, rfl, (by obtain ⟨i, h1, _, h2, _⟩ := (inferInstance : TI Go.Proofs.Tryz.prog 31 _ _ _).info; exact ⟨i, h1, h2⟩), by decide⟩
instance : FO Go.Proofs.Tryz.prog 36 1 1 1 := ⟨_, _, Go.Proofs.Tryz.underlying36, rfl, rfl, (by obtain ⟨i, h1, _, h2, _⟩ := (inferInstance : TI Go.Proofs.Tryz.prog 31 _ _ _).info; exact ⟨i, h1, h2⟩), by decide⟩
instance : FO Go.Proofs.Tryz.prog 39 0 0 1 := ⟨_, _, Go.Proofs.Tryz.underlying39, rfl, rfl, (by obtain ⟨i, h1, _, h2, _⟩ := (inferInstance : TI Go.Proofs.Tryz.prog 5 _ _ _).info; exact ⟨i, h1, h2⟩), by decide⟩
instance : FO Go.Proofs.Tryz.prog 39 1 1 1 := ⟨_, _, Go.Proofs.Tryz.underlying39, rfl, rfl, (by obtain ⟨i, h1, _, h2, _⟩ := (inferInstance : TI Go.Proofs.Tryz.prog 5 _ _ _).info; exact ⟨i, h1, h2⟩), by decide⟩
instance : FO Go.Proofs.Tryz.prog 39 2 2 3 := ⟨_, _, Go.Proofs.Tryz.underlying39, rfl, rfl, (by obtain ⟨i, h1, _, h2, _⟩ := (inferInstance : TI Go.Proofs.Tryz.prog 24 _ _ _).info; exact ⟨i, h1, h2⟩), by decide⟩
instance : FO Go.Proofs.Tryz.prog 39 3 5 3 := ⟨_, _, Go.Proofs.Tryz.underlying39, rfl, rfl, (by obtain ⟨i, h1, _, h2, _⟩ := (inferInstance : TI Go.Proofs.Tryz.prog 25 _ _ _).info; exact ⟨i, h1, h2⟩), by decide⟩
instance : FO Go.Proofs.Tryz.prog 40 0 0 1 := ⟨_, _, Go.Proofs.Tryz.underlying40, rfl, rfl, (by obtain ⟨i, h1, _, h2, _⟩ := (inferInstance : TI Go.Proofs.Tryz.prog 5 _ _ _).info; exact ⟨i, h1, h2⟩), by decide⟩
instance : FO Go.Proofs.Tryz.prog 40 1 1 1 := ⟨_, _, Go.Proofs.Tryz.underlying40, rfl, rfl, (by obtain ⟨i, h1, _, h2, _⟩ := (inferInstance : TI Go.Proofs.Tryz.prog 5 _ _ _).info; exact ⟨i, h1, h2⟩), by decide⟩
instance : FO Go.Proofs.Tryz.prog 40 2 2 3 := ⟨_, _, Go.Proofs.Tryz.underlying40, rfl, rfl, (by obtain ⟨i, h1, _, h2, _⟩ := (inferInstance : TI Go.Proofs.Tryz.prog 24 _ _ _).info; exact ⟨i, h1, h2⟩), by decide⟩
instance : FO Go.Proofs.Tryz.prog 40 3 5 3 := ⟨_, _, Go.Proofs.Tryz.underlying40, rfl, rfl, (by obtain ⟨i, h1, _, h2, _⟩ := (inferInstance : TI Go.Proofs.Tryz.prog 25 _ _ _).info; exact ⟨i, h1, h2⟩), by decide⟩
instance : FO Go.Proofs.Tryz.prog 43 0 0 1 := ⟨_, _, Go.Proofs.Tryz.underlying43, rfl, rfl, (by obtain ⟨i, h1, _, h2, _⟩ := (inferInstance : TI Go.Proofs.Tryz.prog 41 _ _ _).info; exact ⟨i, h1, h2⟩), by decide⟩
instance : FO Go.Proofs.Tryz.prog 43 1 1 1 := ⟨_, _, Go.Proofs.Tryz.underlying43, rfl, rfl, (by obtain ⟨i, h1, _, h2, _⟩ := (inferInstance : TI Go.Proofs.Tryz.prog 5 _ _ _).info; exact ⟨i, h1, h2⟩), by decide⟩
instance : FO Go.Proofs.Tryz.prog 43 2 2 1 := ⟨_, _, Go.Proofs.Tryz.underlying43, rfl, rfl, (by obtain ⟨i, h1, _, h2, _⟩ := (inferInstance : TI Go.Proofs.Tryz.prog 42 _ _ _).info; exact ⟨i, h1, h2⟩), by decide⟩
instance : FO Go.Proofs.Tryz.prog 43 3 3 1 := ⟨_, _, Go.Proofs.Tryz.underlying43, rfl, rfl, (by obtain ⟨i, h1, _, h2, _⟩ := (inferInstance : TI Go.Proofs.Tryz.prog 4 _ _ _).info; exact ⟨i, h1, h2⟩), by decide⟩
instance : FO Go.Proofs.Tryz.prog 44 0 0 1 := ⟨_, _, Go.Proofs.Tryz.underlying44, rfl, rfl, (by obtain ⟨i, h1, _, h2, _⟩ := (inferInstance : TI Go.Proofs.Tryz.prog 41 _ _ _).info; exact ⟨i, h1, h2⟩), by decide⟩
instance : FO Go.Proofs.Tryz.prog 44 1 1 1 := ⟨_, _, Go.Proofs.Tryz.underlying44, rfl, rfl, (by obtain ⟨i, h1, _, h2, _⟩ := (inferInstance : TI Go.Proofs.Tryz.prog 5 _ _ _).info; exact ⟨i, h1, h2⟩), by decide⟩
instance : FO Go.Proofs.Tryz.prog 44 2 2 1 := ⟨_, _, Go.Proofs.Tryz.underlying44, rfl, rfl, (by obtain ⟨i, h1, _, h2, _⟩ := (inferInstance : TI Go.Proofs.Tryz.prog 42 _ _ _).info; exact ⟨i, h1, h2⟩), by decide⟩
instance : FO Go.Proofs.Tryz.prog 44 3 3 1 := ⟨_, _, Go.Proofs.Tryz.underlying44, rfl, rfl, (by obtain ⟨i, h1, _, h2, _⟩ := (inferInstance : TI Go.Proofs.Tryz.prog 4 _ _ _).info; exact ⟨i, h1, h2⟩), by decide⟩
instance : FO Go.Proofs.Tryz.prog 45 0 0 1 := ⟨_, _, Go.Proofs.Tryz.underlying45, rfl, rfl, (by obtain ⟨i, h1, _, h2, _⟩ := (inferInstance : TI Go.Proofs.Tryz.prog 22 _ _ _).info; exact ⟨i, h1, h2⟩), by decide⟩
instance : FO Go.Proofs.Tryz.prog 45 1 1 1 := ⟨_, _, Go.Proofs.Tryz.underlying45, rfl, rfl, (by obtain ⟨i, h1, _, h2, _⟩ := (inferInstance : TI Go.Proofs.Tryz.prog 3 _ _ _).info; exact ⟨i, h1, h2⟩), by decide⟩
instance : FO Go.Proofs.Tryz.prog 45 2 2 1 := ⟨_, _, Go.Proofs.Tryz.underlying45, rfl, rfl, (by obtain ⟨i, h1, _, h2, _⟩ := (inferInstance : TI Go.Proofs.Tryz.prog 22 _ _ _).info; exact ⟨i, h1, h2⟩), by decide⟩
instance : FO Go.Proofs.Tryz.prog 46 0 0 1 := ⟨_, _, Go.Proofs.Tryz.underlying46, rfl, rfl, (by obtain ⟨i, h1, _, h2, _⟩ := (inferInstance : TI Go.Proofs.Tryz.prog 22 _ _ _).info; exact ⟨i, h1, h2⟩), by decide⟩
instance : FO Go.Proofs.Tryz.prog 46 1 1 1 := ⟨_, _, Go.Proofs.Tryz.underlying46, rfl, rfl, (by obtain ⟨i, h1, _, h2, _⟩ := (inferInstance : TI Go.Proofs.Tryz.prog 3 _ _ _).info; exact ⟨i, h1, h2⟩), by decide⟩
instance : FO Go.Proofs.Tryz.prog 46 2 2 1 := ⟨_, _, Go.Proofs.Tryz.underlying46, rfl, rfl, (by obtain ⟨i, h1, _, h2, _⟩ := (inferInstance : TI Go.Proofs.Tryz.prog 22 _ _ _).info; exact ⟨i, h1, h2⟩), by decide⟩
instance : FO Go.Proofs.Tryz.prog 107 0 0 1 := ⟨_, _, Go.Proofs.Tryz.underlying107, rfl, rfl, (by obtain ⟨i, h1, _, h2, _⟩ := (inferInstance : TI Go.Proofs.Tryz.prog 4 _ _ _).info; exact ⟨i, h1, h2⟩), by decide⟩
instance : FO Go.Proofs.Tryz.prog 107 1 1 1 := ⟨_, _, Go.Proofs.Tryz.underlying107, rfl, rfl, (by obtain ⟨i, h1, _, h2, _⟩ := (inferInstance : TI Go.Proofs.Tryz.prog 22 _ _ _).info; exact ⟨i, h1, h2⟩), by decide⟩
instance : FO Go.Proofs.Tryz.prog 108 0 0 1 := ⟨_, _, Go.Proofs.Tryz.underlying108, rfl, rfl, (by obtain ⟨i, h1, _, h2, _⟩ := (inferInstance : TI Go.Proofs.Tryz.prog 4 _ _ _).info; exact ⟨i, h1, h2⟩), by decide⟩
instance : FO Go.Proofs.Tryz.prog 108 1 1 1 := ⟨_, _, Go.Proofs.Tryz.underlying108, rfl, rfl, (by obtain ⟨i, h1, _, h2, _⟩ := (inferInstance : TI Go.Proofs.Tryz.prog 22 _ _ _).info; exact ⟨i, h1, h2⟩), by decide⟩
instance : FO Go.Proofs.Tryz.prog 113 0 0 3 := ⟨_, _, Go.Proofs.Tryz.underlying113, rfl, rfl, (by obtain ⟨i, h1, _, h2, _⟩ := (inferInstance : TI Go.Proofs.Tryz.prog 46 _ _ _).info; exact ⟨i, h1, h2⟩), by decide⟩
instance : FO Go.Proofs.Tryz.prog 114 0 0 3 := ⟨_, _, Go.Proofs.Tryz.underlying114, rfl, rfl, (by obtain ⟨i, h1, _, h2, _⟩ := (inferInstance : TI Go.Proofs.Tryz.prog 46 _ _ _).info; exact ⟨i, h1, h2⟩), by decide⟩
instance : FO Go.Proofs.Tryz.prog 122 0 0 2 := ⟨_, _, Go.Proofs.Tryz.underlying122, rfl, rfl, (by obtain ⟨i, h1, _, h2, _⟩ := (inferInstance : TI Go.Proofs.Tryz.prog 36 _ _ _).info; exact ⟨i, h1, h2⟩), by decide⟩
instance : FO Go.Proofs.Tryz.prog 122 1 2 1 := ⟨_, _, Go.Proofs.Tryz.underlying122, rfl, rfl, (by obtain ⟨i, h1, _, h2, _⟩ := (inferInstance : TI Go.Proofs.Tryz.prog 121 _ _ _).info; exact ⟨i, h1, h2⟩), by decide⟩
instance : FO Go.Proofs.Tryz.prog 123 0 0 2 := ⟨_, _, Go.Proofs.Tryz.underlying123, rfl, rfl, (by obtain ⟨i, h1, _, h2, _⟩ := (inferInstance : TI Go.Proofs.Tryz.prog 36 _ _ _).info; exact ⟨i, h1, h2⟩), by decide⟩
instance : FO Go.Proofs.Tryz.prog 123 1 2 1 := ⟨_, _, Go.Proofs.Tryz.underlying123, rfl, rfl, (by obtain ⟨i, h1, _, h2, _⟩ := (inferInstance : TI Go.Proofs.Tryz.prog 121 _ _ _).info; exact ⟨i, h1, h2⟩), by decide⟩
instance : FO Go.Proofs.Tryz.prog 133 0 0 1 := ⟨_, _, Go.Proofs.Tryz.underlying133, rfl, rfl, (by obtain ⟨i, h1, _, h2, _⟩ := (inferInstance : TI Go.Proofs.Tryz.prog 132 _ _ _).info; exact ⟨i, h1, h2⟩), by decide⟩
instance : FO Go.Proofs.Tryz.prog 133 1 1 1 := ⟨_, _, Go.Proofs.Tryz.underlying133, rfl, rfl, (by obtain ⟨i, h1, _, h2, _⟩ := (inferInstance : TI Go.Proofs.Tryz.prog 4 _ _ _).info; exact ⟨i, h1, h2⟩), by decide⟩
instance : FO Go.Proofs.Tryz.prog 134 0 0 1 := ⟨_, _, Go.Proofs.Tryz.underlying134, rfl, rfl, (by obtain ⟨i, h1, _, h2, _⟩ := (inferInstance : TI Go.Proofs.Tryz.prog 132 _ _ _).info; exact ⟨i, h1, h2⟩), by decide⟩
instance : FO Go.Proofs.Tryz.prog 134 1 1 1 := ⟨_, _, Go.Proofs.Tryz.underlying134, rfl, rfl, (by obtain ⟨i, h1, _, h2, _⟩ := (inferInstance : TI Go.Proofs.Tryz.prog 4 _ _ _).info; exact ⟨i, h1, h2⟩), by decide⟩
instance : FO Go.Proofs.Tryz.prog 139 0 0 1 := ⟨_, _, Go.Proofs.Tryz.underlying139, rfl, rfl, (by obtain ⟨i, h1, _, h2, _⟩ := (inferInstance : TI Go.Proofs.Tryz.prog 137 _ _ _).info; exact ⟨i, h1, h2⟩), by decide⟩
instance : FO Go.Proofs.Tryz.prog 140 0 0 1 := ⟨_, _, Go.Proofs.Tryz.underlying140, rfl, rfl, (by obtain ⟨i, h1, _, h2, _⟩ := (inferInstance : TI Go.Proofs.Tryz.prog 137 _ _ _).info; exact ⟨i, h1, h2⟩), by decide⟩
instance : FO Go.Proofs.Tryz.prog 191 0 0 1 := ⟨_, _, Go.Proofs.Tryz.underlying191, rfl, rfl, (by obtain ⟨i, h1, _, h2, _⟩ := (inferInstance : TI Go.Proofs.Tryz.prog 190 _ _ _).info; exact ⟨i, h1, h2⟩), by decide⟩
instance : FO Go.Proofs.Tryz.prog 191 1 1 1 := ⟨_, _, Go.Proofs.Tryz.underlying191, rfl, rfl, (by obtain ⟨i, h1, _, h2, _⟩ := (inferInstance : TI Go.Proofs.Tryz.prog 41 _ _ _).info; exact ⟨i, h1, h2⟩), by decide⟩
instance : FO Go.Proofs.Tryz.prog 192 0 0 1 := ⟨_, _, Go.Proofs.Tryz.underlying192, rfl, rfl, (by obtain ⟨i, h1, _, h2, _⟩ := (inferInstance : TI Go.Proofs.Tryz.prog 190 _ _ _).info; exact ⟨i, h1, h2⟩), by decide⟩
instance : FO Go.Proofs.Tryz.prog 192 1 1 1 := ⟨_, _, Go.Proofs.Tryz.underlying192, rfl, rfl, (by obtain ⟨i, h1, _, h2, _⟩ := (inferInstance : TI Go.Proofs.Tryz.prog 41 _ _ _).info; exact ⟨i, h1, h2⟩), by decide⟩
instance : FO Go.Proofs.Tryz.prog 210 0 0 1 := ⟨_, _, Go.Proofs.Tryz.underlying210, rfl, rfl, (by obtain ⟨i, h1, _, h2, _⟩ := (inferInstance : TI Go.Proofs.Tryz.prog 17 _ _ _).info; exact ⟨i, h1, h2⟩), by decide⟩
instance : FO Go.Proofs.Tryz.prog 210 1 1 1 := ⟨_, _, Go.Proofs.Tryz.underlying210, rfl, rfl, (by obtain ⟨i, h1, _, h2, _⟩ := (inferInstance : TI Go.Proofs.Tryz.prog 17 _ _ _).info; exact ⟨i, h1, h2⟩), by decide⟩
instance : FO Go.Proofs.Tryz.prog 210 2 2 1 := ⟨_, _, Go.Proofs.Tryz.underlying210, rfl, rfl, (by obtain ⟨i, h1, _, h2, _⟩ := (inferInstance : TI Go.Proofs.Tryz.prog 17 _ _ _).info; exact ⟨i, h1, h2⟩), by decide⟩
instance : FO Go.Proofs.Tryz.prog 210 3 3 1 := ⟨_, _, Go.Proofs.Tryz.underlying210, rfl, rfl, (by obtain ⟨i, h1, _, h2, _⟩ := (inferInstance : TI Go.Proofs.Tryz.prog 9 _ _ _).info; exact ⟨i, h1, h2⟩), by decide⟩
instance : FO Go.Proofs.Tryz.prog 211 0 0 1 := ⟨_, _, Go.Proofs.Tryz.underlying211, rfl, rfl, (by obtain ⟨i, h1, _, h2, _⟩ := (inferInstance : TI Go.Proofs.Tryz.prog 17 _ _ _).info; exact ⟨i, h1, h2⟩), by decide⟩
instance : FO Go.Proofs.Tryz.prog 211 1 1 1 := ⟨_, _, Go.Proofs.Tryz.underlying211, rfl, rfl, (by obtain ⟨i, h1, _, h2, _⟩ := (inferInstance : TI Go.Proofs.Tryz.prog 17 _ _ _).info; exact ⟨i, h1, h2⟩), by decide⟩
instance : FO Go.Proofs.Tryz.prog 211 2 2 1 := ⟨_, _, Go.Proofs.Tryz.underlying211, rfl, rfl, (by obtain ⟨i, h1, _, h2, _⟩ := (inferInstance : TI Go.Proofs.Tryz.prog 17 _ _ _).info; exact ⟨i, h1, h2⟩), by decide⟩
instance : FO Go.Proofs.Tryz.prog 211 3 3 1 := ⟨_, _, Go.Proofs.Tryz.underlying211, rfl, rfl, (by obtain ⟨i, h1, _, h2, _⟩ := (inferInstance : TI Go.Proofs.Tryz.prog 9 _ _ _).info; exact ⟨i, h1, h2⟩), by decide⟩
instance : FO Go.Proofs.Tryz.prog 220 0 0 1 := ⟨_, _, Go.Proofs.Tryz.underlying220, rfl, rfl, (by obtain ⟨i, h1, _, h2, _⟩ := (inferInstance : TI Go.Proofs.Tryz.prog 12 _ _ _).info; exact ⟨i, h1, h2⟩), by decide⟩
instance : FO Go.Proofs.Tryz.prog 220 1 1 1 := ⟨_, _, Go.Proofs.Tryz.underlying220, rfl, rfl, (by obtain ⟨i, h1, _, h2, _⟩ := (inferInstance : TI Go.Proofs.Tryz.prog 12 _ _ _).info; exact ⟨i, h1, h2⟩), by decide⟩
instance : FO Go.Proofs.Tryz.prog 220 2 2 1 := ⟨_, _, Go.Proofs.Tryz.underlying220, rfl, rfl, (by obtain ⟨i, h1, _, h2, _⟩ := (inferInstance : TI Go.Proofs.Tryz.prog 174 _ _ _).info; exact ⟨i, h1, h2⟩), by decide⟩
instance : FO Go.Proofs.Tryz.prog 220 3 3 1 := ⟨_, _, Go.Proofs.Tryz.underlying220, rfl, rfl, (by obtain ⟨i, h1, _, h2, _⟩ := (inferInstance : TI Go.Proofs.Tryz.prog 215 _ _ _).info; exact ⟨i, h1, h2⟩), by decide⟩
instance : FO Go.Proofs.Tryz.prog 220 4 4 1 := ⟨_, _, Go.Proofs.Tryz.underlying220, rfl, rfl, (by obtain ⟨i, h1, _, h2, _⟩ := (inferInstance : TI Go.Proofs.Tryz.prog 5 _ _ _).info; exact ⟨i, h1, h2⟩), by decide⟩
instance : FO Go.Proofs.Tryz.prog 220 5 5 1 := ⟨_, _, Go.Proofs.Tryz.underlying220, rfl, rfl, (by obtain ⟨i, h1, _, h2, _⟩ := (inferInstance : TI Go.Proofs.Tryz.prog 5 _ _ _).info; exact ⟨i, h1, h2⟩), by decide⟩
instance : FO Go.Proofs.Tryz.prog 220 6 6 1 := ⟨_, _, Go.Proofs.Tryz.underlying220, rfl, rfl, (by obtain ⟨i, h1, _, h2, _⟩ := (inferInstance : TI Go.Proofs.Tryz.prog 216 _ _ _).info; exact ⟨i, h1, h2⟩), by decide⟩
instance : FO Go.Proofs.Tryz.prog 220 7 7 1 := ⟨_, _, Go.Proofs.Tryz.underlying220, rfl, rfl, (by obtain ⟨i, h1, _, h2, _⟩ := (inferInstance : TI Go.Proofs.Tryz.prog 217 _ _ _).info; exact ⟨i, h1, h2⟩), by decide⟩
instance : FO Go.Proofs.Tryz.prog 220 8 8 1 := ⟨_, _, Go.Proofs.Tryz.underlying220, rfl, rfl, (by obtain ⟨i, h1, _, h2, _⟩ := (inferInstance : TI Go.Proofs.Tryz.prog 204 _ _ _).info; exact ⟨i, h1, h2⟩), by decide⟩
instance : FO Go.Proofs.Tryz.prog 220 9 9 1 := ⟨_, _, Go.Proofs.Tryz.underlying220, rfl, rfl, (by obtain ⟨i, h1, _, h2, _⟩ := (inferInstance : TI Go.Proofs.Tryz.prog 218 _ _ _).info; exact ⟨i, h1, h2⟩), by decide⟩
instance : FO Go.Proofs.Tryz.prog 220 10 10 1 := ⟨_, _, Go.Proofs.Tryz.underlying220, rfl, rfl, (by obtain ⟨i, h1, _, h2, _⟩ := (inferInstance : TI Go.Proofs.Tryz.prog 219 _ _ _).info; exact ⟨i, h1, h2⟩), by decide⟩
instance : FO Go.Proofs.Tryz.prog 221 0 0 1 := ⟨_, _, Go.Proofs.Tryz.underlying221, rfl, rfl, (by obtain ⟨i, h1, _, h2, _⟩ := (inferInstance : TI Go.Proofs.Tryz.prog 12 _ _ _).info; exact ⟨i, h1, h2⟩), by decide⟩
instance : FO Go.Proofs.Tryz.prog 221 1 1 1 := ⟨_, _, Go.Proofs.Tryz.underlying221, rfl, rfl, (by obtain ⟨i, h1, _, h2, _⟩ := (inferInstance : TI Go.Proofs.Tryz.prog 12 _ _ _).info; exact ⟨i, h1, h2⟩), by decide⟩
instance : FO Go.Proofs.Tryz.prog 221 2 2 1 := ⟨_, _, Go.Proofs.Tryz.underlying221, rfl, rfl, (by obtain ⟨i, h1, _, h2, _⟩ := (inferInstance : TI Go.Proofs.Tryz.prog 174 _ _ _).info; exact ⟨i, h1, h2⟩), by decide⟩
instance : FO Go.Proofs.Tryz.prog 221 3 3 1 := ⟨_, _, Go.Proofs.Tryz.underlying221, rfl, rfl, (by obtain ⟨i, h1, _, h2, _⟩ := (inferInstance : TI Go.Proofs.Tryz.prog 215 _ _ _).info; exact ⟨i, h1, h2⟩), by decide⟩
instance : FO Go.Proofs.Tryz.prog 221 4 4 1 := ⟨_, _, Go.Proofs.Tryz.underlying221, rfl, rfl, (by obtain ⟨i, h1, _, h2, _⟩ := (inferInstance : TI Go.Proofs.Tryz.prog 5 _ _ _).info; exact ⟨i, h1, h2⟩), by decide⟩
instance : FO Go.Proofs.Tryz.prog 221 5 5 1 := ⟨_, _, Go.Proofs.Tryz.underlying221, rfl, rfl, (by obtain ⟨i, h1, _, h2, _⟩ := (inferInstance : TI Go.Proofs.Tryz.prog 5 _ _ _).info; exact ⟨i, h1, h2⟩), by decide⟩
instance : FO Go.Proofs.Tryz.prog 221 6 6 1 := ⟨_, _, Go.Proofs.Tryz.underlying221, rfl, rfl, (by obtain ⟨i, h1, _, h2, _⟩ := (inferInstance : TI Go.Proofs.Tryz.prog 216 _ _ _).info; exact ⟨i, h1, h2⟩), by decide⟩
instance : FO Go.Proofs.Tryz.prog 221 7 7 1 := ⟨_, _, Go.Proofs.Tryz.underlying221, rfl, rfl, (by obtain ⟨i, h1, _, h2, _⟩ := (inferInstance : TI Go.Proofs.Tryz.prog 217 _ _ _).info; exact ⟨i, h1, h2⟩), by decide⟩
instance : FO Go.Proofs.Tryz.prog 221 8 8 1 := ⟨_, _, Go.Proofs.Tryz.underlying221, rfl, rfl, (by obtain ⟨i, h1, _, h2, _⟩ := (inferInstance : TI Go.Proofs.Tryz.prog 204 _ _ _).info; exact ⟨i, h1, h2⟩), by decide⟩
instance : FO Go.Proofs.Tryz.prog 221 9 9 1 := ⟨_, _, Go.Proofs.Tryz.underlying221, rfl, rfl, (by obtain ⟨i, h1, _, h2, _⟩ := (inferInstance : TI Go.Proofs.Tryz.prog 218 _ _ _).info; exact ⟨i, h1, h2⟩), by decide⟩
instance : FO Go.Proofs.Tryz.prog 221 10 10 1 := ⟨_, _, Go.Proofs.Tryz.underlying221, rfl, rfl, (by obtain ⟨i, h1, _, h2, _⟩ := (inferInstance : TI Go.Proofs.Tryz.prog 219 _ _ _).info; exact ⟨i, h1, h2⟩), by decide⟩
instance : Body Go.Proofs.Tryz.prog 3 := Body.mk' Go.Proofs.Tryz.func3 (by kernel_rfl) (by kernel_rfl)
instance : Body Go.Proofs.Tryz.prog 4 := Body.mk' Go.Proofs.Tryz.func4 (by kernel_rfl) (by kernel_rfl)
instance : Body Go.Proofs.Tryz.prog 5 := Body.mk' Go.Proofs.Tryz.func5 (by kernel_rfl) (by kernel_rfl)
instance : Body Go.Proofs.Tryz.prog 6 := Body.mk' Go.Proofs.Tryz.func6 (by kernel_rfl) (by kernel_rfl)
instance : Body Go.Proofs.Tryz.prog 7 := Body.mk' Go.Proofs.Tryz.func7 (by kernel_rfl) (by kernel_rfl)
instance : Body Go.Proofs.Tryz.prog 8 := Body.mk' Go.Proofs.Tryz.func8 (by kernel_rfl) (by kernel_rfl)
instance : Body Go.Proofs.Tryz.prog 9 := Body.mk' Go.Proofs.Tryz.func9 (by kernel_rfl) (by kernel_rfl)
instance : Body Go.Proofs.Tryz.prog 10 := Body.mk' Go.Proofs.Tryz.func10 (by kernel_rfl) (by kernel_rfl)
instance : Body Go.Proofs.Tryz.prog 11 := Body.mk' Go.Proofs.Tryz.func11 (by kernel_rfl) (by kernel_rfl)
instance : Body Go.Proofs.Tryz.prog 12 := Body.mk' Go.Proofs.Tryz.func12 (by kernel_rfl) (by kernel_rfl)
instance : Body Go.Proofs.Tryz.prog 13 := Body.mk' Go.Proofs.Tryz.func13 (by kernel_rfl) (by kernel_rfl)
instance : Body Go.Proofs.Tryz.prog 14 := Body.mk' Go.Proofs.Tryz.func14 (by kernel_rfl) (by kernel_rfl)
instance : Body Go.Proofs.Tryz.prog 15 := Body.mk' Go.Proofs.Tryz.func15 (by kernel_rfl) (by kernel_rfl)
instance : Body Go.Proofs.Tryz.prog 16 := Body.mk' Go.Proofs.Tryz.func16 (by kernel_rfl) (by kernel_rfl)
instance : Body Go.Proofs.Tryz.prog 17 := Body.mk' Go.Proofs.Tryz.func17 (by kernel_rfl) (by kernel_rfl)
instance : Body Go.Proofs.Tryz.prog 18 := Body.mk' Go.Proofs.Tryz.func18 (by kernel_rfl) (by kernel_rfl)
instance : Body Go.Proofs.Tryz.prog 19 := Body.mk' Go.Proofs.Tryz.func19 (by kernel_rfl) (by kernel_rfl)
instance : Body Go.Proofs.Tryz.prog 20 := Body.mk' Go.Proofs.Tryz.func20 (by kernel_rfl) (by kernel_rfl)
instance : Body Go.Proofs.Tryz.prog 21 := Body.mk' Go.Proofs.Tryz.func21 (by kernel_rfl) (by kernel_rfl)
instance : Body Go.Proofs.Tryz.prog 22 := Body.mk' Go.Proofs.Tryz.func22 (by kernel_rfl) (by kernel_rfl)
instance : Body Go.Proofs.Tryz.prog 23 := Body.mk' Go.Proofs.Tryz.func23 (by kernel_rfl) (by kernel_rfl)
instance : Body Go.Proofs.Tryz.prog 24 := Body.mk' Go.Proofs.Tryz.func24 (by kernel_rfl) (by kernel_rfl)
instance : Body Go.Proofs.Tryz.prog 25 := Body.mk' Go.Proofs.Tryz.func25 (by kernel_rfl) (by kernel_rfl)
instance : Body Go.Proofs.Tryz.prog 26 := Body.mk' Go.Proofs.Tryz.func26 (by kernel_rfl) (by kernel_rfl)
instance : Body Go.Proofs.Tryz.prog 27 := Body.mk' Go.Proofs.Tryz.func27 (by kernel_rfl) (by kernel_rfl)
instance : Body Go.Proofs.Tryz.prog 28 := Body.mk' Go.Proofs.Tryz.func28 (by kernel_rfl) (by kernel_rfl)
instance : Body Go.Proofs.Tryz.prog 29 := Body.mk' Go.Proofs.Tryz.func29 (by kernel_rfl) (by kernel_rfl)
instance : Body Go.Proofs.Tryz.prog 30 := Body.mk' Go.Proofs.Tryz.func30 (by kernel_rfl) (by kernel_rfl)
instance : Body Go.Proofs.Tryz.prog 31 := Body.mk' Go.Proofs.Tryz.func31 (by kernel_rfl) (by kernel_rfl)
instance : Body Go.Proofs.Tryz.prog 32 := Body.mk' Go.Proofs.Tryz.func32 (by kernel_rfl) (by kernel_rfl)
instance : Body Go.Proofs.Tryz.prog 33 := Body.mk' Go.Proofs.Tryz.func33 (by kernel_rfl) (by kernel_rfl)
instance : Body Go.Proofs.Tryz.prog 34 := Body.mk' Go.Proofs.Tryz.func34 (by kernel_rfl) (by kernel_rfl)
instance : Body Go.Proofs.Tryz.prog 35 := Body.mk' Go.Proofs.Tryz.func35 (by kernel_rfl) (by kernel_rfl)
instance : Body Go.Proofs.Tryz.prog 36 := Body.mk' Go.Proofs.Tryz.func36 (by kernel_rfl) (by kernel_rfl)
instance : Body Go.Proofs.Tryz.prog 37 := Body.mk' Go.Proofs.Tryz.func37 (by kernel_rfl) (by kernel_rfl)
instance : Body Go.Proofs.Tryz.prog 38 := Body.mk' Go.Proofs.Tryz.func38 (by kernel_rfl) (by kernel_rfl)
instance : Body Go.Proofs.Tryz.prog 39 := Body.mk' Go.Proofs.Tryz.func39 (by kernel_rfl) (by kernel_rfl)
instance : Body Go.Proofs.Tryz.prog 40 := Body.mk' Go.Proofs.Tryz.func40 (by kernel_rfl) (by kernel_rfl)
instance : Body Go.Proofs.Tryz.prog 41 := Body.mk' Go.Proofs.Tryz.func41 (by kernel_rfl) (by kernel_rfl)
instance : Body Go.Proofs.Tryz.prog 42 := Body.mk' Go.Proofs.Tryz.func42 (by kernel_rfl) (by kernel_rfl)
instance : Body Go.Proofs.Tryz.prog 43 := Body.mk' Go.Proofs.Tryz.func43 (by kernel_rfl) (by kernel_rfl)
instance : Body Go.Proofs.Tryz.prog 44 := Body.mk' Go.Proofs.Tryz.func44 (by kernel_rfl) (by kernel_rfl)
instance : Body Go.Proofs.Tryz.prog 45 := Body.mk' Go.Proofs.Tryz.func45 (by kernel_rfl) (by kernel_rfl)
instance : Body Go.Proofs.Tryz.prog 46 := Body.mk' Go.Proofs.Tryz.func46 (by kernel_rfl) (by kernel_rfl)
instance : Body Go.Proofs.Tryz.prog 47 := Body.mk' Go.Proofs.Tryz.func47 (by kernel_rfl) (by kernel_rfl)
instance : Body Go.Proofs.Tryz.prog 48 := Body.mk' Go.Proofs.Tryz.func48 (by kernel_rfl) (by kernel_rfl)
instance : Body Go.Proofs.Tryz.prog 49 := Body.mk' Go.Proofs.Tryz.func49 (by kernel_rfl) (by kernel_rfl)
instance : Body Go.Proofs.Tryz.prog 50 := Body.mk' Go.Proofs.Tryz.func50 (by kernel_rfl) (by kernel_rfl)
instance : Body Go.Proofs.Tryz.prog 51 := Body.mk' Go.Proofs.Tryz.func51 (by kernel_rfl) (by kernel_rfl)
instance : Body Go.Proofs.Tryz.prog 52 := Body.mk' Go.Proofs.Tryz.func52 (by kernel_rfl) (by kernel_rfl)
instance : Body Go.Proofs.Tryz.prog 53 := Body.mk' Go.Proofs.Tryz.func53 (by kernel_rfl) (by kernel_rfl)
instance : Body Go.Proofs.Tryz.prog 54 := Body.mk' Go.Proofs.Tryz.func54 (by kernel_rfl) (by kernel_rfl)
instance : Body Go.Proofs.Tryz.prog 55 := Body.mk' Go.Proofs.Tryz.func55 (by kernel_rfl) (by kernel_rfl)
instance : Body Go.Proofs.Tryz.prog 56 := Body.mk' Go.Proofs.Tryz.func56 (by kernel_rfl) (by kernel_rfl)
instance : Body Go.Proofs.Tryz.prog 57 := Body.mk' Go.Proofs.Tryz.func57 (by kernel_rfl) (by kernel_rfl)
instance : Body Go.Proofs.Tryz.prog 58 := Body.mk' Go.Proofs.Tryz.func58 (by kernel_rfl) (by kernel_rfl)
instance : Body Go.Proofs.Tryz.prog 59 := Body.mk' Go.Proofs.Tryz.func59 (by kernel_rfl) (by kernel_rfl)
instance : Body Go.Proofs.Tryz.prog 60 := Body.mk' Go.Proofs.Tryz.func60 (by kernel_rfl) (by kernel_rfl)
instance : Body Go.Proofs.Tryz.prog 61 := Body.mk' Go.Proofs.Tryz.func61 (by kernel_rfl) (by kernel_rfl)
instance : Body Go.Proofs.Tryz.prog 62 := Body.mk' Go.Proofs.Tryz.func62 (by kernel_rfl) (by kernel_rfl)
instance : Body Go.Proofs.Tryz.prog 63 := Body.mk' Go.Proofs.Tryz.func63 (by kernel_rfl) (by kernel_rfl)
instance : Body Go.Proofs.Tryz.prog 64 := Body.mk' Go.Proofs.Tryz.func64 (by kernel_rfl) (by kernel_rfl)
instance : Body Go.Proofs.Tryz.prog 65 := Body.mk' Go.Proofs.Tryz.func65 (by kernel_rfl) (by kernel_rfl)
instance : Body Go.Proofs.Tryz.prog 66 := Body.mk' Go.Proofs.Tryz.func66 (by kernel_rfl) (by kernel_rfl)
instance : Body Go.Proofs.Tryz.prog 67 := Body.mk' Go.Proofs.Tryz.func67 (by kernel_rfl) (by kernel_rfl)
instance : Body Go.Proofs.Tryz.prog 68 := Body.mk' Go.Proofs.Tryz.func68 (by kernel_rfl) (by kernel_rfl)
instance : Body Go.Proofs.Tryz.prog 69 := Body.mk' Go.Proofs.Tryz.func69 (by kernel_rfl) (by kernel_rfl)
instance : Body Go.Proofs.Tryz.prog 70 := Body.mk' Go.Proofs.Tryz.func70 (by kernel_rfl) (by kernel_rfl)
instance : Body Go.Proofs.Tryz.prog 71 := Body.mk' Go.Proofs.Tryz.func71 (by kernel_rfl) (by kernel_rfl)
instance : Body Go.Proofs.Tryz.prog 72 := Body.mk' Go.Proofs.Tryz.func72 (by kernel_rfl) (by kernel_rfl)
instance : Body Go.Proofs.Tryz.prog 73 := Body.mk' Go.Proofs.Tryz.func73 (by kernel_rfl) (by kernel_rfl)
instance : Body Go.Proofs.Tryz.prog 74 := Body.mk' Go.Proofs.Tryz.func74 (by kernel_rfl) (by kernel_rfl)
instance : Body Go.Proofs.Tryz.prog 75 := Body.mk' Go.Proofs.Tryz.func75 (by kernel_rfl) (by kernel_rfl)
instance : Body Go.Proofs.Tryz.prog 76 := Body.mk' Go.Proofs.Tryz.func76 (by kernel_rfl) (by kernel_rfl)
instance : Body Go.Proofs.Tryz.prog 77 := Body.mk' Go.Proofs.Tryz.func77 (by kernel_rfl) (by kernel_rfl)
instance : Body Go.Proofs.Tryz.prog 78 := Body.mk' Go.Proofs.Tryz.func78 (by kernel_rfl) (by kernel_rfl)
instance : Body Go.Proofs.Tryz.prog 79 := Body.mk' Go.Proofs.Tryz.func79 (by kernel_rfl) (by kernel_rfl)
instance : Body Go.Proofs.Tryz.prog 80 := Body.mk' Go.Proofs.Tryz.func80 (by kernel_rfl) (by kernel_rfl)
instance : Body Go.Proofs.Tryz.prog 81 := Body.mk' Go.Proofs.Tryz.func81 (by kernel_rfl) (by kernel_rfl)
instance : Body Go.Proofs.Tryz.prog 82 := Body.mk' Go.Proofs.Tryz.func82 (by kernel_rfl) (by kernel_rfl)
instance : Body Go.Proofs.Tryz.prog 83 := Body.mk' Go.Proofs.Tryz.func83 (by kernel_rfl) (by kernel_rfl)
instance : Body Go.Proofs.Tryz.prog 84 := Body.mk' Go.Proofs.Tryz.func84 (by kernel_rfl) (by kernel_rfl)
instance : Body Go.Proofs.Tryz.prog 85 := Body.mk' Go.Proofs.Tryz.func85 (by kernel_rfl) (by kernel_rfl)
instance : Body Go.Proofs.Tryz.prog 86 := Body.mk' Go.Proofs.Tryz.func86 (by kernel_rfl) (by kernel_rfl)
instance : Body Go.Proofs.Tryz.prog 87 := Body.mk' Go.Proofs.Tryz.func87 (by kernel_rfl) (by kernel_rfl)
instance : Body Go.Proofs.Tryz.prog 88 := Body.mk' Go.Proofs.Tryz.func88 (by kernel_rfl) (by kernel_rfl)
instance : Body Go.Proofs.Tryz.prog 89 := Body.mk' Go.Proofs.Tryz.func89 (by kernel_rfl) (by kernel_rfl)
instance : Body Go.Proofs.Tryz.prog 90 := Body.mk' Go.Proofs.Tryz.func90 (by kernel_rfl) (by kernel_rfl)
instance : Body Go.Proofs.Tryz.prog 91 := Body.mk' Go.Proofs.Tryz.func91 (by kernel_rfl) (by kernel_rfl)
instance : Body Go.Proofs.Tryz.prog 92 := Body.mk' Go.Proofs.Tryz.func92 (by kernel_rfl) (by kernel_rfl)
instance : Body Go.Proofs.Tryz.prog 93 := Body.mk' Go.Proofs.Tryz.func93 (by kernel_rfl) (by kernel_rfl)
instance : Body Go.Proofs.Tryz.prog 94 := Body.mk' Go.Proofs.Tryz.func94 (by kernel_rfl) (by kernel_rfl)
instance : Body Go.Proofs.Tryz.prog 95 := Body.mk' Go.Proofs.Tryz.func95 (by kernel_rfl) (by kernel_rfl)
instance : Body Go.Proofs.Tryz.prog 96 := Body.mk' Go.Proofs.Tryz.func96 (by kernel_rfl) (by kernel_rfl)
instance : Body Go.Proofs.Tryz.prog 97 := Body.mk' Go.Proofs.Tryz.func97 (by kernel_rfl) (by kernel_rfl)
instance : Body Go.Proofs.Tryz.prog 98 := Body.mk' Go.Proofs.Tryz.func98 (by kernel_rfl) (by kernel_rfl)
instance : Body Go.Proofs.Tryz.prog 99 := Body.mk' Go.Proofs.Tryz.func99 (by kernel_rfl) (by kernel_rfl)
instance : Body Go.Proofs.Tryz.prog 100 := Body.mk' Go.Proofs.Tryz.func100 (by kernel_rfl) (by kernel_rfl)
instance : Body Go.Proofs.Tryz.prog 101 := Body.mk' Go.Proofs.Tryz.func101 (by kernel_rfl) (by kernel_rfl)
instance : Body Go.Proofs.Tryz.prog 102 := Body.mk' Go.Proofs.Tryz.func102 (by kernel_rfl) (by kernel_rfl)
instance : Body Go.Proofs.Tryz.prog 103 := Body.mk' Go.Proofs.Tryz.func103 (by kernel_rfl) (by kernel_rfl)
instance : Body Go.Proofs.Tryz.prog 104 := Body.mk' Go.Proofs.Tryz.func104 (by kernel_rfl) (by kernel_rfl)
instance : Body Go.Proofs.Tryz.prog 105 := Body.mk' Go.Proofs.Tryz.func105 (by kernel_rfl) (by kernel_rfl)
instance : Body Go.Proofs.Tryz.prog 106 := Body.mk' Go.Proofs.Tryz.func106 (by kernel_rfl) (by kernel_rfl)
instance : Body Go.Proofs.Tryz.prog 107 := Body.mk' Go.Proofs.Tryz.func107 (by kernel_rfl) (by kernel_rfl)
instance : Body Go.Proofs.Tryz.prog 108 := Body.mk' Go.Proofs.Tryz.func108 (by kernel_rfl) (by kernel_rfl)
instance : Body Go.Proofs.Tryz.prog 109 := Body.mk' Go.Proofs.Tryz.func109 (by kernel_rfl) (by kernel_rfl)
instance : Body Go.Proofs.Tryz.prog 110 := Body.mk' Go.Proofs.Tryz.func110 (by kernel_rfl) (by kernel_rfl)
instance : Body Go.Proofs.Tryz.prog 111 := Body.mk' Go.Proofs.Tryz.func111 (by kernel_rfl) (by kernel_rfl)
instance : Body Go.Proofs.Tryz.prog 112 := Body.mk' Go.Proofs.Tryz.func112 (by kernel_rfl) (by kernel_rfl)
instance : Body Go.Proofs.Tryz.prog 113 := Body.mk' Go.Proofs.Tryz.func113 (by kernel_rfl) (by kernel_rfl)
instance : Body Go.Proofs.Tryz.prog 114 := Body.mk' Go.Proofs.Tryz.func114 (by kernel_rfl) (by kernel_rfl)
instance : Body Go.Proofs.Tryz.prog 115 := Body.mk' Go.Proofs.Tryz.func115 (by kernel_rfl) (by kernel_rfl)
instance : Body Go.Proofs.Tryz.prog 116 := Body.mk' Go.Proofs.Tryz.func116 (by kernel_rfl) (by kernel_rfl)
instance : Body Go.Proofs.Tryz.prog 117 := Body.mk' Go.Proofs.Tryz.func117 (by kernel_rfl) (by kernel_rfl)
instance : Body Go.Proofs.Tryz.prog 118 := Body.mk' Go.Proofs.Tryz.func118 (by kernel_rfl) (by kernel_rfl)
instance : Body Go.Proofs.Tryz.prog 119 := Body.mk' Go.Proofs.Tryz.func119 (by kernel_rfl) (by kernel_rfl)
instance : Body Go.Proofs.Tryz.prog 120 := Body.mk' Go.Proofs.Tryz.func120 (by kernel_rfl) (by kernel_rfl)
instance : Body Go.Proofs.Tryz.prog 121 := Body.mk' Go.Proofs.Tryz.func121 (by kernel_rfl) (by kernel_rfl)
instance : Body Go.Proofs.Tryz.prog 122 := Body.mk' Go.Proofs.Tryz.func122 (by kernel_rfl) (by kernel_rfl)
instance : Body Go.Proofs.Tryz.prog 123 := Body.mk' Go.Proofs.Tryz.func123 (by kernel_rfl) (by kernel_rfl)
instance : Body Go.Proofs.Tryz.prog 124 := Body.mk' Go.Proofs.Tryz.func124 (by kernel_rfl) (by kernel_rfl)
instance : Body Go.Proofs.Tryz.prog 125 := Body.mk' Go.Proofs.Tryz.func125 (by kernel_rfl) (by kernel_rfl)
instance : Body Go.Proofs.Tryz.prog 126 := Body.mk' Go.Proofs.Tryz.func126 (by kernel_rfl) (by kernel_rfl)
instance : Body Go.Proofs.Tryz.prog 127 := Body.mk' Go.Proofs.Tryz.func127 (by kernel_rfl) (by kernel_rfl)
instance : Body Go.Proofs.Tryz.prog 128 := Body.mk' Go.Proofs.Tryz.func128 (by kernel_rfl) (by kernel_rfl)
instance : Body Go.Proofs.Tryz.prog 129 := Body.mk' Go.Proofs.Tryz.func129 (by kernel_rfl) (by kernel_rfl)
instance : Body Go.Proofs.Tryz.prog 130 := Body.mk' Go.Proofs.Tryz.func130 (by kernel_rfl) (by kernel_rfl)
instance : Body Go.Proofs.Tryz.prog 131 := Body.mk' Go.Proofs.Tryz.func131 (by kernel_rfl) (by kernel_rfl)
instance : Body Go.Proofs.Tryz.prog 132 := Body.mk' Go.Proofs.Tryz.func132 (by kernel_rfl) (by kernel_rfl)
instance : Body Go.Proofs.Tryz.prog 133 := Body.mk' Go.Proofs.Tryz.func133 (by kernel_rfl) (by kernel_rfl)
instance : Body Go.Proofs.Tryz.prog 134 := Body.mk' Go.Proofs.Tryz.func134 (by kernel_rfl) (by kernel_rfl)
instance : Body Go.Proofs.Tryz.prog 135 := Body.mk' Go.Proofs.Tryz.func135 (by kernel_rfl) (by kernel_rfl)
instance : Body Go.Proofs.Tryz.prog 136 := Body.mk' Go.Proofs.Tryz.func136 (by kernel_rfl) (by kernel_rfl)
instance : Body Go.Proofs.Tryz.prog 137 := Body.mk' Go.Proofs.Tryz.func137 (by kernel_rfl) (by kernel_rfl)
instance : Body Go.Proofs.Tryz.prog 138 := Body.mk' Go.Proofs.Tryz.func138 (by kernel_rfl) (by kernel_rfl)
instance : Body Go.Proofs.Tryz.prog 139 := Body.mk' Go.Proofs.Tryz.func139 (by kernel_rfl) (by kernel_rfl)
instance : Body Go.Proofs.Tryz.prog 140 := Body.mk' Go.Proofs.Tryz.func140 (by kernel_rfl) (by kernel_rfl)
instance : Body Go.Proofs.Tryz.prog 141 := Body.mk' Go.Proofs.Tryz.func141 (by kernel_rfl) (by kernel_rfl)
instance : Body Go.Proofs.Tryz.prog 142 := Body.mk' Go.Proofs.Tryz.func142 (by kernel_rfl) (by kernel_rfl)
instance : Body Go.Proofs.Tryz.prog 143 := Body.mk' Go.Proofs.Tryz.func143 (by kernel_rfl) (by kernel_rfl)
instance : Body Go.Proofs.Tryz.prog 144 := Body.mk' Go.Proofs.Tryz.func144 (by kernel_rfl) (by kernel_rfl)
instance : Body Go.Proofs.Tryz.prog 145 := Body.mk' Go.Proofs.Tryz.func145 (by kernel_rfl) (by kernel_rfl)
instance : Body Go.Proofs.Tryz.prog 146 := Body.mk' Go.Proofs.Tryz.func146 (by kernel_rfl) (by kernel_rfl)
instance : Body Go.Proofs.Tryz.prog 147 := Body.mk' Go.Proofs.Tryz.func147 (by kernel_rfl) (by kernel_rfl)
instance : Body Go.Proofs.Tryz.prog 148 := Body.mk' Go.Proofs.Tryz.func148 (by kernel_rfl) (by kernel_rfl)
instance : Body Go.Proofs.Tryz.prog 149 := Body.mk' Go.Proofs.Tryz.func149 (by kernel_rfl) (by kernel_rfl)
instance : Body Go.Proofs.Tryz.prog 150 := Body.mk' Go.Proofs.Tryz.func150 (by kernel_rfl) (by kernel_rfl)
instance : Body Go.Proofs.Tryz.prog 151 := Body.mk' Go.Proofs.Tryz.func151 (by kernel_rfl) (by kernel_rfl)
instance : Body Go.Proofs.Tryz.prog 152 := Body.mk' Go.Proofs.Tryz.func152 (by kernel_rfl) (by kernel_rfl)
instance : Body Go.Proofs.Tryz.prog 153 := Body.mk' Go.Proofs.Tryz.func153 (by kernel_rfl) (by kernel_rfl)
instance : Body Go.Proofs.Tryz.prog 154 := Body.mk' Go.Proofs.Tryz.func154 (by kernel_rfl) (by kernel_rfl)
end Go.Proofs.YtjpghlljcibcjaaGreatDoor
