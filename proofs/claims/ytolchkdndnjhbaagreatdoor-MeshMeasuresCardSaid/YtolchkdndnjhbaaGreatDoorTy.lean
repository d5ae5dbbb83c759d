/- Instances on this translation's types and functions, printed by wip/sx/types.py. -/
import Derived.Test.YtolchkdndnjhbaaGreatDoorSx5
import Derived.Test.YtolchkdndnjhbaaGreatDoorProg
import Derived.KernelRfl
namespace Go.Proofs.YtolchkdndnjhbaaGreatDoor
open Go Go.Sx
instance : Mix Go.Proofs.Tryz.prog := ⟨by kernel_rfl⟩
instance : TI Go.Proofs.Tryz.prog 0 (.tuple #[]) 1 0 := ⟨by kernel_rfl⟩
instance : UL Go.Proofs.Tryz.prog 1 (.func #[] #[] false) := ⟨Go.Proofs.Tryz.underlying1⟩
instance : TI Go.Proofs.Tryz.prog 1 (.nilFunc) 1 8 := ⟨by kernel_rfl⟩
instance : UL Go.Proofs.Tryz.prog 2 (.int .i64) := ⟨Go.Proofs.Tryz.underlying2⟩
instance : TI Go.Proofs.Tryz.prog 2 (.int .i64 0) 1 8 := ⟨by kernel_rfl⟩
instance : UL Go.Proofs.Tryz.prog 3 (.int .i64) := ⟨Go.Proofs.Tryz.underlying3⟩
instance : TI Go.Proofs.Tryz.prog 3 (.int .i64 0) 1 8 := ⟨by kernel_rfl⟩
instance : UL Go.Proofs.Tryz.prog 4 (.bool) := ⟨Go.Proofs.Tryz.underlying4⟩
instance : TI Go.Proofs.Tryz.prog 4 (.bool false) 1 1 := ⟨by kernel_rfl⟩
instance : UL Go.Proofs.Tryz.prog 5 (.int .u8) := ⟨Go.Proofs.Tryz.underlying5⟩
instance : TI Go.Proofs.Tryz.prog 5 (.int .u8 0) 1 1 := ⟨by kernel_rfl⟩
instance : UL Go.Proofs.Tryz.prog 6 (.int .u8) := ⟨Go.Proofs.Tryz.underlying6⟩
instance : TI Go.Proofs.Tryz.prog 6 (.int .u8 0) 1 1 := ⟨by kernel_rfl⟩
instance : UL Go.Proofs.Tryz.prog 7 (.struct #[{ name := "x", type := 2, offset := 0, embedded := false, tag := "", pkgPath := "runtime", byteOffset := 0 }, { name := "y", type := 3, offset := 1, embedded := false, tag := "", pkgPath := "runtime", byteOffset := 8 }, { name := "signed", type := 4, offset := 2, embedded := false, tag := "", pkgPath := "runtime", byteOffset := 16 }, { name := "code", type := 6, offset := 3, embedded := false, tag := "", pkgPath := "runtime", byteOffset := 17 }]) := ⟨Go.Proofs.Tryz.underlying7⟩
instance : TI Go.Proofs.Tryz.prog 7 (.agg #[.int .i64 0, .int .i64 0, .bool false, .int .u8 0]) 4 24 := ⟨by kernel_rfl⟩
instance : UL Go.Proofs.Tryz.prog 8 (.struct #[{ name := "x", type := 2, offset := 0, embedded := false, tag := "", pkgPath := "runtime", byteOffset := 0 }, { name := "y", type := 3, offset := 1, embedded := false, tag := "", pkgPath := "runtime", byteOffset := 8 }, { name := "signed", type := 4, offset := 2, embedded := false, tag := "", pkgPath := "runtime", byteOffset := 16 }, { name := "code", type := 6, offset := 3, embedded := false, tag := "", pkgPath := "runtime", byteOffset := 17 }]) := ⟨Go.Proofs.Tryz.underlying8⟩
instance : TI Go.Proofs.Tryz.prog 8 (.agg #[.int .i64 0, .int .i64 0, .bool false, .int .u8 0]) 4 24 := ⟨by kernel_rfl⟩
instance : UL Go.Proofs.Tryz.prog 9 (.string) := ⟨Go.Proofs.Tryz.underlying9⟩
instance : TI Go.Proofs.Tryz.prog 9 (.string ⟨#[]⟩) 1 16 := ⟨by kernel_rfl⟩
instance : UL Go.Proofs.Tryz.prog 10 (.string) := ⟨Go.Proofs.Tryz.underlying10⟩
instance : TI Go.Proofs.Tryz.prog 10 (.string ⟨#[]⟩) 1 16 := ⟨by kernel_rfl⟩
instance : UL Go.Proofs.Tryz.prog 11 (.string) := ⟨Go.Proofs.Tryz.underlying11⟩
instance : TI Go.Proofs.Tryz.prog 11 (.string ⟨#[]⟩) 1 16 := ⟨by kernel_rfl⟩
instance : UL Go.Proofs.Tryz.prog 12 (.int .u64) := ⟨Go.Proofs.Tryz.underlying12⟩
instance : TI Go.Proofs.Tryz.prog 12 (.int .u64 0) 1 8 := ⟨by kernel_rfl⟩
instance : UL Go.Proofs.Tryz.prog 13 (.struct #[{ name := "msg", type := 9, offset := 0, embedded := false, tag := "", pkgPath := "runtime", byteOffset := 0 }, { name := "addr", type := 12, offset := 1, embedded := false, tag := "", pkgPath := "runtime", byteOffset := 16 }]) := ⟨Go.Proofs.Tryz.underlying13⟩
instance : TI Go.Proofs.Tryz.prog 13 (.agg #[.string ⟨#[]⟩, .int .u64 0]) 2 24 := ⟨by kernel_rfl⟩
instance : UL Go.Proofs.Tryz.prog 14 (.struct #[{ name := "msg", type := 9, offset := 0, embedded := false, tag := "", pkgPath := "runtime", byteOffset := 0 }, { name := "addr", type := 12, offset := 1, embedded := false, tag := "", pkgPath := "runtime", byteOffset := 16 }]) := ⟨Go.Proofs.Tryz.underlying14⟩
instance : TI Go.Proofs.Tryz.prog 14 (.agg #[.string ⟨#[]⟩, .int .u64 0]) 2 24 := ⟨by kernel_rfl⟩
instance : UL Go.Proofs.Tryz.prog 15 (.pointer 185) := ⟨Go.Proofs.Tryz.underlying15⟩
instance : TI Go.Proofs.Tryz.prog 15 (.pointer none) 1 8 := ⟨by kernel_rfl⟩
instance : UL Go.Proofs.Tryz.prog 16 (.pointer 188) := ⟨Go.Proofs.Tryz.underlying16⟩
instance : TI Go.Proofs.Tryz.prog 16 (.pointer none) 1 8 := ⟨by kernel_rfl⟩
instance : UL Go.Proofs.Tryz.prog 17 (.pointer 195) := ⟨Go.Proofs.Tryz.underlying17⟩
instance : TI Go.Proofs.Tryz.prog 17 (.pointer none) 1 8 := ⟨by kernel_rfl⟩
instance : UL Go.Proofs.Tryz.prog 18 (.struct #[{ name := "typ", type := 17, offset := 0, embedded := false, tag := "", pkgPath := "internal/runtime/maps", byteOffset := 0 }]) := ⟨Go.Proofs.Tryz.underlying18⟩
instance : TI Go.Proofs.Tryz.prog 18 (.agg #[.pointer none]) 1 8 := ⟨by kernel_rfl⟩
instance : UL Go.Proofs.Tryz.prog 19 (.struct #[{ name := "typ", type := 17, offset := 0, embedded := false, tag := "", pkgPath := "internal/runtime/maps", byteOffset := 0 }]) := ⟨Go.Proofs.Tryz.underlying19⟩
instance : TI Go.Proofs.Tryz.prog 19 (.agg #[.pointer none]) 1 8 := ⟨by kernel_rfl⟩
instance : UL Go.Proofs.Tryz.prog 21 (.int .i32) := ⟨Go.Proofs.Tryz.underlying21⟩
instance : TI Go.Proofs.Tryz.prog 21 (.int .i32 0) 1 4 := ⟨by kernel_rfl⟩
instance : UL Go.Proofs.Tryz.prog 22 (.slice 41) := ⟨Go.Proofs.Tryz.underlying22⟩
instance : TI Go.Proofs.Tryz.prog 22 (.slice none 0 0) 1 24 := ⟨by kernel_rfl⟩
instance : UL Go.Proofs.Tryz.prog 23 (.struct #[{ name := "Points", type := 22, offset := 0, embedded := false, tag := "", pkgPath := "", byteOffset := 0 }, { name := "Faces", type := 22, offset := 1, embedded := false, tag := "", pkgPath := "", byteOffset := 24 }]) := ⟨Go.Proofs.Tryz.underlying23⟩
instance : TI Go.Proofs.Tryz.prog 23 (.agg #[.slice none 0 0, .slice none 0 0]) 2 48 := ⟨by kernel_rfl⟩
instance : UL Go.Proofs.Tryz.prog 24 (.struct #[{ name := "Points", type := 22, offset := 0, embedded := false, tag := "", pkgPath := "", byteOffset := 0 }, { name := "Faces", type := 22, offset := 1, embedded := false, tag := "", pkgPath := "", byteOffset := 24 }]) := ⟨Go.Proofs.Tryz.underlying24⟩
instance : TI Go.Proofs.Tryz.prog 24 (.agg #[.slice none 0 0, .slice none 0 0]) 2 48 := ⟨by kernel_rfl⟩
instance : UL Go.Proofs.Tryz.prog 25 (.int .i16) := ⟨Go.Proofs.Tryz.underlying25⟩
instance : TI Go.Proofs.Tryz.prog 25 (.int .i16 0) 1 2 := ⟨by kernel_rfl⟩
instance : UL Go.Proofs.Tryz.prog 26 (.array 3 25) := ⟨Go.Proofs.Tryz.underlying26⟩
instance : TI Go.Proofs.Tryz.prog 26 (.agg #[.int .i16 0, .int .i16 0, .int .i16 0]) 3 6 := ⟨by kernel_rfl⟩
instance : UL Go.Proofs.Tryz.prog 27 (.slice 71) := ⟨Go.Proofs.Tryz.underlying27⟩
instance : TI Go.Proofs.Tryz.prog 27 (.slice none 0 0) 1 24 := ⟨by kernel_rfl⟩
instance : UL Go.Proofs.Tryz.prog 28 (.struct #[{ name := "Kind", type := 5, offset := 0, embedded := false, tag := "", pkgPath := "", byteOffset := 0 }, { name := "Size", type := 5, offset := 1, embedded := false, tag := "", pkgPath := "", byteOffset := 1 }, { name := "At", type := 26, offset := 2, embedded := false, tag := "", pkgPath := "", byteOffset := 2 }, { name := "Off", type := 27, offset := 5, embedded := false, tag := "", pkgPath := "", byteOffset := 8 }, { name := "Turned", type := 4, offset := 6, embedded := false, tag := "", pkgPath := "", byteOffset := 32 }]) := ⟨Go.Proofs.Tryz.underlying28⟩
instance : TI Go.Proofs.Tryz.prog 28 (.agg #[.int .u8 0, .int .u8 0, .int .i16 0, .int .i16 0, .int .i16 0, .slice none 0 0, .bool false]) 7 40 := ⟨by kernel_rfl⟩
instance : UL Go.Proofs.Tryz.prog 29 (.struct #[{ name := "Kind", type := 5, offset := 0, embedded := false, tag := "", pkgPath := "", byteOffset := 0 }, { name := "Size", type := 5, offset := 1, embedded := false, tag := "", pkgPath := "", byteOffset := 1 }, { name := "At", type := 26, offset := 2, embedded := false, tag := "", pkgPath := "", byteOffset := 2 }, { name := "Off", type := 27, offset := 5, embedded := false, tag := "", pkgPath := "", byteOffset := 8 }, { name := "Turned", type := 4, offset := 6, embedded := false, tag := "", pkgPath := "", byteOffset := 32 }]) := ⟨Go.Proofs.Tryz.underlying29⟩
instance : TI Go.Proofs.Tryz.prog 29 (.agg #[.int .u8 0, .int .u8 0, .int .i16 0, .int .i16 0, .int .i16 0, .slice none 0 0, .bool false]) 7 40 := ⟨by kernel_rfl⟩
instance : UL Go.Proofs.Tryz.prog 30 (.struct #[{ name := "What", type := 5, offset := 0, embedded := false, tag := "", pkgPath := "", byteOffset := 0 }, { name := "At", type := 5, offset := 1, embedded := false, tag := "", pkgPath := "", byteOffset := 1 }, { name := "To", type := 5, offset := 2, embedded := false, tag := "", pkgPath := "", byteOffset := 2 }, { name := "N", type := 3, offset := 3, embedded := false, tag := "", pkgPath := "", byteOffset := 8 }]) := ⟨Go.Proofs.Tryz.underlying30⟩
instance : TI Go.Proofs.Tryz.prog 30 (.agg #[.int .u8 0, .int .u8 0, .int .u8 0, .int .i64 0]) 4 16 := ⟨by kernel_rfl⟩
instance : UL Go.Proofs.Tryz.prog 31 (.struct #[{ name := "What", type := 5, offset := 0, embedded := false, tag := "", pkgPath := "", byteOffset := 0 }, { name := "At", type := 5, offset := 1, embedded := false, tag := "", pkgPath := "", byteOffset := 1 }, { name := "To", type := 5, offset := 2, embedded := false, tag := "", pkgPath := "", byteOffset := 2 }, { name := "N", type := 3, offset := 3, embedded := false, tag := "", pkgPath := "", byteOffset := 8 }]) := ⟨Go.Proofs.Tryz.underlying31⟩
instance : TI Go.Proofs.Tryz.prog 31 (.agg #[.int .u8 0, .int .u8 0, .int .u8 0, .int .i64 0]) 4 16 := ⟨by kernel_rfl⟩
instance : UL Go.Proofs.Tryz.prog 32 (.array 2 31) := ⟨Go.Proofs.Tryz.underlying32⟩
instance : TI Go.Proofs.Tryz.prog 32 (.agg #[.int .u8 0, .int .u8 0, .int .u8 0, .int .i64 0, .int .u8 0, .int .u8 0, .int .u8 0, .int .i64 0]) 8 32 := ⟨by kernel_rfl⟩
instance : UL Go.Proofs.Tryz.prog 33 (.array 4 24) := ⟨Go.Proofs.Tryz.underlying33⟩
instance : TI Go.Proofs.Tryz.prog 33 (.agg #[.slice none 0 0, .slice none 0 0, .slice none 0 0, .slice none 0 0, .slice none 0 0, .slice none 0 0, .slice none 0 0, .slice none 0 0]) 8 192 := ⟨by kernel_rfl⟩
instance : UL Go.Proofs.Tryz.prog 34 (.func #[24, 29, 32] #[33] false) := ⟨Go.Proofs.Tryz.underlying34⟩
instance : TI Go.Proofs.Tryz.prog 34 (.nilFunc) 1 8 := ⟨by kernel_rfl⟩
instance : UL Go.Proofs.Tryz.prog 35 (.string) := ⟨Go.Proofs.Tryz.underlying35⟩
instance : TI Go.Proofs.Tryz.prog 35 (.string ⟨#[]⟩) 1 16 := ⟨by kernel_rfl⟩
instance : UL Go.Proofs.Tryz.prog 36 (.int .i64) := ⟨Go.Proofs.Tryz.underlying36⟩
instance : TI Go.Proofs.Tryz.prog 36 (.int .i64 0) 1 8 := ⟨by kernel_rfl⟩
instance : TI Go.Proofs.Tryz.prog 37 (.tuple #[.string ⟨#[]⟩, .int .i64 0]) 1 0 := ⟨by kernel_rfl⟩
instance : UL Go.Proofs.Tryz.prog 38 (.func #[24] #[35, 36] false) := ⟨Go.Proofs.Tryz.underlying38⟩
instance : TI Go.Proofs.Tryz.prog 38 (.nilFunc) 1 8 := ⟨by kernel_rfl⟩
instance : TI Go.Proofs.Tryz.prog 39 (.tuple #[.int .i64 0, .int .i64 0, .int .i64 0]) 1 0 := ⟨by kernel_rfl⟩
instance : UL Go.Proofs.Tryz.prog 40 (.func #[24] #[3, 3, 36] false) := ⟨Go.Proofs.Tryz.underlying40⟩
instance : TI Go.Proofs.Tryz.prog 40 (.nilFunc) 1 8 := ⟨by kernel_rfl⟩
instance : UL Go.Proofs.Tryz.prog 41 (.array 3 3) := ⟨Go.Proofs.Tryz.underlying41⟩
instance : TI Go.Proofs.Tryz.prog 41 (.agg #[.int .i64 0, .int .i64 0, .int .i64 0]) 3 24 := ⟨by kernel_rfl⟩
instance : TI Go.Proofs.Tryz.prog 42 (.tuple #[.agg #[.int .i64 0, .int .i64 0, .int .i64 0], .agg #[.int .i64 0, .int .i64 0, .int .i64 0], .int .i64 0]) 1 0 := ⟨by kernel_rfl⟩
instance : UL Go.Proofs.Tryz.prog 43 (.func #[24] #[41, 41, 36] false) := ⟨Go.Proofs.Tryz.underlying43⟩
instance : TI Go.Proofs.Tryz.prog 43 (.nilFunc) 1 8 := ⟨by kernel_rfl⟩
instance : UL Go.Proofs.Tryz.prog 44 (.func #[] #[4] false) := ⟨Go.Proofs.Tryz.underlying44⟩
instance : TI Go.Proofs.Tryz.prog 44 (.nilFunc) 1 8 := ⟨by kernel_rfl⟩
instance : UL Go.Proofs.Tryz.prog 45 (.func #[24, 29, 32] #[4] false) := ⟨Go.Proofs.Tryz.underlying45⟩
instance : TI Go.Proofs.Tryz.prog 45 (.nilFunc) 1 8 := ⟨by kernel_rfl⟩
instance : UL Go.Proofs.Tryz.prog 46 (.func #[] #[24] false) := ⟨Go.Proofs.Tryz.underlying46⟩
instance : TI Go.Proofs.Tryz.prog 46 (.nilFunc) 1 8 := ⟨by kernel_rfl⟩
instance : TI Go.Proofs.Tryz.prog 47 (.tuple #[.agg #[.slice none 0 0, .slice none 0 0], .int .i64 0]) 1 0 := ⟨by kernel_rfl⟩
instance : UL Go.Proofs.Tryz.prog 48 (.func #[24, 41] #[24, 36] false) := ⟨Go.Proofs.Tryz.underlying48⟩
instance : TI Go.Proofs.Tryz.prog 48 (.nilFunc) 1 8 := ⟨by kernel_rfl⟩
instance : UL Go.Proofs.Tryz.prog 49 (.func #[24] #[24, 36] false) := ⟨Go.Proofs.Tryz.underlying49⟩
instance : TI Go.Proofs.Tryz.prog 49 (.nilFunc) 1 8 := ⟨by kernel_rfl⟩
instance : UL Go.Proofs.Tryz.prog 50 (.func #[24, 24] #[4] false) := ⟨Go.Proofs.Tryz.underlying50⟩
instance : TI Go.Proofs.Tryz.prog 50 (.nilFunc) 1 8 := ⟨by kernel_rfl⟩
instance : TI Go.Proofs.Tryz.prog 52 (.nilIface) 1 16 := ⟨by kernel_rfl⟩
instance : TI Go.Proofs.Tryz.prog 53 (.tuple #[.int .i64 0, .nilIface]) 1 0 := ⟨by kernel_rfl⟩
instance : UL Go.Proofs.Tryz.prog 54 (.func #[9] #[3, 52] false) := ⟨Go.Proofs.Tryz.underlying54⟩
instance : TI Go.Proofs.Tryz.prog 54 (.nilFunc) 1 8 := ⟨by kernel_rfl⟩
instance : UL Go.Proofs.Tryz.prog 55 (.func #[41, 41] #[41] false) := ⟨Go.Proofs.Tryz.underlying55⟩
instance : TI Go.Proofs.Tryz.prog 55 (.nilFunc) 1 8 := ⟨by kernel_rfl⟩
instance : UL Go.Proofs.Tryz.prog 56 (.func #[29, 26] #[4] false) := ⟨Go.Proofs.Tryz.underlying56⟩
instance : TI Go.Proofs.Tryz.prog 56 (.nilFunc) 1 8 := ⟨by kernel_rfl⟩
instance : UL Go.Proofs.Tryz.prog 57 (.func #[24] #[24] false) := ⟨Go.Proofs.Tryz.underlying57⟩
instance : TI Go.Proofs.Tryz.prog 57 (.nilFunc) 1 8 := ⟨by kernel_rfl⟩
instance : UL Go.Proofs.Tryz.prog 58 (.func #[24] #[36] false) := ⟨Go.Proofs.Tryz.underlying58⟩
instance : TI Go.Proofs.Tryz.prog 58 (.nilFunc) 1 8 := ⟨by kernel_rfl⟩
instance : UL Go.Proofs.Tryz.prog 59 (.func #[3] #[35] false) := ⟨Go.Proofs.Tryz.underlying59⟩
instance : TI Go.Proofs.Tryz.prog 59 (.nilFunc) 1 8 := ⟨by kernel_rfl⟩
instance : UL Go.Proofs.Tryz.prog 60 (.func #[35, 35] #[35, 36] false) := ⟨Go.Proofs.Tryz.underlying60⟩
instance : TI Go.Proofs.Tryz.prog 60 (.nilFunc) 1 8 := ⟨by kernel_rfl⟩
instance : UL Go.Proofs.Tryz.prog 61 (.func #[41, 41] #[3] false) := ⟨Go.Proofs.Tryz.underlying61⟩
instance : TI Go.Proofs.Tryz.prog 61 (.nilFunc) 1 8 := ⟨by kernel_rfl⟩
instance : UL Go.Proofs.Tryz.prog 62 (.func #[87] #[] false) := ⟨Go.Proofs.Tryz.underlying62⟩
instance : TI Go.Proofs.Tryz.prog 62 (.nilFunc) 1 8 := ⟨by kernel_rfl⟩
instance : UL Go.Proofs.Tryz.prog 63 (.func #[87] #[] false) := ⟨Go.Proofs.Tryz.underlying63⟩
instance : TI Go.Proofs.Tryz.prog 63 (.nilFunc) 1 8 := ⟨by kernel_rfl⟩
instance : UL Go.Proofs.Tryz.prog 64 (.map 89 3) := ⟨Go.Proofs.Tryz.underlying64⟩
instance : TI Go.Proofs.Tryz.prog 64 (.map none) 1 8 := ⟨by kernel_rfl⟩
instance : UL Go.Proofs.Tryz.prog 65 (.struct #[{ name := "Mesh", type := 24, offset := 0, embedded := true, tag := "", pkgPath := "", byteOffset := 0 }, { name := "owners", type := 64, offset := 2, embedded := false, tag := "", pkgPath := "verdigris/mesh", byteOffset := 48 }]) := ⟨Go.Proofs.Tryz.underlying65⟩
instance : TI Go.Proofs.Tryz.prog 65 (.agg #[.slice none 0 0, .slice none 0 0, .map none]) 3 56 := ⟨by kernel_rfl⟩
instance : UL Go.Proofs.Tryz.prog 66 (.struct #[{ name := "Mesh", type := 24, offset := 0, embedded := true, tag := "", pkgPath := "", byteOffset := 0 }, { name := "owners", type := 64, offset := 2, embedded := false, tag := "", pkgPath := "verdigris/mesh", byteOffset := 48 }]) := ⟨Go.Proofs.Tryz.underlying66⟩
instance : TI Go.Proofs.Tryz.prog 66 (.agg #[.slice none 0 0, .slice none 0 0, .map none]) 3 56 := ⟨by kernel_rfl⟩
instance : UL Go.Proofs.Tryz.prog 67 (.func #[] #[63] false) := ⟨Go.Proofs.Tryz.underlying67⟩
instance : TI Go.Proofs.Tryz.prog 67 (.nilFunc) 1 8 := ⟨by kernel_rfl⟩
instance : UL Go.Proofs.Tryz.prog 68 (.func #[24, 3, 3] #[4] false) := ⟨Go.Proofs.Tryz.underlying68⟩
instance : TI Go.Proofs.Tryz.prog 68 (.nilFunc) 1 8 := ⟨by kernel_rfl⟩
instance : TI Go.Proofs.Tryz.prog 69 (.tuple #[.slice none 0 0, .slice none 0 0]) 1 0 := ⟨by kernel_rfl⟩
instance : UL Go.Proofs.Tryz.prog 70 (.func #[3] #[22, 22] false) := ⟨Go.Proofs.Tryz.underlying70⟩
instance : TI Go.Proofs.Tryz.prog 70 (.nilFunc) 1 8 := ⟨by kernel_rfl⟩
instance : UL Go.Proofs.Tryz.prog 71 (.int .i8) := ⟨Go.Proofs.Tryz.underlying71⟩
instance : TI Go.Proofs.Tryz.prog 71 (.int .i8 0) 1 1 := ⟨by kernel_rfl⟩
instance : UL Go.Proofs.Tryz.prog 72 (.func #[22] #[22] false) := ⟨Go.Proofs.Tryz.underlying72⟩
instance : TI Go.Proofs.Tryz.prog 72 (.nilFunc) 1 8 := ⟨by kernel_rfl⟩
instance : UL Go.Proofs.Tryz.prog 73 (.func #[22, 22] #[4] false) := ⟨Go.Proofs.Tryz.underlying73⟩
instance : TI Go.Proofs.Tryz.prog 73 (.nilFunc) 1 8 := ⟨by kernel_rfl⟩
instance : UL Go.Proofs.Tryz.prog 74 (.func #[9, 9, 3, 3, 52] #[52] false) := ⟨Go.Proofs.Tryz.underlying74⟩
instance : TI Go.Proofs.Tryz.prog 74 (.nilFunc) 1 8 := ⟨by kernel_rfl⟩
instance : TI Go.Proofs.Tryz.prog 75 (.tuple #[.int .i64 0, .int .i64 0]) 1 0 := ⟨by kernel_rfl⟩
instance : UL Go.Proofs.Tryz.prog 76 (.func #[24] #[3, 3] false) := ⟨Go.Proofs.Tryz.underlying76⟩
instance : TI Go.Proofs.Tryz.prog 76 (.nilFunc) 1 8 := ⟨by kernel_rfl⟩
instance : UL Go.Proofs.Tryz.prog 77 (.func #[3] #[9] false) := ⟨Go.Proofs.Tryz.underlying77⟩
instance : TI Go.Proofs.Tryz.prog 77 (.nilFunc) 1 8 := ⟨by kernel_rfl⟩
instance : UL Go.Proofs.Tryz.prog 78 (.func #[3, 35, 35] #[35, 36] false) := ⟨Go.Proofs.Tryz.underlying78⟩
instance : TI Go.Proofs.Tryz.prog 78 (.nilFunc) 1 8 := ⟨by kernel_rfl⟩
instance : UL Go.Proofs.Tryz.prog 79 (.func #[82] #[35, 36] false) := ⟨Go.Proofs.Tryz.underlying79⟩
instance : TI Go.Proofs.Tryz.prog 79 (.nilFunc) 1 8 := ⟨by kernel_rfl⟩
instance : UL Go.Proofs.Tryz.prog 80 (.slice 3) := ⟨Go.Proofs.Tryz.underlying80⟩
instance : TI Go.Proofs.Tryz.prog 80 (.slice none 0 0) 1 24 := ⟨by kernel_rfl⟩
instance : UL Go.Proofs.Tryz.prog 81 (.struct #[{ name := "Below", type := 4, offset := 0, embedded := false, tag := "", pkgPath := "", byteOffset := 0 }, { name := "D", type := 80, offset := 1, embedded := false, tag := "", pkgPath := "", byteOffset := 8 }]) := ⟨Go.Proofs.Tryz.underlying81⟩
instance : TI Go.Proofs.Tryz.prog 81 (.agg #[.bool false, .slice none 0 0]) 2 32 := ⟨by kernel_rfl⟩
instance : UL Go.Proofs.Tryz.prog 82 (.struct #[{ name := "Below", type := 4, offset := 0, embedded := false, tag := "", pkgPath := "", byteOffset := 0 }, { name := "D", type := 80, offset := 1, embedded := false, tag := "", pkgPath := "", byteOffset := 8 }]) := ⟨Go.Proofs.Tryz.underlying82⟩
instance : TI Go.Proofs.Tryz.prog 82 (.agg #[.bool false, .slice none 0 0]) 2 32 := ⟨by kernel_rfl⟩
instance : UL Go.Proofs.Tryz.prog 83 (.func #[3] #[82] false) := ⟨Go.Proofs.Tryz.underlying83⟩
instance : TI Go.Proofs.Tryz.prog 83 (.nilFunc) 1 8 := ⟨by kernel_rfl⟩
instance : UL Go.Proofs.Tryz.prog 84 (.func #[35] #[4] false) := ⟨Go.Proofs.Tryz.underlying84⟩
instance : TI Go.Proofs.Tryz.prog 84 (.nilFunc) 1 8 := ⟨by kernel_rfl⟩
instance : UL Go.Proofs.Tryz.prog 85 (.func #[82, 82] #[82] false) := ⟨Go.Proofs.Tryz.underlying85⟩
instance : TI Go.Proofs.Tryz.prog 85 (.nilFunc) 1 8 := ⟨by kernel_rfl⟩
instance : UL Go.Proofs.Tryz.prog 86 (.func #[35] #[82] false) := ⟨Go.Proofs.Tryz.underlying86⟩
instance : TI Go.Proofs.Tryz.prog 86 (.nilFunc) 1 8 := ⟨by kernel_rfl⟩
instance : UL Go.Proofs.Tryz.prog 87 (.func #[3, 89] #[4] false) := ⟨Go.Proofs.Tryz.underlying87⟩
instance : TI Go.Proofs.Tryz.prog 87 (.nilFunc) 1 8 := ⟨by kernel_rfl⟩
instance : UL Go.Proofs.Tryz.prog 88 (.array 2 3) := ⟨Go.Proofs.Tryz.underlying88⟩
instance : TI Go.Proofs.Tryz.prog 88 (.agg #[.int .i64 0, .int .i64 0]) 2 16 := ⟨by kernel_rfl⟩
instance : UL Go.Proofs.Tryz.prog 89 (.array 2 3) := ⟨Go.Proofs.Tryz.underlying89⟩
instance : TI Go.Proofs.Tryz.prog 89 (.agg #[.int .i64 0, .int .i64 0]) 2 16 := ⟨by kernel_rfl⟩
instance : UL Go.Proofs.Tryz.prog 90 (.int .i64) := ⟨Go.Proofs.Tryz.underlying90⟩
instance : TI Go.Proofs.Tryz.prog 90 (.int .i64 0) 1 8 := ⟨by kernel_rfl⟩
instance : UL Go.Proofs.Tryz.prog 91 (.slice 5) := ⟨Go.Proofs.Tryz.underlying91⟩
instance : TI Go.Proofs.Tryz.prog 91 (.slice none 0 0) 1 24 := ⟨by kernel_rfl⟩
instance : TI Go.Proofs.Tryz.prog 92 (.tuple #[.int .i64 0, .nilIface]) 1 0 := ⟨by kernel_rfl⟩
instance : UL Go.Proofs.Tryz.prog 93 (.func #[9, 3, 3] #[2, 52] false) := ⟨Go.Proofs.Tryz.underlying93⟩
instance : TI Go.Proofs.Tryz.prog 93 (.nilFunc) 1 8 := ⟨by kernel_rfl⟩
instance : UL Go.Proofs.Tryz.prog 94 (.pointer 125) := ⟨Go.Proofs.Tryz.underlying94⟩
instance : TI Go.Proofs.Tryz.prog 94 (.pointer none) 1 8 := ⟨by kernel_rfl⟩
instance : UL Go.Proofs.Tryz.prog 95 (.func #[9, 9] #[94] false) := ⟨Go.Proofs.Tryz.underlying95⟩
instance : TI Go.Proofs.Tryz.prog 95 (.nilFunc) 1 8 := ⟨by kernel_rfl⟩
instance : UL Go.Proofs.Tryz.prog 96 (.func #[9, 9, 3] #[94] false) := ⟨Go.Proofs.Tryz.underlying96⟩
instance : TI Go.Proofs.Tryz.prog 96 (.nilFunc) 1 8 := ⟨by kernel_rfl⟩
instance : UL Go.Proofs.Tryz.prog 97 (.func #[] #[3, 4] false) := ⟨Go.Proofs.Tryz.underlying97⟩
instance : TI Go.Proofs.Tryz.prog 97 (.nilFunc) 1 8 := ⟨by kernel_rfl⟩
instance : UL Go.Proofs.Tryz.prog 98 (.func #[] #[3, 4] false) := ⟨Go.Proofs.Tryz.underlying98⟩
instance : TI Go.Proofs.Tryz.prog 98 (.nilFunc) 1 8 := ⟨by kernel_rfl⟩
instance : UL Go.Proofs.Tryz.prog 99 (.array 7 98) := ⟨Go.Proofs.Tryz.underlying99⟩
instance : TI Go.Proofs.Tryz.prog 99 (.agg #[.nilFunc, .nilFunc, .nilFunc, .nilFunc, .nilFunc, .nilFunc, .nilFunc]) 7 56 := ⟨by kernel_rfl⟩
instance : TI Go.Proofs.Tryz.prog 100 (.tuple #[.int .i64 0, .bool false]) 1 0 := ⟨by kernel_rfl⟩
instance : UL Go.Proofs.Tryz.prog 101 (.slice 155) := ⟨Go.Proofs.Tryz.underlying101⟩
instance : TI Go.Proofs.Tryz.prog 101 (.slice none 0 0) 1 24 := ⟨by kernel_rfl⟩
instance : UL Go.Proofs.Tryz.prog 102 (.slice 155) := ⟨Go.Proofs.Tryz.underlying102⟩
instance : TI Go.Proofs.Tryz.prog 102 (.slice none 0 0) 1 24 := ⟨by kernel_rfl⟩
instance : UL Go.Proofs.Tryz.prog 103 (.struct #[{ name := "magnitude", type := 102, offset := 0, embedded := true, tag := "", pkgPath := "verdigris/whole", byteOffset := 0 }, { name := "negative", type := 4, offset := 1, embedded := false, tag := "", pkgPath := "verdigris/whole", byteOffset := 24 }]) := ⟨Go.Proofs.Tryz.underlying103⟩
instance : TI Go.Proofs.Tryz.prog 103 (.agg #[.slice none 0 0, .bool false]) 2 32 := ⟨by kernel_rfl⟩
instance : UL Go.Proofs.Tryz.prog 104 (.struct #[{ name := "magnitude", type := 102, offset := 0, embedded := true, tag := "", pkgPath := "verdigris/whole", byteOffset := 0 }, { name := "negative", type := 4, offset := 1, embedded := false, tag := "", pkgPath := "verdigris/whole", byteOffset := 24 }]) := ⟨Go.Proofs.Tryz.underlying104⟩
instance : TI Go.Proofs.Tryz.prog 104 (.agg #[.slice none 0 0, .bool false]) 2 32 := ⟨by kernel_rfl⟩
instance : TI Go.Proofs.Tryz.prog 105 (.tuple #[.agg #[.slice none 0 0, .bool false], .agg #[.slice none 0 0, .bool false], .int .i64 0]) 1 0 := ⟨by kernel_rfl⟩
instance : UL Go.Proofs.Tryz.prog 106 (.func #[35, 35] #[104, 104, 36] false) := ⟨Go.Proofs.Tryz.underlying106⟩
instance : TI Go.Proofs.Tryz.prog 106 (.nilFunc) 1 8 := ⟨by kernel_rfl⟩
instance : UL Go.Proofs.Tryz.prog 107 (.func #[104, 104] #[104] false) := ⟨Go.Proofs.Tryz.underlying107⟩
instance : TI Go.Proofs.Tryz.prog 107 (.nilFunc) 1 8 := ⟨by kernel_rfl⟩
instance : UL Go.Proofs.Tryz.prog 108 (.func #[104] #[104] false) := ⟨Go.Proofs.Tryz.underlying108⟩
instance : TI Go.Proofs.Tryz.prog 108 (.nilFunc) 1 8 := ⟨by kernel_rfl⟩
instance : UL Go.Proofs.Tryz.prog 109 (.struct #[{ name := "run", type := 107, offset := 0, embedded := false, tag := "", pkgPath := "verdigris/whole", byteOffset := 0 }]) := ⟨Go.Proofs.Tryz.underlying109⟩
instance : TI Go.Proofs.Tryz.prog 109 (.agg #[.nilFunc]) 1 8 := ⟨by kernel_rfl⟩
instance : UL Go.Proofs.Tryz.prog 110 (.struct #[{ name := "run", type := 107, offset := 0, embedded := false, tag := "", pkgPath := "verdigris/whole", byteOffset := 0 }]) := ⟨Go.Proofs.Tryz.underlying110⟩
instance : TI Go.Proofs.Tryz.prog 110 (.agg #[.nilFunc]) 1 8 := ⟨by kernel_rfl⟩
instance : UL Go.Proofs.Tryz.prog 111 (.array 4 110) := ⟨Go.Proofs.Tryz.underlying111⟩
instance : TI Go.Proofs.Tryz.prog 111 (.agg #[.nilFunc, .nilFunc, .nilFunc, .nilFunc]) 4 32 := ⟨by kernel_rfl⟩
instance : UL Go.Proofs.Tryz.prog 112 (.func #[104] #[35, 36] false) := ⟨Go.Proofs.Tryz.underlying112⟩
instance : TI Go.Proofs.Tryz.prog 112 (.nilFunc) 1 8 := ⟨by kernel_rfl⟩
instance : UL Go.Proofs.Tryz.prog 113 (.func #[24, 3, 3, 3] #[3] false) := ⟨Go.Proofs.Tryz.underlying113⟩
instance : TI Go.Proofs.Tryz.prog 113 (.nilFunc) 1 8 := ⟨by kernel_rfl⟩
instance : UL Go.Proofs.Tryz.prog 114 (.slice 4) := ⟨Go.Proofs.Tryz.underlying114⟩
instance : TI Go.Proofs.Tryz.prog 114 (.slice none 0 0) 1 24 := ⟨by kernel_rfl⟩
instance : UL Go.Proofs.Tryz.prog 115 (.func #[82] #[9] false) := ⟨Go.Proofs.Tryz.underlying115⟩
instance : TI Go.Proofs.Tryz.prog 115 (.nilFunc) 1 8 := ⟨by kernel_rfl⟩
instance : UL Go.Proofs.Tryz.prog 116 (.func #[4, 80] #[82] false) := ⟨Go.Proofs.Tryz.underlying116⟩
instance : TI Go.Proofs.Tryz.prog 116 (.nilFunc) 1 8 := ⟨by kernel_rfl⟩
instance : UL Go.Proofs.Tryz.prog 117 (.func #[80, 80] #[80] false) := ⟨Go.Proofs.Tryz.underlying117⟩
instance : TI Go.Proofs.Tryz.prog 117 (.nilFunc) 1 8 := ⟨by kernel_rfl⟩
instance : UL Go.Proofs.Tryz.prog 118 (.func #[80, 80] #[3] false) := ⟨Go.Proofs.Tryz.underlying118⟩
instance : TI Go.Proofs.Tryz.prog 118 (.nilFunc) 1 8 := ⟨by kernel_rfl⟩
instance : UL Go.Proofs.Tryz.prog 119 (.int .u64) := ⟨Go.Proofs.Tryz.underlying119⟩
instance : TI Go.Proofs.Tryz.prog 119 (.int .u64 0) 1 8 := ⟨by kernel_rfl⟩
instance : TI Go.Proofs.Tryz.prog 120 (.tuple #[.int .u64 0, .nilIface]) 1 0 := ⟨by kernel_rfl⟩
instance : UL Go.Proofs.Tryz.prog 121 (.func #[9, 3, 3] #[119, 52] false) := ⟨Go.Proofs.Tryz.underlying121⟩
instance : TI Go.Proofs.Tryz.prog 121 (.nilFunc) 1 8 := ⟨by kernel_rfl⟩
instance : UL Go.Proofs.Tryz.prog 122 (.int .u64) := ⟨Go.Proofs.Tryz.underlying122⟩
instance : TI Go.Proofs.Tryz.prog 122 (.int .u64 0) 1 8 := ⟨by kernel_rfl⟩
instance : UL Go.Proofs.Tryz.prog 123 (.func #[9] #[9] false) := ⟨Go.Proofs.Tryz.underlying123⟩
instance : TI Go.Proofs.Tryz.prog 123 (.nilFunc) 1 8 := ⟨by kernel_rfl⟩
instance : UL Go.Proofs.Tryz.prog 124 (.struct #[{ name := "Func", type := 9, offset := 0, embedded := false, tag := "", pkgPath := "", byteOffset := 0 }, { name := "Num", type := 9, offset := 1, embedded := false, tag := "", pkgPath := "", byteOffset := 16 }, { name := "Err", type := 52, offset := 2, embedded := false, tag := "", pkgPath := "", byteOffset := 32 }]) := ⟨Go.Proofs.Tryz.underlying124⟩
instance : TI Go.Proofs.Tryz.prog 124 (.agg #[.string ⟨#[]⟩, .string ⟨#[]⟩, .nilIface]) 3 48 := ⟨by kernel_rfl⟩
instance : UL Go.Proofs.Tryz.prog 125 (.struct #[{ name := "Func", type := 9, offset := 0, embedded := false, tag := "", pkgPath := "", byteOffset := 0 }, { name := "Num", type := 9, offset := 1, embedded := false, tag := "", pkgPath := "", byteOffset := 16 }, { name := "Err", type := 52, offset := 2, embedded := false, tag := "", pkgPath := "", byteOffset := 32 }]) := ⟨Go.Proofs.Tryz.underlying125⟩
instance : TI Go.Proofs.Tryz.prog 125 (.agg #[.string ⟨#[]⟩, .string ⟨#[]⟩, .nilIface]) 3 48 := ⟨by kernel_rfl⟩
instance : UL Go.Proofs.Tryz.prog 126 (.func #[9] #[52] false) := ⟨Go.Proofs.Tryz.underlying126⟩
instance : TI Go.Proofs.Tryz.prog 126 (.nilFunc) 1 8 := ⟨by kernel_rfl⟩
instance : UL Go.Proofs.Tryz.prog 127 (.func #[] #[89] false) := ⟨Go.Proofs.Tryz.underlying127⟩
instance : TI Go.Proofs.Tryz.prog 127 (.nilFunc) 1 8 := ⟨by kernel_rfl⟩
instance : UL Go.Proofs.Tryz.prog 128 (.func #[114, 4] #[3] false) := ⟨Go.Proofs.Tryz.underlying128⟩
instance : TI Go.Proofs.Tryz.prog 128 (.nilFunc) 1 8 := ⟨by kernel_rfl⟩
instance : UL Go.Proofs.Tryz.prog 129 (.func #[2, 3] #[9] false) := ⟨Go.Proofs.Tryz.underlying129⟩
instance : TI Go.Proofs.Tryz.prog 129 (.nilFunc) 1 8 := ⟨by kernel_rfl⟩
instance : TI Go.Proofs.Tryz.prog 130 (.tuple #[.agg #[.slice none 0 0, .bool false], .bool false]) 1 0 := ⟨by kernel_rfl⟩
instance : UL Go.Proofs.Tryz.prog 131 (.func #[35] #[104, 4] false) := ⟨Go.Proofs.Tryz.underlying131⟩
instance : TI Go.Proofs.Tryz.prog 131 (.nilFunc) 1 8 := ⟨by kernel_rfl⟩
instance : UL Go.Proofs.Tryz.prog 132 (.func #[102, 4] #[104] false) := ⟨Go.Proofs.Tryz.underlying132⟩
instance : TI Go.Proofs.Tryz.prog 132 (.nilFunc) 1 8 := ⟨by kernel_rfl⟩
instance : UL Go.Proofs.Tryz.prog 133 (.func #[102] #[102] false) := ⟨Go.Proofs.Tryz.underlying133⟩
instance : TI Go.Proofs.Tryz.prog 133 (.nilFunc) 1 8 := ⟨by kernel_rfl⟩
instance : UL Go.Proofs.Tryz.prog 134 (.func #[102] #[3] false) := ⟨Go.Proofs.Tryz.underlying134⟩
instance : TI Go.Proofs.Tryz.prog 134 (.nilFunc) 1 8 := ⟨by kernel_rfl⟩
instance : UL Go.Proofs.Tryz.prog 135 (.func #[] #[104] false) := ⟨Go.Proofs.Tryz.underlying135⟩
instance : TI Go.Proofs.Tryz.prog 135 (.nilFunc) 1 8 := ⟨by kernel_rfl⟩
instance : UL Go.Proofs.Tryz.prog 136 (.func #[] #[3] false) := ⟨Go.Proofs.Tryz.underlying136⟩
instance : TI Go.Proofs.Tryz.prog 136 (.nilFunc) 1 8 := ⟨by kernel_rfl⟩
instance : UL Go.Proofs.Tryz.prog 137 (.func #[] #[9] false) := ⟨Go.Proofs.Tryz.underlying137⟩
instance : TI Go.Proofs.Tryz.prog 137 (.nilFunc) 1 8 := ⟨by kernel_rfl⟩
instance : UL Go.Proofs.Tryz.prog 138 (.func #[41] #[4] false) := ⟨Go.Proofs.Tryz.underlying138⟩
instance : TI Go.Proofs.Tryz.prog 138 (.nilFunc) 1 8 := ⟨by kernel_rfl⟩
instance : UL Go.Proofs.Tryz.prog 139 (.func #[24, 3] #[41] false) := ⟨Go.Proofs.Tryz.underlying139⟩
instance : TI Go.Proofs.Tryz.prog 139 (.nilFunc) 1 8 := ⟨by kernel_rfl⟩
instance : UL Go.Proofs.Tryz.prog 140 (.func #[80] #[80] false) := ⟨Go.Proofs.Tryz.underlying140⟩
instance : TI Go.Proofs.Tryz.prog 140 (.nilFunc) 1 8 := ⟨by kernel_rfl⟩
instance : UL Go.Proofs.Tryz.prog 141 (.func #[5] #[5] false) := ⟨Go.Proofs.Tryz.underlying141⟩
instance : TI Go.Proofs.Tryz.prog 141 (.nilFunc) 1 8 := ⟨by kernel_rfl⟩
instance : UL Go.Proofs.Tryz.prog 142 (.func #[9] #[4] false) := ⟨Go.Proofs.Tryz.underlying142⟩
instance : TI Go.Proofs.Tryz.prog 142 (.nilFunc) 1 8 := ⟨by kernel_rfl⟩
instance : UL Go.Proofs.Tryz.prog 143 (.pointer 5) := ⟨Go.Proofs.Tryz.underlying143⟩
instance : TI Go.Proofs.Tryz.prog 143 (.pointer none) 1 8 := ⟨by kernel_rfl⟩
instance : UL Go.Proofs.Tryz.prog 144 (.pointer 146) := ⟨Go.Proofs.Tryz.underlying144⟩
instance : TI Go.Proofs.Tryz.prog 144 (.pointer none) 1 8 := ⟨by kernel_rfl⟩
instance : UL Go.Proofs.Tryz.prog 145 (.struct #[{ name := "s", type := 9, offset := 0, embedded := false, tag := "", pkgPath := "errors", byteOffset := 0 }]) := ⟨Go.Proofs.Tryz.underlying145⟩
instance : TI Go.Proofs.Tryz.prog 145 (.agg #[.string ⟨#[]⟩]) 1 16 := ⟨by kernel_rfl⟩
instance : UL Go.Proofs.Tryz.prog 146 (.struct #[{ name := "s", type := 9, offset := 0, embedded := false, tag := "", pkgPath := "errors", byteOffset := 0 }]) := ⟨Go.Proofs.Tryz.underlying146⟩
instance : TI Go.Proofs.Tryz.prog 146 (.agg #[.string ⟨#[]⟩]) 1 16 := ⟨by kernel_rfl⟩
instance : UL Go.Proofs.Tryz.prog 147 (.array 24 5) := ⟨Go.Proofs.Tryz.underlying147⟩
instance : TI Go.Proofs.Tryz.prog 147 (.agg #[.int .u8 0, .int .u8 0, .int .u8 0, .int .u8 0, .int .u8 0, .int .u8 0, .int .u8 0, .int .u8 0, .int .u8 0, .int .u8 0, .int .u8 0, .int .u8 0, .int .u8 0, .int .u8 0, .int .u8 0, .int .u8 0, .int .u8 0, .int .u8 0, .int .u8 0, .int .u8 0, .int .u8 0, .int .u8 0, .int .u8 0, .int .u8 0]) 24 24 := ⟨by kernel_rfl⟩
instance : UL Go.Proofs.Tryz.prog 148 (.func #[119] #[3] false) := ⟨Go.Proofs.Tryz.underlying148⟩
instance : TI Go.Proofs.Tryz.prog 148 (.nilFunc) 1 8 := ⟨by kernel_rfl⟩
instance : UL Go.Proofs.Tryz.prog 149 (.func #[91, 119] #[] false) := ⟨Go.Proofs.Tryz.underlying149⟩
instance : TI Go.Proofs.Tryz.prog 149 (.nilFunc) 1 8 := ⟨by kernel_rfl⟩
instance : TI Go.Proofs.Tryz.prog 150 (.tuple #[.slice none 0 0, .string ⟨#[]⟩]) 1 0 := ⟨by kernel_rfl⟩
instance : UL Go.Proofs.Tryz.prog 151 (.func #[91, 119, 3, 4, 4] #[91, 9] false) := ⟨Go.Proofs.Tryz.underlying151⟩
instance : TI Go.Proofs.Tryz.prog 151 (.nilFunc) 1 8 := ⟨by kernel_rfl⟩
instance : TI Go.Proofs.Tryz.prog 152 (.tuple #[.string ⟨#[]⟩, .bool false]) 1 0 := ⟨by kernel_rfl⟩
instance : UL Go.Proofs.Tryz.prog 153 (.func #[9, 9] #[9, 4] false) := ⟨Go.Proofs.Tryz.underlying153⟩
instance : TI Go.Proofs.Tryz.prog 153 (.nilFunc) 1 8 := ⟨by kernel_rfl⟩
instance : UL Go.Proofs.Tryz.prog 154 (.func #[9] #[102] false) := ⟨Go.Proofs.Tryz.underlying154⟩
instance : TI Go.Proofs.Tryz.prog 154 (.nilFunc) 1 8 := ⟨by kernel_rfl⟩
instance : UL Go.Proofs.Tryz.prog 155 (.int .u32) := ⟨Go.Proofs.Tryz.underlying155⟩
instance : TI Go.Proofs.Tryz.prog 155 (.int .u32 0) 1 4 := ⟨by kernel_rfl⟩
instance : UL Go.Proofs.Tryz.prog 156 (.func #[3, 3] #[3] false) := ⟨Go.Proofs.Tryz.underlying156⟩
instance : TI Go.Proofs.Tryz.prog 156 (.nilFunc) 1 8 := ⟨by kernel_rfl⟩
instance : UL Go.Proofs.Tryz.prog 157 (.func #[155, 155] #[3] false) := ⟨Go.Proofs.Tryz.underlying157⟩
instance : TI Go.Proofs.Tryz.prog 157 (.nilFunc) 1 8 := ⟨by kernel_rfl⟩
instance : UL Go.Proofs.Tryz.prog 158 (.func #[] #[102] false) := ⟨Go.Proofs.Tryz.underlying158⟩
instance : TI Go.Proofs.Tryz.prog 158 (.nilFunc) 1 8 := ⟨by kernel_rfl⟩
instance : UL Go.Proofs.Tryz.prog 159 (.func #[] #[119] false) := ⟨Go.Proofs.Tryz.underlying159⟩
instance : TI Go.Proofs.Tryz.prog 159 (.nilFunc) 1 8 := ⟨by kernel_rfl⟩
instance : UL Go.Proofs.Tryz.prog 160 (.func #[119] #[102] false) := ⟨Go.Proofs.Tryz.underlying160⟩
instance : TI Go.Proofs.Tryz.prog 160 (.nilFunc) 1 8 := ⟨by kernel_rfl⟩
instance : TI Go.Proofs.Tryz.prog 161 (.tuple #[.slice none 0 0, .slice none 0 0]) 1 0 := ⟨by kernel_rfl⟩
instance : UL Go.Proofs.Tryz.prog 162 (.func #[102] #[102, 102] false) := ⟨Go.Proofs.Tryz.underlying162⟩
instance : TI Go.Proofs.Tryz.prog 162 (.nilFunc) 1 8 := ⟨by kernel_rfl⟩
instance : UL Go.Proofs.Tryz.prog 163 (.pointer 165) := ⟨Go.Proofs.Tryz.underlying163⟩
instance : TI Go.Proofs.Tryz.prog 163 (.pointer none) 1 8 := ⟨by kernel_rfl⟩
instance : UL Go.Proofs.Tryz.prog 164 (.struct #[{ name := "addr", type := 163, offset := 0, embedded := false, tag := "", pkgPath := "strings", byteOffset := 0 }, { name := "buf", type := 91, offset := 1, embedded := false, tag := "", pkgPath := "strings", byteOffset := 8 }]) := ⟨Go.Proofs.Tryz.underlying164⟩
instance : TI Go.Proofs.Tryz.prog 164 (.agg #[.pointer none, .slice none 0 0]) 2 32 := ⟨by kernel_rfl⟩
instance : UL Go.Proofs.Tryz.prog 165 (.struct #[{ name := "addr", type := 163, offset := 0, embedded := false, tag := "", pkgPath := "strings", byteOffset := 0 }, { name := "buf", type := 91, offset := 1, embedded := false, tag := "", pkgPath := "strings", byteOffset := 8 }]) := ⟨Go.Proofs.Tryz.underlying165⟩
instance : TI Go.Proofs.Tryz.prog 165 (.agg #[.pointer none, .slice none 0 0]) 2 32 := ⟨by kernel_rfl⟩
instance : UL Go.Proofs.Tryz.prog 166 (.func #[5] #[52] false) := ⟨Go.Proofs.Tryz.underlying166⟩
instance : TI Go.Proofs.Tryz.prog 166 (.nilFunc) 1 8 := ⟨by kernel_rfl⟩
instance : UL Go.Proofs.Tryz.prog 167 (.func #[155, 3] #[] false) := ⟨Go.Proofs.Tryz.underlying167⟩
instance : TI Go.Proofs.Tryz.prog 167 (.nilFunc) 1 8 := ⟨by kernel_rfl⟩
instance : UL Go.Proofs.Tryz.prog 168 (.func #[3] #[3] false) := ⟨Go.Proofs.Tryz.underlying168⟩
instance : TI Go.Proofs.Tryz.prog 168 (.nilFunc) 1 8 := ⟨by kernel_rfl⟩
instance : UL Go.Proofs.Tryz.prog 169 (.func #[4] #[3] false) := ⟨Go.Proofs.Tryz.underlying169⟩
instance : TI Go.Proofs.Tryz.prog 169 (.nilFunc) 1 8 := ⟨by kernel_rfl⟩
instance : UL Go.Proofs.Tryz.prog 170 (.array 20 119) := ⟨Go.Proofs.Tryz.underlying170⟩
instance : TI Go.Proofs.Tryz.prog 170 (.agg #[.int .u64 0, .int .u64 0, .int .u64 0, .int .u64 0, .int .u64 0, .int .u64 0, .int .u64 0, .int .u64 0, .int .u64 0, .int .u64 0, .int .u64 0, .int .u64 0, .int .u64 0, .int .u64 0, .int .u64 0, .int .u64 0, .int .u64 0, .int .u64 0, .int .u64 0, .int .u64 0]) 20 160 := ⟨by kernel_rfl⟩
instance : UL Go.Proofs.Tryz.prog 171 (.array 65 5) := ⟨Go.Proofs.Tryz.underlying171⟩
instance : UL Go.Proofs.Tryz.prog 172 (.func #[3] #[4] false) := ⟨Go.Proofs.Tryz.underlying172⟩
instance : TI Go.Proofs.Tryz.prog 172 (.nilFunc) 1 8 := ⟨by kernel_rfl⟩
instance : UL Go.Proofs.Tryz.prog 173 (.func #[122] #[3] false) := ⟨Go.Proofs.Tryz.underlying173⟩
instance : TI Go.Proofs.Tryz.prog 173 (.nilFunc) 1 8 := ⟨by kernel_rfl⟩
instance : UL Go.Proofs.Tryz.prog 174 (.func #[155] #[4] false) := ⟨Go.Proofs.Tryz.underlying174⟩
instance : TI Go.Proofs.Tryz.prog 174 (.nilFunc) 1 8 := ⟨by kernel_rfl⟩
instance : TI Go.Proofs.Tryz.prog 175 (.tuple #[.slice none 0 0, .int .u32 0]) 1 0 := ⟨by kernel_rfl⟩
instance : UL Go.Proofs.Tryz.prog 176 (.func #[155] #[102, 155] false) := ⟨Go.Proofs.Tryz.underlying176⟩
instance : TI Go.Proofs.Tryz.prog 176 (.nilFunc) 1 8 := ⟨by kernel_rfl⟩
instance : UL Go.Proofs.Tryz.prog 177 (.func #[102, 102] #[155] false) := ⟨Go.Proofs.Tryz.underlying177⟩
instance : TI Go.Proofs.Tryz.prog 177 (.nilFunc) 1 8 := ⟨by kernel_rfl⟩
instance : UL Go.Proofs.Tryz.prog 178 (.func #[155] #[3] false) := ⟨Go.Proofs.Tryz.underlying178⟩
instance : TI Go.Proofs.Tryz.prog 178 (.nilFunc) 1 8 := ⟨by kernel_rfl⟩
instance : UL Go.Proofs.Tryz.prog 179 (.func #[9, 9] #[4] false) := ⟨Go.Proofs.Tryz.underlying179⟩
instance : TI Go.Proofs.Tryz.prog 179 (.nilFunc) 1 8 := ⟨by kernel_rfl⟩
instance : UL Go.Proofs.Tryz.prog 180 (.unsafePointer) := ⟨Go.Proofs.Tryz.underlying180⟩
instance : TI Go.Proofs.Tryz.prog 180 (.pointer none) 1 8 := ⟨by kernel_rfl⟩
instance : UL Go.Proofs.Tryz.prog 181 (.func #[180] #[180] false) := ⟨Go.Proofs.Tryz.underlying181⟩
instance : TI Go.Proofs.Tryz.prog 181 (.nilFunc) 1 8 := ⟨by kernel_rfl⟩
instance : UL Go.Proofs.Tryz.prog 182 (.array 32 5) := ⟨Go.Proofs.Tryz.underlying182⟩
instance : TI Go.Proofs.Tryz.prog 182 (.agg #[.int .u8 0, .int .u8 0, .int .u8 0, .int .u8 0, .int .u8 0, .int .u8 0, .int .u8 0, .int .u8 0, .int .u8 0, .int .u8 0, .int .u8 0, .int .u8 0, .int .u8 0, .int .u8 0, .int .u8 0, .int .u8 0, .int .u8 0, .int .u8 0, .int .u8 0, .int .u8 0, .int .u8 0, .int .u8 0, .int .u8 0, .int .u8 0, .int .u8 0, .int .u8 0, .int .u8 0, .int .u8 0, .int .u8 0, .int .u8 0, .int .u8 0, .int .u8 0]) 32 32 := ⟨by kernel_rfl⟩
instance : UL Go.Proofs.Tryz.prog 183 (.array 64 5) := ⟨Go.Proofs.Tryz.underlying183⟩
instance : TI Go.Proofs.Tryz.prog 183 (.agg #[.int .u8 0, .int .u8 0, .int .u8 0, .int .u8 0, .int .u8 0, .int .u8 0, .int .u8 0, .int .u8 0, .int .u8 0, .int .u8 0, .int .u8 0, .int .u8 0, .int .u8 0, .int .u8 0, .int .u8 0, .int .u8 0, .int .u8 0, .int .u8 0, .int .u8 0, .int .u8 0, .int .u8 0, .int .u8 0, .int .u8 0, .int .u8 0, .int .u8 0, .int .u8 0, .int .u8 0, .int .u8 0, .int .u8 0, .int .u8 0, .int .u8 0, .int .u8 0, .int .u8 0, .int .u8 0, .int .u8 0, .int .u8 0, .int .u8 0, .int .u8 0, .int .u8 0, .int .u8 0, .int .u8 0, .int .u8 0, .int .u8 0, .int .u8 0, .int .u8 0, .int .u8 0, .int .u8 0, .int .u8 0, .int .u8 0, .int .u8 0, .int .u8 0, .int .u8 0, .int .u8 0, .int .u8 0, .int .u8 0, .int .u8 0, .int .u8 0, .int .u8 0, .int .u8 0, .int .u8 0, .int .u8 0, .int .u8 0, .int .u8 0, .int .u8 0]) 64 64 := ⟨by kernel_rfl⟩
instance : UL Go.Proofs.Tryz.prog 184 (.struct #[{ name := "_interface", type := 17, offset := 0, embedded := false, tag := "", pkgPath := "runtime", byteOffset := 0 }, { name := "concrete", type := 17, offset := 1, embedded := false, tag := "", pkgPath := "runtime", byteOffset := 8 }, { name := "asserted", type := 17, offset := 2, embedded := false, tag := "", pkgPath := "runtime", byteOffset := 16 }, { name := "missingMethod", type := 9, offset := 3, embedded := false, tag := "", pkgPath := "runtime", byteOffset := 24 }]) := ⟨Go.Proofs.Tryz.underlying184⟩
instance : TI Go.Proofs.Tryz.prog 184 (.agg #[.pointer none, .pointer none, .pointer none, .string ⟨#[]⟩]) 4 40 := ⟨by kernel_rfl⟩
instance : UL Go.Proofs.Tryz.prog 185 (.struct #[{ name := "_interface", type := 17, offset := 0, embedded := false, tag := "", pkgPath := "runtime", byteOffset := 0 }, { name := "concrete", type := 17, offset := 1, embedded := false, tag := "", pkgPath := "runtime", byteOffset := 8 }, { name := "asserted", type := 17, offset := 2, embedded := false, tag := "", pkgPath := "runtime", byteOffset := 16 }, { name := "missingMethod", type := 9, offset := 3, embedded := false, tag := "", pkgPath := "runtime", byteOffset := 24 }]) := ⟨Go.Proofs.Tryz.underlying185⟩
instance : TI Go.Proofs.Tryz.prog 185 (.agg #[.pointer none, .pointer none, .pointer none, .string ⟨#[]⟩]) 4 40 := ⟨by kernel_rfl⟩
instance : UL Go.Proofs.Tryz.prog 186 (.array 0 16) := ⟨Go.Proofs.Tryz.underlying186⟩
instance : TI Go.Proofs.Tryz.prog 186 (.agg #[]) 0 0 := ⟨by kernel_rfl⟩
instance : UL Go.Proofs.Tryz.prog 187 (.struct #[{ name := "_", type := 186, offset := 0, embedded := false, tag := "", pkgPath := "runtime", byteOffset := 0 }]) := ⟨Go.Proofs.Tryz.underlying187⟩
instance : TI Go.Proofs.Tryz.prog 187 (.agg #[]) 0 0 := ⟨by kernel_rfl⟩
instance : UL Go.Proofs.Tryz.prog 188 (.struct #[{ name := "_", type := 186, offset := 0, embedded := false, tag := "", pkgPath := "runtime", byteOffset := 0 }]) := ⟨Go.Proofs.Tryz.underlying188⟩
instance : TI Go.Proofs.Tryz.prog 188 (.agg #[]) 0 0 := ⟨by kernel_rfl⟩
instance : UL Go.Proofs.Tryz.prog 189 (.int .u8) := ⟨Go.Proofs.Tryz.underlying189⟩
instance : TI Go.Proofs.Tryz.prog 189 (.int .u8 0) 1 1 := ⟨by kernel_rfl⟩
instance : UL Go.Proofs.Tryz.prog 190 (.int .u8) := ⟨Go.Proofs.Tryz.underlying190⟩
instance : TI Go.Proofs.Tryz.prog 190 (.int .u8 0) 1 1 := ⟨by kernel_rfl⟩
instance : UL Go.Proofs.Tryz.prog 191 (.func #[180, 180] #[4] false) := ⟨Go.Proofs.Tryz.underlying191⟩
instance : TI Go.Proofs.Tryz.prog 191 (.nilFunc) 1 8 := ⟨by kernel_rfl⟩
instance : UL Go.Proofs.Tryz.prog 192 (.int .i32) := ⟨Go.Proofs.Tryz.underlying192⟩
instance : TI Go.Proofs.Tryz.prog 192 (.int .i32 0) 1 4 := ⟨by kernel_rfl⟩
instance : UL Go.Proofs.Tryz.prog 193 (.int .i32) := ⟨Go.Proofs.Tryz.underlying193⟩
instance : TI Go.Proofs.Tryz.prog 193 (.int .i32 0) 1 4 := ⟨by kernel_rfl⟩
instance : UL Go.Proofs.Tryz.prog 194 (.struct #[{ name := "Size_", type := 12, offset := 0, embedded := false, tag := "", pkgPath := "", byteOffset := 0 }, { name := "PtrBytes", type := 12, offset := 1, embedded := false, tag := "", pkgPath := "", byteOffset := 8 }, { name := "Hash", type := 155, offset := 2, embedded := false, tag := "", pkgPath := "", byteOffset := 16 }, { name := "TFlag", type := 189, offset := 3, embedded := false, tag := "", pkgPath := "", byteOffset := 20 }, { name := "Align_", type := 5, offset := 4, embedded := false, tag := "", pkgPath := "", byteOffset := 21 }, { name := "FieldAlign_", type := 5, offset := 5, embedded := false, tag := "", pkgPath := "", byteOffset := 22 }, { name := "Kind_", type := 190, offset := 6, embedded := false, tag := "", pkgPath := "", byteOffset := 23 }, { name := "Equal", type := 191, offset := 7, embedded := false, tag := "", pkgPath := "", byteOffset := 24 }, { name := "GCData", type := 143, offset := 8, embedded := false, tag := "", pkgPath := "", byteOffset := 32 }, { name := "Str", type := 192, offset := 9, embedded := false, tag := "", pkgPath := "", byteOffset := 40 }, { name := "PtrToThis", type := 193, offset := 10, embedded := false, tag := "", pkgPath := "", byteOffset := 44 }]) := ⟨Go.Proofs.Tryz.underlying194⟩
instance : TI Go.Proofs.Tryz.prog 194 (.agg #[.int .u64 0, .int .u64 0, .int .u32 0, .int .u8 0, .int .u8 0, .int .u8 0, .int .u8 0, .nilFunc, .pointer none, .int .i32 0, .int .i32 0]) 11 48 := ⟨by kernel_rfl⟩
instance : UL Go.Proofs.Tryz.prog 195 (.struct #[{ name := "Size_", type := 12, offset := 0, embedded := false, tag := "", pkgPath := "", byteOffset := 0 }, { name := "PtrBytes", type := 12, offset := 1, embedded := false, tag := "", pkgPath := "", byteOffset := 8 }, { name := "Hash", type := 155, offset := 2, embedded := false, tag := "", pkgPath := "", byteOffset := 16 }, { name := "TFlag", type := 189, offset := 3, embedded := false, tag := "", pkgPath := "", byteOffset := 20 }, { name := "Align_", type := 5, offset := 4, embedded := false, tag := "", pkgPath := "", byteOffset := 21 }, { name := "FieldAlign_", type := 5, offset := 5, embedded := false, tag := "", pkgPath := "", byteOffset := 22 }, { name := "Kind_", type := 190, offset := 6, embedded := false, tag := "", pkgPath := "", byteOffset := 23 }, { name := "Equal", type := 191, offset := 7, embedded := false, tag := "", pkgPath := "", byteOffset := 24 }, { name := "GCData", type := 143, offset := 8, embedded := false, tag := "", pkgPath := "", byteOffset := 32 }, { name := "Str", type := 192, offset := 9, embedded := false, tag := "", pkgPath := "", byteOffset := 40 }, { name := "PtrToThis", type := 193, offset := 10, embedded := false, tag := "", pkgPath := "", byteOffset := 44 }]) := ⟨Go.Proofs.Tryz.underlying195⟩
instance : TI Go.Proofs.Tryz.prog 195 (.agg #[.int .u64 0, .int .u64 0, .int .u32 0, .int .u8 0, .int .u8 0, .int .u8 0, .int .u8 0, .nilFunc, .pointer none, .int .i32 0, .int .i32 0]) 11 48 := ⟨by kernel_rfl⟩
instance : FO Go.Proofs.Tryz.prog 7 0 0 1 := ⟨_, _, Go.Proofs.Tryz.underlying7, rfl, rfl, (by obtain ⟨i, h1, _, h2, _⟩ := (inferInstance : TI Go.Proofs.Tryz.prog 2 _ _ _).info; exact ⟨i, h1, h2⟩), by decide⟩
instance : FO Go.Proofs.Tryz.prog 7 1 1 1 := ⟨_, _, Go.Proofs.Tryz.underlying7, rfl, rfl, (by obtain ⟨i, h1, _, h2, _⟩ := (inferInstance : TI Go.Proofs.Tryz.prog 3 _ _ _).info; exact ⟨i, h1, h2⟩), by decide⟩
instance : FO Go.Proofs.Tryz.prog 7 2 2 1 := ⟨_, _, Go.Proofs.Tryz.underlying7, rfl, rfl, (by obtain ⟨i, h1, _, h2, _⟩ := (inferInstance : TI Go.Proofs.Tryz.prog 4 _ _ _).info; exact ⟨i, h1, h2⟩), by decide⟩
instance : FO Go.Proofs.Tryz.prog 7 3 3 1 := ⟨_, _, Go.Proofs.Tryz.underlying7, rfl, rfl, (by obtain ⟨i, h1, _, h2, _⟩ := (inferInstance : TI Go.Proofs.Tryz.prog 6 _ _ _).info; exact ⟨i, h1, h2⟩), by decide⟩
instance : FO Go.Proofs.Tryz.prog 8 0 0 1 := ⟨_, _, Go.Proofs.Tryz.underlying8, rfl, rfl, (by obtain ⟨i, h1, _, h2, _⟩ := (inferInstance : TI Go.Proofs.Tryz.prog 2 _ _ _).info; exact ⟨i, h1, h2⟩), by decide⟩
instance : FO Go.Proofs.Tryz.prog 8 1 1 1 := ⟨_, _, Go.Proofs.Tryz.underlying8, rfl, rfl, (by obtain ⟨i, h1, _, h2, _⟩ := (inferInstance : TI Go.Proofs.Tryz.prog 3 _ _ _).info; exact ⟨i, h1, h2⟩), by decide⟩
instance : FO Go.Proofs.Tryz.prog 8 2 2 1 := ⟨_, _, Go.Proofs.Tryz.underlying8, rfl, rfl, (by obtain ⟨i, h1, _, h2, _⟩ := (inferInstance : TI Go.Proofs.Tryz.prog 4 _ _ _).info; exact ⟨i, h1, h2⟩), by decide⟩
instance : FO Go.Proofs.Tryz.prog 8 3 3 1 := ⟨_, _, Go.Proofs.Tryz.underlying8, rfl, rfl, (by obtain ⟨i, h1, _, h2, _⟩ := (inferInstance : TI Go.Proofs.Tryz.prog 6 _ _ _).info; exact ⟨i, h1, h2⟩), by decide⟩
instance : FO Go.Proofs.Tryz.prog 13 0 0 1 := ⟨_, _, Go.Proofs.Tryz.underlying13, rfl, rfl, (by obtain ⟨i, h1, _, h2, _⟩ := (inferInstance : TI Go.Proofs.Tryz.prog 9 _ _ _).info; exact ⟨i, h1, h2⟩), by decide⟩
instance : FO Go.Proofs.Tryz.prog 13 1 1 1 := ⟨_, _, Go.Proofs.Tryz.underlying13, rfl, rfl, (by obtain ⟨i, h1, _, h2, _⟩ := (inferInstance : TI Go.Proofs.Tryz.prog 12 _ _ _).info; exact ⟨i, h1, h2⟩), by decide⟩
instance : FO Go.Proofs.Tryz.prog 14 0 0 1 := ⟨_, _, Go.Proofs.Tryz.underlying14, rfl, rfl, (by obtain ⟨i, h1, _, h2, _⟩ := (inferInstance : TI Go.Proofs.Tryz.prog 9 _ _ _).info; exact ⟨i, h1, h2⟩), by decide⟩
instance : FO Go.Proofs.Tryz.prog 14 1 1 1 := ⟨_, _, Go.Proofs.Tryz.underlying14, rfl, rfl, (by obtain ⟨i, h1, _, h2, _⟩ := (inferInstance : TI Go.Proofs.Tryz.prog 12 _ _ _).info; exact ⟨i, h1, h2⟩), by decide⟩
instance : FO Go.Proofs.Tryz.prog 18 0 0 1 := ⟨_, _, Go.Proofs.Tryz.underlying18, rfl, rfl, (by obtain ⟨i, h1, _, h2, _⟩ := (inferInstance : TI Go.Proofs.Tryz.prog 17 _ _ _).info; exact ⟨i, h1, h2⟩), by decide⟩
instance : FO Go.Proofs.Tryz.prog 19 0 0 1 := ⟨_, _, Go.Proofs.Tryz.underlying19, rfl, rfl, (by obtain ⟨i, h1, _, h2, _⟩ := (inferInstance : TI Go.Proofs.Tryz.prog 17 _ _ _).info; exact ⟨i, h1, h2⟩), by decide⟩
instance : FO Go.Proofs.Tryz.prog 23 0 0 1 := ⟨_, _, Go.Proofs.Tryz.underlying23, rfl, rfl, (by obtain ⟨i, h1, _, h2, _⟩ := (inferInstance : TI Go.Proofs.Tryz.prog 22 _ _ _).info; exact ⟨i, h1, h2⟩), by decide⟩
instance : FO Go.Proofs.Tryz.prog 23 1 1 1 := ⟨_, _, Go.Proofs.Tryz.underlying23, rfl, rfl, (by obtain ⟨i, h1, _, h2, _⟩ := (inferInstance : TI Go.Proofs.Tryz.prog 22 _ _ _).info; exact ⟨i, h1, h2⟩), by decide⟩
instance : FO Go.Proofs.Tryz.prog 24 0 0 1 := ⟨_, _, Go.Proofs.Tryz.underlying24, rfl, rfl, (by obtain ⟨i, h1, _, h2, _⟩ := (inferInstance : TI Go.Proofs.Tryz.prog 22 _ _ _).info; exact ⟨i, h1, h2⟩), by decide⟩
instance : FO Go.Proofs.Tryz.prog 24 1 1 1 := ⟨_, _, Go.Proofs.Tryz.underlying24, rfl, rfl, (by obtain ⟨i, h1, _, h2, _⟩ := (inferInstance : TI Go.Proofs.Tryz.prog 22 _ _ _).info; exact ⟨i, h1, h2⟩), by decide⟩
instance : FO Go.Proofs.Tryz.prog 28 0 0 1 := ⟨_, _, Go.Proofs.Tryz.underlying28, rfl, rfl, (by obtain ⟨i, h1, _, h2, _⟩ := (inferInstance : TI Go.Proofs.Tryz.prog 5 _ _ _).info; exact ⟨i, h1, h2⟩), by decide⟩
instance : FO Go.Proofs.Tryz.prog 28 1 1 1 := ⟨_, _, Go.Proofs.Tryz.underlying28, rfl, rfl, (by obtain ⟨i, h1, _, h2, _⟩ := (inferInstance : TI Go.Proofs.Tryz.prog 5 _ _ _).info; exact ⟨i, h1, h2⟩), by decide⟩
instance : FO Go.Proofs.Tryz.prog 28 2 2 3 := ⟨_, _, Go.Proofs.Tryz.underlying28, rfl, rfl, (by obtain ⟨i, h1, _, h2, _⟩ := (inferInstance : TI Go.Proofs.Tryz.prog 26 _ _ _).info; exact ⟨i, h1, h2⟩), by decide⟩
instance : FO Go.Proofs.Tryz.prog 28 3 5 1 := ⟨_, _, Go.Proofs.Tryz.underlying28, rfl, rfl, (by obtain ⟨i, h1, _, h2, _⟩ := (inferInstance : TI Go.Proofs.Tryz.prog 27 _ _ _).info; exact ⟨i, h1, h2⟩), by decide⟩
instance : FO Go.Proofs.Tryz.prog 28 4 6 1 := ⟨_, _, Go.Proofs.Tryz.underlying28, rfl, rfl, (by obtain ⟨i, h1, _, h2, _⟩ := (inferInstance : TI Go.Proofs.Tryz.prog 4 _ _ _).info; exact ⟨i, h1, h2⟩), by decide⟩
instance : FO Go.Proofs.Tryz.prog 29 0 0 1 := ⟨_, _, Go.Proofs.Tryz.underlying29, rfl, rfl, (by obtain ⟨i, h1, _, h2, _⟩ := (inferInstance : TI Go.Proofs.Tryz.prog 5 _ _ _).info; exact ⟨i, h1, h2⟩), by decide⟩
instance : FO Go.Proofs.Tryz.prog 29 1 1 1 := ⟨_, _, Go.Proofs.Tryz.underlying29, rfl, rfl, (by obtain ⟨i, h1, _, h2, _⟩ := (inferInstance : TI Go.Proofs.Tryz.prog 5 _ _ _).info; exact ⟨i, h1, h2⟩), by decide⟩
instance : FO Go.Proofs.Tryz.prog 29 2 2 3 := ⟨_, _, Go.Proofs.Tryz.underlying29, rfl, rfl, (by obtain ⟨i, h1, _, h2, _⟩ := (inferInstance : TI Go.Proofs.Tryz.prog 26 _ _ _).info; exact ⟨i, h1, h2⟩), by decide⟩
instance : FO Go.Proofs.Tryz.prog 29 3 5 1 := ⟨_, _, Go.Proofs.Tryz.underlying29, rfl, rfl, (by obtain ⟨i, h1, _, h2, _⟩ := (inferInstance : TI Go.Proofs.Tryz.prog 27 _ _ _).info; exact ⟨i, h1, h2⟩), by decide⟩
instance : FO Go.Proofs.Tryz.prog 29 4 6 1 := ⟨_, _, Go.Proofs.Tryz.underlying29, rfl, rfl, (by obtain ⟨i, h1, _, h2, _⟩ := (inferInstance : TI Go.Proofs.Tryz.prog 4 _ _ _).info; exact ⟨i, h1, h2⟩), by decide⟩
instance : FO Go.Proofs.Tryz.prog 30 0 0 1 := ⟨_, _, Go.Proofs.Tryz.underlying30, rfl, rfl, (by obtain ⟨i, h1, _, h2, _⟩ := (inferInstance : TI Go.Proofs.Tryz.prog 5 _ _ _).info; exact ⟨i, h1, h2⟩), by decide⟩
instance : FO Go.Proofs.Tryz.prog 30 1 1 1 := ⟨_, _, Go.Proofs.Tryz.underlying30, rfl, rfl, (by obtain ⟨i, h1, _, h2, _⟩ := (inferInstance : TI Go.Proofs.Tryz.prog 5 _ _ _).info; exact ⟨i, h1, h2⟩), by decide⟩
instance : FO Go.Proofs.Tryz.prog 30 2 2 1 := ⟨_, _, Go.Proofs.Tryz.underlying30, rfl, rfl, (by obtain ⟨i, h1, _, h2, _⟩ := (inferInstance : TI Go.Proofs.Tryz.prog 5 _ _ _).info; exact ⟨i, h1, h2⟩), by decide⟩
instance : FO Go.Proofs.Tryz.prog 30 3 3 1 := ⟨_, _, Go.Proofs.Tryz.underlying30, rfl, rfl, (by obtain ⟨i, h1, _, h2, _⟩ := (inferInstance : TI Go.Proofs.Tryz.prog 3 _ _ _).info; exact ⟨i, h1, h2⟩), by decide⟩
instance : FO Go.Proofs.Tryz.prog 31 0 0 1 := ⟨_, _, Go.Proofs.Tryz.underlying31, rfl, rfl, (by obtain ⟨i, h1, _, h2, _⟩ := (inferInstance : TI Go.Proofs.Tryz.prog 5 _ _ _).info; exact ⟨i, h1, h2⟩), by decide⟩
instance : FO Go.Proofs.Tryz.prog 31 1 1 1 := ⟨_, _, Go.Proofs.Tryz.underlying31, rfl, rfl, (by obtain ⟨i, h1, _, h2, _⟩ := (inferInstance : TI Go.Proofs.Tryz.prog 5 _ _ _).info; exact ⟨i, h1, h2⟩), by decide⟩
instance : FO Go.Proofs.Tryz.prog 31 2 2 1 := ⟨_, _, Go.Proofs.Tryz.underlying31, rfl, rfl, (by obtain ⟨i, h1, _, h2, _⟩ := (inferInstance : TI Go.Proofs.Tryz.prog 5 _ _ _).info; exact ⟨i, h1, h2⟩), by decide⟩
instance : FO Go.Proofs.Tryz.prog 31 3 3 1 := ⟨_, _, Go.Proofs.Tryz.underlying31, rfl, rfl, (by obtain ⟨i, h1, _, h2, _⟩ := (inferInstance : TI Go.Proofs.Tryz.prog 3 _ _ _).info; exact ⟨i, h1, h2⟩), by decide⟩
instance : FO Go.Proofs.Tryz.prog 65 0 0 2 := ⟨_, _, Go.Proofs.Tryz.underlying65, rfl, rfl, (by obtain ⟨i, h1, _, h2, _⟩ := (inferInstance : TI Go.Proofs.Tryz.prog 24 _ _ _).info; exact ⟨i, h1, h2⟩), by decide⟩
instance : FO Go.Proofs.Tryz.prog 65 1 2 1 := ⟨_, _, Go.Proofs.Tryz.underlying65, rfl, rfl, (by obtain ⟨i, h1, _, h2, _⟩ := (inferInstance : TI Go.Proofs.Tryz.prog 64 _ _ _).info; exact ⟨i, h1, h2⟩), by decide⟩
instance : FO Go.Proofs.Tryz.prog 66 0 0 2 := ⟨_, _, Go.Proofs.Tryz.underlying66, rfl, rfl, (by obtain ⟨i, h1, _, h2, _⟩ := (inferInstance : TI Go.Proofs.Tryz.prog 24 _ _ _).info; exact ⟨i, h1, h2⟩), by decide⟩
instance : FO Go.Proofs.Tryz.prog 66 1 2 1 := ⟨_, _, Go.Proofs.Tryz.underlying66, rfl, rfl, (by obtain ⟨i, h1, _, h2, _⟩ := (inferInstance : TI Go.Proofs.Tryz.prog 64 _ _ _).info; exact ⟨i, h1, h2⟩), by decide⟩
instance : FO Go.Proofs.Tryz.prog 81 0 0 1 := ⟨_, _, Go.Proofs.Tryz.underlying81, rfl, rfl, (by obtain ⟨i, h1, _, h2, _⟩ := (inferInstance : TI Go.Proofs.Tryz.prog 4 _ _ _).info; exact ⟨i, h1, h2⟩), by decide⟩
instance : FO Go.Proofs.Tryz.prog 81 1 1 1 := ⟨_, _, Go.Proofs.Tryz.underlying81, rfl, rfl, (by obtain ⟨i, h1, _, h2, _⟩ := (inferInstance : TI Go.Proofs.Tryz.prog 80 _ _ _).info; exact ⟨i, h1, h2⟩), by decide⟩
instance : FO Go.Proofs.Tryz.prog 82 0 0 1 := ⟨_, _, Go.Proofs.Tryz.underlying82, rfl, rfl, (by obtain ⟨i, h1, _, h2, _⟩ := (inferInstance : TI Go.Proofs.Tryz.prog 4 _ _ _).info; exact ⟨i, h1, h2⟩), by decide⟩
instance : FO Go.Proofs.Tryz.prog 82 1 1 1 := ⟨_, _, Go.Proofs.Tryz.underlying82, rfl, rfl, (by obtain ⟨i, h1, _, h2, _⟩ := (inferInstance : TI Go.Proofs.Tryz.prog 80 _ _ _).info; exact ⟨i, h1, h2⟩), by decide⟩
instance : FO Go.Proofs.Tryz.prog 103 0 0 1 := ⟨_, _, Go.Proofs.Tryz.underlying103, rfl, rfl, (by obtain ⟨i, h1, _, h2, _⟩ := (inferInstance : TI Go.Proofs.Tryz.prog 102 _ _ _).info; exact ⟨i, h1, h2⟩), by decide⟩
instance : FO Go.Proofs.Tryz.prog 103 1 1 1 := ⟨_, _, Go.Proofs.Tryz.underlying103, rfl, rfl, (by obtain ⟨i, h1, _, h2, _⟩ := (inferInstance : TI Go.Proofs.Tryz.prog 4 _ _ _).info; exact ⟨i, h1, h2⟩), by decide⟩
instance : FO Go.Proofs.Tryz.prog 104 0 0 1 := ⟨_, _, Go.Proofs.Tryz.underlying104, rfl, rfl, (by obtain ⟨i, h1, _, h2, _⟩ := (inferInstance : TI Go.Proofs.Tryz.prog 102 _ _ _).info; exact ⟨i, h1, h2⟩), by decide⟩
instance : FO Go.Proofs.Tryz.prog 104 1 1 1 := ⟨_, _, Go.Proofs.Tryz.underlying104, rfl, rfl, (by obtain ⟨i, h1, _, h2, _⟩ := (inferInstance : TI Go.Proofs.Tryz.prog 4 _ _ _).info; exact ⟨i, h1, h2⟩), by decide⟩
instance : FO Go.Proofs.Tryz.prog 109 0 0 1 := ⟨_, _, Go.Proofs.Tryz.underlying109, rfl, rfl, (by obtain ⟨i, h1, _, h2, _⟩ := (inferInstance : TI Go.Proofs.Tryz.prog 107 _ _ _).info; exact ⟨i, h1, h2⟩), by decide⟩
instance : FO Go.Proofs.Tryz.prog 110 0 0 1 := ⟨_, _, Go.Proofs.Tryz.underlying110, rfl, rfl, (by obtain ⟨i, h1, _, h2, _⟩ := (inferInstance : TI Go.Proofs.Tryz.prog 107 _ _ _).info; exact ⟨i, h1, h2⟩), by decide⟩
instance : FO Go.Proofs.Tryz.prog 124 0 0 1 := ⟨_, _, Go.Proofs.Tryz.underlying124, rfl, rfl, (by obtain ⟨i, h1, _, h2, _⟩ := (inferInstance : TI Go.Proofs.Tryz.prog 9 _ _ _).info; exact ⟨i, h1, h2⟩), by decide⟩
instance : FO Go.Proofs.Tryz.prog 124 1 1 1 := ⟨_, _, Go.Proofs.Tryz.underlying124, rfl, rfl, (by obtain ⟨i, h1, _, h2, _⟩ := (inferInstance : TI Go.Proofs.Tryz.prog 9 _ _ _).info; exact ⟨i, h1, h2⟩), by decide⟩
instance : FO Go.Proofs.Tryz.prog 124 2 2 1 := ⟨_, _, Go.Proofs.Tryz.underlying124, rfl, rfl, (by obtain ⟨i, h1, _, h2, _⟩ := (inferInstance : TI Go.Proofs.Tryz.prog 52 _ _ _).info; exact ⟨i, h1, h2⟩), by decide⟩
instance : FO Go.Proofs.Tryz.prog 125 0 0 1 := ⟨_, _, Go.Proofs.Tryz.underlying125, rfl, rfl, (by obtain ⟨i, h1, _, h2, _⟩ := (inferInstance : TI Go.Proofs.Tryz.prog 9 _ _ _).info; exact ⟨i, h1, h2⟩), by decide⟩
instance : FO Go.Proofs.Tryz.prog 125 1 1 1 := ⟨_, _, Go.Proofs.Tryz.underlying125, rfl, rfl, (by obtain ⟨i, h1, _, h2, _⟩ := (inferInstance : TI Go.Proofs.Tryz.prog 9 _ _ _).info; exact ⟨i, h1, h2⟩), by decide⟩
instance : FO Go.Proofs.Tryz.prog 125 2 2 1 := ⟨_, _, Go.Proofs.Tryz.underlying125, rfl, rfl, (by obtain ⟨i, h1, _, h2, _⟩ := (inferInstance : TI Go.Proofs.Tryz.prog 52 _ _ _).info; exact ⟨i, h1, h2⟩), by decide⟩
instance : FO Go.Proofs.Tryz.prog 145 0 0 1 := ⟨_, _, Go.Proofs.Tryz.underlying145, rfl, rfl, (by obtain ⟨i, h1, _, h2, _⟩ := (inferInstance : TI Go.Proofs.Tryz.prog 9 _ _ _).info; exact ⟨i, h1, h2⟩), by decide⟩
instance : FO Go.Proofs.Tryz.prog 146 0 0 1 := ⟨_, _, Go.Proofs.Tryz.underlying146, rfl, rfl, (by obtain ⟨i, h1, _, h2, _⟩ := (inferInstance : TI Go.Proofs.Tryz.prog 9 _ _ _).info; exact ⟨i, h1, h2⟩), by decide⟩
instance : FO Go.Proofs.Tryz.prog 164 0 0 1 := ⟨_, _, Go.Proofs.Tryz.underlying164, rfl, rfl, (by obtain ⟨i, h1, _, h2, _⟩ := (inferInstance : TI Go.Proofs.Tryz.prog 163 _ _ _).info; exact ⟨i, h1, h2⟩), by decide⟩
instance : FO Go.Proofs.Tryz.prog 164 1 1 1 := ⟨_, _, Go.Proofs.Tryz.underlying164, rfl, rfl, (by obtain ⟨i, h1, _, h2, _⟩ := (inferInstance : TI Go.Proofs.Tryz.prog 91 _ _ _).info; exact ⟨i, h1, h2⟩), by decide⟩
instance : FO Go.Proofs.Tryz.prog 165 0 0 1 := ⟨_, _, Go.Proofs.Tryz.underlying165, rfl, rfl, (by obtain ⟨i, h1, _, h2, _⟩ := (inferInstance : TI Go.Proofs.Tryz.prog 163 _ _ _).info; exact ⟨i, h1, h2⟩), by decide⟩
instance : FO Go.Proofs.Tryz.prog 165 1 1 1 := ⟨_, _, Go.Proofs.Tryz.underlying165, rfl, rfl, (by obtain ⟨i, h1, _, h2, _⟩ := (inferInstance : TI Go.Proofs.Tryz.prog 91 _ _ _).info; exact ⟨i, h1, h2⟩), by decide⟩
instance : FO Go.Proofs.Tryz.prog 184 0 0 1 := ⟨_, _, Go.Proofs.Tryz.underlying184, rfl, rfl, (by obtain ⟨i, h1, _, h2, _⟩ := (inferInstance : TI Go.Proofs.Tryz.prog 17 _ _ _).info; exact ⟨i, h1, h2⟩), by decide⟩
instance : FO Go.Proofs.Tryz.prog 184 1 1 1 := ⟨_, _, Go.Proofs.Tryz.underlying184, rfl, rfl, (by obtain ⟨i, h1, _, h2, _⟩ := (inferInstance : TI Go.Proofs.Tryz.prog 17 _ _ _).info; exact ⟨i, h1, h2⟩), by decide⟩
instance : FO Go.Proofs.Tryz.prog 184 2 2 1 := ⟨_, _, Go.Proofs.Tryz.underlying184, rfl, rfl, (by obtain ⟨i, h1, _, h2, _⟩ := (inferInstance : TI Go.Proofs.Tryz.prog 17 _ _ _).info; exact ⟨i, h1, h2⟩), by decide⟩
instance : FO Go.Proofs.Tryz.prog 184 3 3 1 := ⟨_, _, Go.Proofs.Tryz.underlying184, rfl, rfl, (by obtain ⟨i, h1, _, h2, _⟩ := (inferInstance : TI Go.Proofs.Tryz.prog 9 _ _ _).info; exact ⟨i, h1, h2⟩), by decide⟩
instance : FO Go.Proofs.Tryz.prog 185 0 0 1 := ⟨_, _, Go.Proofs.Tryz.underlying185, rfl, rfl, (by obtain ⟨i, h1, _, h2, _⟩ := (inferInstance : TI Go.Proofs.Tryz.prog 17 _ _ _).info; exact ⟨i, h1, h2⟩), by decide⟩
instance : FO Go.Proofs.Tryz.prog 185 1 1 1 := ⟨_, _, Go.Proofs.Tryz.underlying185, rfl, rfl, (by obtain ⟨i, h1, _, h2, _⟩ := (inferInstance : TI Go.Proofs.Tryz.prog 17 _ _ _).info; exact ⟨i, h1, h2⟩), by decide⟩
instance : FO Go.Proofs.Tryz.prog 185 2 2 1 := ⟨_, _, Go.Proofs.Tryz.underlying185, rfl, rfl, (by obtain ⟨i, h1, _, h2, _⟩ := (inferInstance : TI Go.Proofs.Tryz.prog 17 _ _ _).info; exact ⟨i, h1, h2⟩), by decide⟩
instance : FO Go.Proofs.Tryz.prog 185 3 3 1 := ⟨_, _, Go.Proofs.Tryz.underlying185, rfl, rfl, (by obtain ⟨i, h1, _, h2, _⟩ := (inferInstance : TI Go.Proofs.Tryz.prog 9 _ _ _).info; exact ⟨i, h1, h2⟩), by decide⟩
instance : FO Go.Proofs.Tryz.prog 194 0 0 1 := ⟨_, _, Go.Proofs.Tryz.underlying194, rfl, rfl, (by obtain ⟨i, h1, _, h2, _⟩ := (inferInstance : TI Go.Proofs.Tryz.prog 12 _ _ _).info; exact ⟨i, h1, h2⟩), by decide⟩
instance : FO Go.Proofs.Tryz.prog 194 1 1 1 := ⟨_, _, Go.Proofs.Tryz.underlying194, rfl, rfl, (by obtain ⟨i, h1, _, h2, _⟩ := (inferInstance : TI Go.Proofs.Tryz.prog 12 _ _ _).info; exact ⟨i, h1, h2⟩), by decide⟩
instance : FO Go.Proofs.Tryz.prog 194 2 2 1 := ⟨_, _, Go.Proofs.Tryz.underlying194, rfl, rfl, (by obtain ⟨i, h1, _, h2, _⟩ := (inferInstance : TI Go.Proofs.Tryz.prog 155 _ _ _).info; exact ⟨i, h1, h2⟩), by decide⟩
instance : FO Go.Proofs.Tryz.prog 194 3 3 1 := ⟨_, _, Go.Proofs.Tryz.underlying194, rfl, rfl, (by obtain ⟨i, h1, _, h2, _⟩ := (inferInstance : TI Go.Proofs.Tryz.prog 189 _ _ _).info; exact ⟨i, h1, h2⟩), by decide⟩
instance : FO Go.Proofs.Tryz.prog 194 4 4 1 := ⟨_, _, Go.Proofs.Tryz.underlying194, rfl, rfl, (by obtain ⟨i, h1, _, h2, _⟩ := (inferInstance : TI Go.Proofs.Tryz.prog 5 _ _ _).info; exact ⟨i, h1, h2⟩), by decide⟩
instance : FO Go.Proofs.Tryz.prog 194 5 5 1 := ⟨_, _, Go.Proofs.Tryz.underlying194, rfl, rfl, (by obtain ⟨i, h1, _, h2, _⟩ := (inferInstance : TI Go.Proofs.Tryz.prog 5 _ _ _).info; exact ⟨i, h1, h2⟩), by decide⟩
instance : FO Go.Proofs.Tryz.prog 194 6 6 1 := ⟨_, _, Go.Proofs.Tryz.underlying194, rfl, rfl, (by obtain ⟨i, h1, _, h2, _⟩ := (inferInstance : TI Go.Proofs.Tryz.prog 190 _ _ _).info; exact ⟨i, h1, h2⟩), by decide⟩
instance : FO Go.Proofs.Tryz.prog 194 7 7 1 := ⟨_, _, Go.Proofs.Tryz.underlying194, rfl, rfl, (by obtain ⟨i, h1, _, h2, _⟩ := (inferInstance : TI Go.Proofs.Tryz.prog 191 _ _ _).info; exact ⟨i, h1, h2⟩), by decide⟩
instance : FO Go.Proofs.Tryz.prog 194 8 8 1 := ⟨_, _, Go.Proofs.Tryz.underlying194, rfl, rfl, (by obtain ⟨i, h1, _, h2, _⟩ := (inferInstance : TI Go.Proofs.Tryz.prog 143 _ _ _).info; exact ⟨i, h1, h2⟩), by decide⟩
instance : FO Go.Proofs.Tryz.prog 194 9 9 1 := ⟨_, _, Go.Proofs.Tryz.underlying194, rfl, rfl, (by obtain ⟨i, h1, _, h2, _⟩ := (inferInstance : TI Go.Proofs.Tryz.prog 192 _ _ _).info; exact ⟨i, h1, h2⟩), by decide⟩
instance : FO Go.Proofs.Tryz.prog 194 10 10 1 := ⟨_, _, Go.Proofs.Tryz.underlying194, rfl, rfl, (by obtain ⟨i, h1, _, h2, _⟩ := (inferInstance : TI Go.Proofs.Tryz.prog 193 _ _ _).info; exact ⟨i, h1, h2⟩), by decide⟩
instance : FO Go.Proofs.Tryz.prog 195 0 0 1 := ⟨_, _, Go.Proofs.Tryz.underlying195, rfl, rfl, (by obtain ⟨i, h1, _, h2, _⟩ := (inferInstance : TI Go.Proofs.Tryz.prog 12 _ _ _).info; exact ⟨i, h1, h2⟩), by decide⟩
instance : FO Go.Proofs.Tryz.prog 195 1 1 1 := ⟨_, _, Go.Proofs.Tryz.underlying195, rfl, rfl, (by obtain ⟨i, h1, _, h2, _⟩ := (inferInstance : TI Go.Proofs.Tryz.prog 12 _ _ _).info; exact ⟨i, h1, h2⟩), by decide⟩
instance : FO Go.Proofs.Tryz.prog 195 2 2 1 := ⟨_, _, Go.Proofs.Tryz.underlying195, rfl, rfl, (by obtain ⟨i, h1, _, h2, _⟩ := (inferInstance : TI Go.Proofs.Tryz.prog 155 _ _ _).info; exact ⟨i, h1, h2⟩), by decide⟩
instance : FO Go.Proofs.Tryz.prog 195 3 3 1 := ⟨_, _, Go.Proofs.Tryz.underlying195, rfl, rfl, (by obtain ⟨i, h1, _, h2, _⟩ := (inferInstance : TI Go.Proofs.Tryz.prog 189 _ _ _).info; exact ⟨i, h1, h2⟩), by decide⟩
instance : FO Go.Proofs.Tryz.prog 195 4 4 1 := ⟨_, _, Go.Proofs.Tryz.underlying195, rfl, rfl, (by obtain ⟨i, h1, _, h2, _⟩ := (inferInstance : TI Go.Proofs.Tryz.prog 5 _ _ _).info; exact ⟨i, h1, h2⟩), by decide⟩
instance : FO Go.Proofs.Tryz.prog 195 5 5 1 := ⟨_, _, Go.Proofs.Tryz.underlying195, rfl, rfl, (by obtain ⟨i, h1, _, h2, _⟩ := (inferInstance : TI Go.Proofs.Tryz.prog 5 _ _ _).info; exact ⟨i, h1, h2⟩), by decide⟩
instance : FO Go.Proofs.Tryz.prog 195 6 6 1 := ⟨_, _, Go.Proofs.Tryz.underlying195, rfl, rfl, (by obtain ⟨i, h1, _, h2, _⟩ := (inferInstance : TI Go.Proofs.Tryz.prog 190 _ _ _).info; exact ⟨i, h1, h2⟩), by decide⟩
instance : FO Go.Proofs.Tryz.prog 195 7 7 1 := ⟨_, _, Go.Proofs.Tryz.underlying195, rfl, rfl, (by obtain ⟨i, h1, _, h2, _⟩ := (inferInstance : TI Go.Proofs.Tryz.prog 191 _ _ _).info; exact ⟨i, h1, h2⟩), by decide⟩
instance : FO Go.Proofs.Tryz.prog 195 8 8 1 := ⟨_, _, Go.Proofs.Tryz.underlying195, rfl, rfl, (by obtain ⟨i, h1, _, h2, _⟩ := (inferInstance : TI Go.Proofs.Tryz.prog 143 _ _ _).info; exact ⟨i, h1, h2⟩), by decide⟩
instance : FO Go.Proofs.Tryz.prog 195 9 9 1 := ⟨_, _, Go.Proofs.Tryz.underlying195, rfl, rfl, (by obtain ⟨i, h1, _, h2, _⟩ := (inferInstance : TI Go.Proofs.Tryz.prog 192 _ _ _).info; exact ⟨i, h1, h2⟩), by decide⟩
instance : FO Go.Proofs.Tryz.prog 195 10 10 1 := ⟨_, _, Go.Proofs.Tryz.underlying195, rfl, rfl, (by obtain ⟨i, h1, _, h2, _⟩ := (inferInstance : TI Go.Proofs.Tryz.prog 193 _ _ _).info; exact ⟨i, h1, h2⟩), by decide⟩
instance : Body Go.Proofs.Tryz.prog 3 := Body.mk' Go.Proofs.Tryz.func3 (by kernel_rfl) (by kernel_rfl)
instance : Body Go.Proofs.Tryz.prog 4 := Body.mk' Go.Proofs.Tryz.func4 (by kernel_rfl) (by kernel_rfl)
instance : Body Go.Proofs.Tryz.prog 5 := Body.mk' Go.Proofs.Tryz.func5 (by kernel_rfl) (by kernel_rfl)
instance : Body Go.Proofs.Tryz.prog 6 := Body.mk' Go.Proofs.Tryz.func6 (by kernel_rfl) (by kernel_rfl)
instance : Body Go.Proofs.Tryz.prog 7 := Body.mk' Go.Proofs.Tryz.func7 (by kernel_rfl) (by kernel_rfl)
instance : Body Go.Proofs.Tryz.prog 8 := Body.mk' Go.Proofs.Tryz.func8 (by kernel_rfl) (by kernel_rfl)
instance : Body Go.Proofs.Tryz.prog 9 := Body.mk' Go.Proofs.Tryz.func9 (by kernel_rfl) (by kernel_rfl)
instance : Body Go.Proofs.Tryz.prog 10 := Body.mk' Go.Proofs.Tryz.func10 (by kernel_rfl) (by kernel_rfl)
instance : Body Go.Proofs.Tryz.prog 11 := Body.mk' Go.Proofs.Tryz.func11 (by kernel_rfl) (by kernel_rfl)
instance : Body Go.Proofs.Tryz.prog 12 := Body.mk' Go.Proofs.Tryz.func12 (by kernel_rfl) (by kernel_rfl)
instance : Body Go.Proofs.Tryz.prog 13 := Body.mk' Go.Proofs.Tryz.func13 (by kernel_rfl) (by kernel_rfl)
instance : Body Go.Proofs.Tryz.prog 14 := Body.mk' Go.Proofs.Tryz.func14 (by kernel_rfl) (by kernel_rfl)
instance : Body Go.Proofs.Tryz.prog 15 := Body.mk' Go.Proofs.Tryz.func15 (by kernel_rfl) (by kernel_rfl)
instance : Body Go.Proofs.Tryz.prog 16 := Body.mk' Go.Proofs.Tryz.func16 (by kernel_rfl) (by kernel_rfl)
instance : Body Go.Proofs.Tryz.prog 17 := Body.mk' Go.Proofs.Tryz.func17 (by kernel_rfl) (by kernel_rfl)
instance : Body Go.Proofs.Tryz.prog 18 := Body.mk' Go.Proofs.Tryz.func18 (by kernel_rfl) (by kernel_rfl)
instance : Body Go.Proofs.Tryz.prog 19 := Body.mk' Go.Proofs.Tryz.func19 (by kernel_rfl) (by kernel_rfl)
instance : Body Go.Proofs.Tryz.prog 20 := Body.mk' Go.Proofs.Tryz.func20 (by kernel_rfl) (by kernel_rfl)
instance : Body Go.Proofs.Tryz.prog 21 := Body.mk' Go.Proofs.Tryz.func21 (by kernel_rfl) (by kernel_rfl)
instance : Body Go.Proofs.Tryz.prog 22 := Body.mk' Go.Proofs.Tryz.func22 (by kernel_rfl) (by kernel_rfl)
instance : Body Go.Proofs.Tryz.prog 23 := Body.mk' Go.Proofs.Tryz.func23 (by kernel_rfl) (by kernel_rfl)
instance : Body Go.Proofs.Tryz.prog 24 := Body.mk' Go.Proofs.Tryz.func24 (by kernel_rfl) (by kernel_rfl)
instance : Body Go.Proofs.Tryz.prog 25 := Body.mk' Go.Proofs.Tryz.func25 (by kernel_rfl) (by kernel_rfl)
instance : Body Go.Proofs.Tryz.prog 26 := Body.mk' Go.Proofs.Tryz.func26 (by kernel_rfl) (by kernel_rfl)
instance : Body Go.Proofs.Tryz.prog 27 := Body.mk' Go.Proofs.Tryz.func27 (by kernel_rfl) (by kernel_rfl)
instance : Body Go.Proofs.Tryz.prog 28 := Body.mk' Go.Proofs.Tryz.func28 (by kernel_rfl) (by kernel_rfl)
instance : Body Go.Proofs.Tryz.prog 29 := Body.mk' Go.Proofs.Tryz.func29 (by kernel_rfl) (by kernel_rfl)
instance : Body Go.Proofs.Tryz.prog 30 := Body.mk' Go.Proofs.Tryz.func30 (by kernel_rfl) (by kernel_rfl)
instance : Body Go.Proofs.Tryz.prog 31 := Body.mk' Go.Proofs.Tryz.func31 (by kernel_rfl) (by kernel_rfl)
instance : Body Go.Proofs.Tryz.prog 32 := Body.mk' Go.Proofs.Tryz.func32 (by kernel_rfl) (by kernel_rfl)
instance : Body Go.Proofs.Tryz.prog 33 := Body.mk' Go.Proofs.Tryz.func33 (by kernel_rfl) (by kernel_rfl)
instance : Body Go.Proofs.Tryz.prog 34 := Body.mk' Go.Proofs.Tryz.func34 (by kernel_rfl) (by kernel_rfl)
instance : Body Go.Proofs.Tryz.prog 35 := Body.mk' Go.Proofs.Tryz.func35 (by kernel_rfl) (by kernel_rfl)
instance : Body Go.Proofs.Tryz.prog 36 := Body.mk' Go.Proofs.Tryz.func36 (by kernel_rfl) (by kernel_rfl)
instance : Body Go.Proofs.Tryz.prog 37 := Body.mk' Go.Proofs.Tryz.func37 (by kernel_rfl) (by kernel_rfl)
instance : Body Go.Proofs.Tryz.prog 38 := Body.mk' Go.Proofs.Tryz.func38 (by kernel_rfl) (by kernel_rfl)
instance : Body Go.Proofs.Tryz.prog 39 := Body.mk' Go.Proofs.Tryz.func39 (by kernel_rfl) (by kernel_rfl)
instance : Body Go.Proofs.Tryz.prog 40 := Body.mk' Go.Proofs.Tryz.func40 (by kernel_rfl) (by kernel_rfl)
instance : Body Go.Proofs.Tryz.prog 41 := Body.mk' Go.Proofs.Tryz.func41 (by kernel_rfl) (by kernel_rfl)
instance : Body Go.Proofs.Tryz.prog 42 := Body.mk' Go.Proofs.Tryz.func42 (by kernel_rfl) (by kernel_rfl)
instance : Body Go.Proofs.Tryz.prog 43 := Body.mk' Go.Proofs.Tryz.func43 (by kernel_rfl) (by kernel_rfl)
instance : Body Go.Proofs.Tryz.prog 44 := Body.mk' Go.Proofs.Tryz.func44 (by kernel_rfl) (by kernel_rfl)
instance : Body Go.Proofs.Tryz.prog 45 := Body.mk' Go.Proofs.Tryz.func45 (by kernel_rfl) (by kernel_rfl)
instance : Body Go.Proofs.Tryz.prog 46 := Body.mk' Go.Proofs.Tryz.func46 (by kernel_rfl) (by kernel_rfl)
instance : Body Go.Proofs.Tryz.prog 47 := Body.mk' Go.Proofs.Tryz.func47 (by kernel_rfl) (by kernel_rfl)
instance : Body Go.Proofs.Tryz.prog 48 := Body.mk' Go.Proofs.Tryz.func48 (by kernel_rfl) (by kernel_rfl)
instance : Body Go.Proofs.Tryz.prog 49 := Body.mk' Go.Proofs.Tryz.func49 (by kernel_rfl) (by kernel_rfl)
instance : Body Go.Proofs.Tryz.prog 50 := Body.mk' Go.Proofs.Tryz.func50 (by kernel_rfl) (by kernel_rfl)
instance : Body Go.Proofs.Tryz.prog 51 := Body.mk' Go.Proofs.Tryz.func51 (by kernel_rfl) (by kernel_rfl)
instance : Body Go.Proofs.Tryz.prog 52 := Body.mk' Go.Proofs.Tryz.func52 (by kernel_rfl) (by kernel_rfl)
instance : Body Go.Proofs.Tryz.prog 53 := Body.mk' Go.Proofs.Tryz.func53 (by kernel_rfl) (by kernel_rfl)
instance : Body Go.Proofs.Tryz.prog 54 := Body.mk' Go.Proofs.Tryz.func54 (by kernel_rfl) (by kernel_rfl)
instance : Body Go.Proofs.Tryz.prog 55 := Body.mk' Go.Proofs.Tryz.func55 (by kernel_rfl) (by kernel_rfl)
instance : Body Go.Proofs.Tryz.prog 56 := Body.mk' Go.Proofs.Tryz.func56 (by kernel_rfl) (by kernel_rfl)
instance : Body Go.Proofs.Tryz.prog 57 := Body.mk' Go.Proofs.Tryz.func57 (by kernel_rfl) (by kernel_rfl)
instance : Body Go.Proofs.Tryz.prog 58 := Body.mk' Go.Proofs.Tryz.func58 (by kernel_rfl) (by kernel_rfl)
instance : Body Go.Proofs.Tryz.prog 59 := Body.mk' Go.Proofs.Tryz.func59 (by kernel_rfl) (by kernel_rfl)
instance : Body Go.Proofs.Tryz.prog 60 := Body.mk' Go.Proofs.Tryz.func60 (by kernel_rfl) (by kernel_rfl)
instance : Body Go.Proofs.Tryz.prog 61 := Body.mk' Go.Proofs.Tryz.func61 (by kernel_rfl) (by kernel_rfl)
instance : Body Go.Proofs.Tryz.prog 62 := Body.mk' Go.Proofs.Tryz.func62 (by kernel_rfl) (by kernel_rfl)
instance : Body Go.Proofs.Tryz.prog 63 := Body.mk' Go.Proofs.Tryz.func63 (by kernel_rfl) (by kernel_rfl)
instance : Body Go.Proofs.Tryz.prog 64 := Body.mk' Go.Proofs.Tryz.func64 (by kernel_rfl) (by kernel_rfl)
instance : Body Go.Proofs.Tryz.prog 65 := Body.mk' Go.Proofs.Tryz.func65 (by kernel_rfl) (by kernel_rfl)
instance : Body Go.Proofs.Tryz.prog 66 := Body.mk' Go.Proofs.Tryz.func66 (by kernel_rfl) (by kernel_rfl)
instance : Body Go.Proofs.Tryz.prog 67 := Body.mk' Go.Proofs.Tryz.func67 (by kernel_rfl) (by kernel_rfl)
instance : Body Go.Proofs.Tryz.prog 68 := Body.mk' Go.Proofs.Tryz.func68 (by kernel_rfl) (by kernel_rfl)
instance : Body Go.Proofs.Tryz.prog 69 := Body.mk' Go.Proofs.Tryz.func69 (by kernel_rfl) (by kernel_rfl)
instance : Body Go.Proofs.Tryz.prog 70 := Body.mk' Go.Proofs.Tryz.func70 (by kernel_rfl) (by kernel_rfl)
instance : Body Go.Proofs.Tryz.prog 71 := Body.mk' Go.Proofs.Tryz.func71 (by kernel_rfl) (by kernel_rfl)
instance : Body Go.Proofs.Tryz.prog 72 := Body.mk' Go.Proofs.Tryz.func72 (by kernel_rfl) (by kernel_rfl)
instance : Body Go.Proofs.Tryz.prog 73 := Body.mk' Go.Proofs.Tryz.func73 (by kernel_rfl) (by kernel_rfl)
instance : Body Go.Proofs.Tryz.prog 74 := Body.mk' Go.Proofs.Tryz.func74 (by kernel_rfl) (by kernel_rfl)
instance : Body Go.Proofs.Tryz.prog 75 := Body.mk' Go.Proofs.Tryz.func75 (by kernel_rfl) (by kernel_rfl)
instance : Body Go.Proofs.Tryz.prog 76 := Body.mk' Go.Proofs.Tryz.func76 (by kernel_rfl) (by kernel_rfl)
instance : Body Go.Proofs.Tryz.prog 77 := Body.mk' Go.Proofs.Tryz.func77 (by kernel_rfl) (by kernel_rfl)
instance : Body Go.Proofs.Tryz.prog 78 := Body.mk' Go.Proofs.Tryz.func78 (by kernel_rfl) (by kernel_rfl)
instance : Body Go.Proofs.Tryz.prog 79 := Body.mk' Go.Proofs.Tryz.func79 (by kernel_rfl) (by kernel_rfl)
instance : Body Go.Proofs.Tryz.prog 80 := Body.mk' Go.Proofs.Tryz.func80 (by kernel_rfl) (by kernel_rfl)
instance : Body Go.Proofs.Tryz.prog 81 := Body.mk' Go.Proofs.Tryz.func81 (by kernel_rfl) (by kernel_rfl)
instance : Body Go.Proofs.Tryz.prog 82 := Body.mk' Go.Proofs.Tryz.func82 (by kernel_rfl) (by kernel_rfl)
instance : Body Go.Proofs.Tryz.prog 83 := Body.mk' Go.Proofs.Tryz.func83 (by kernel_rfl) (by kernel_rfl)
instance : Body Go.Proofs.Tryz.prog 84 := Body.mk' Go.Proofs.Tryz.func84 (by kernel_rfl) (by kernel_rfl)
instance : Body Go.Proofs.Tryz.prog 85 := Body.mk' Go.Proofs.Tryz.func85 (by kernel_rfl) (by kernel_rfl)
instance : Body Go.Proofs.Tryz.prog 86 := Body.mk' Go.Proofs.Tryz.func86 (by kernel_rfl) (by kernel_rfl)
instance : Body Go.Proofs.Tryz.prog 87 := Body.mk' Go.Proofs.Tryz.func87 (by kernel_rfl) (by kernel_rfl)
instance : Body Go.Proofs.Tryz.prog 88 := Body.mk' Go.Proofs.Tryz.func88 (by kernel_rfl) (by kernel_rfl)
instance : Body Go.Proofs.Tryz.prog 89 := Body.mk' Go.Proofs.Tryz.func89 (by kernel_rfl) (by kernel_rfl)
instance : Body Go.Proofs.Tryz.prog 90 := Body.mk' Go.Proofs.Tryz.func90 (by kernel_rfl) (by kernel_rfl)
instance : Body Go.Proofs.Tryz.prog 91 := Body.mk' Go.Proofs.Tryz.func91 (by kernel_rfl) (by kernel_rfl)
instance : Body Go.Proofs.Tryz.prog 92 := Body.mk' Go.Proofs.Tryz.func92 (by kernel_rfl) (by kernel_rfl)
instance : Body Go.Proofs.Tryz.prog 93 := Body.mk' Go.Proofs.Tryz.func93 (by kernel_rfl) (by kernel_rfl)
instance : Body Go.Proofs.Tryz.prog 94 := Body.mk' Go.Proofs.Tryz.func94 (by kernel_rfl) (by kernel_rfl)
instance : Body Go.Proofs.Tryz.prog 95 := Body.mk' Go.Proofs.Tryz.func95 (by kernel_rfl) (by kernel_rfl)
instance : Body Go.Proofs.Tryz.prog 96 := Body.mk' Go.Proofs.Tryz.func96 (by kernel_rfl) (by kernel_rfl)
instance : Body Go.Proofs.Tryz.prog 97 := Body.mk' Go.Proofs.Tryz.func97 (by kernel_rfl) (by kernel_rfl)
instance : Body Go.Proofs.Tryz.prog 98 := Body.mk' Go.Proofs.Tryz.func98 (by kernel_rfl) (by kernel_rfl)
instance : Body Go.Proofs.Tryz.prog 99 := Body.mk' Go.Proofs.Tryz.func99 (by kernel_rfl) (by kernel_rfl)
instance : Body Go.Proofs.Tryz.prog 100 := Body.mk' Go.Proofs.Tryz.func100 (by kernel_rfl) (by kernel_rfl)
instance : Body Go.Proofs.Tryz.prog 101 := Body.mk' Go.Proofs.Tryz.func101 (by kernel_rfl) (by kernel_rfl)
instance : Body Go.Proofs.Tryz.prog 102 := Body.mk' Go.Proofs.Tryz.func102 (by kernel_rfl) (by kernel_rfl)
instance : Body Go.Proofs.Tryz.prog 103 := Body.mk' Go.Proofs.Tryz.func103 (by kernel_rfl) (by kernel_rfl)
instance : Body Go.Proofs.Tryz.prog 104 := Body.mk' Go.Proofs.Tryz.func104 (by kernel_rfl) (by kernel_rfl)
instance : Body Go.Proofs.Tryz.prog 105 := Body.mk' Go.Proofs.Tryz.func105 (by kernel_rfl) (by kernel_rfl)
instance : Body Go.Proofs.Tryz.prog 106 := Body.mk' Go.Proofs.Tryz.func106 (by kernel_rfl) (by kernel_rfl)
instance : Body Go.Proofs.Tryz.prog 107 := Body.mk' Go.Proofs.Tryz.func107 (by kernel_rfl) (by kernel_rfl)
instance : Body Go.Proofs.Tryz.prog 108 := Body.mk' Go.Proofs.Tryz.func108 (by kernel_rfl) (by kernel_rfl)
instance : Body Go.Proofs.Tryz.prog 109 := Body.mk' Go.Proofs.Tryz.func109 (by kernel_rfl) (by kernel_rfl)
instance : Body Go.Proofs.Tryz.prog 110 := Body.mk' Go.Proofs.Tryz.func110 (by kernel_rfl) (by kernel_rfl)
instance : Body Go.Proofs.Tryz.prog 111 := Body.mk' Go.Proofs.Tryz.func111 (by kernel_rfl) (by kernel_rfl)
instance : Body Go.Proofs.Tryz.prog 112 := Body.mk' Go.Proofs.Tryz.func112 (by kernel_rfl) (by kernel_rfl)
instance : Body Go.Proofs.Tryz.prog 113 := Body.mk' Go.Proofs.Tryz.func113 (by kernel_rfl) (by kernel_rfl)
instance : Body Go.Proofs.Tryz.prog 114 := Body.mk' Go.Proofs.Tryz.func114 (by kernel_rfl) (by kernel_rfl)
instance : Body Go.Proofs.Tryz.prog 115 := Body.mk' Go.Proofs.Tryz.func115 (by kernel_rfl) (by kernel_rfl)
instance : Body Go.Proofs.Tryz.prog 116 := Body.mk' Go.Proofs.Tryz.func116 (by kernel_rfl) (by kernel_rfl)
instance : Body Go.Proofs.Tryz.prog 117 := Body.mk' Go.Proofs.Tryz.func117 (by kernel_rfl) (by kernel_rfl)
instance : Body Go.Proofs.Tryz.prog 118 := Body.mk' Go.Proofs.Tryz.func118 (by kernel_rfl) (by kernel_rfl)
instance : Body Go.Proofs.Tryz.prog 119 := Body.mk' Go.Proofs.Tryz.func119 (by kernel_rfl) (by kernel_rfl)
instance : Body Go.Proofs.Tryz.prog 120 := Body.mk' Go.Proofs.Tryz.func120 (by kernel_rfl) (by kernel_rfl)
instance : Body Go.Proofs.Tryz.prog 121 := Body.mk' Go.Proofs.Tryz.func121 (by kernel_rfl) (by kernel_rfl)
instance : Body Go.Proofs.Tryz.prog 122 := Body.mk' Go.Proofs.Tryz.func122 (by kernel_rfl) (by kernel_rfl)
instance : Body Go.Proofs.Tryz.prog 123 := Body.mk' Go.Proofs.Tryz.func123 (by kernel_rfl) (by kernel_rfl)
instance : Body Go.Proofs.Tryz.prog 124 := Body.mk' Go.Proofs.Tryz.func124 (by kernel_rfl) (by kernel_rfl)
instance : Body Go.Proofs.Tryz.prog 125 := Body.mk' Go.Proofs.Tryz.func125 (by kernel_rfl) (by kernel_rfl)
instance : Body Go.Proofs.Tryz.prog 126 := Body.mk' Go.Proofs.Tryz.func126 (by kernel_rfl) (by kernel_rfl)
instance : Body Go.Proofs.Tryz.prog 127 := Body.mk' Go.Proofs.Tryz.func127 (by kernel_rfl) (by kernel_rfl)
instance : Body Go.Proofs.Tryz.prog 128 := Body.mk' Go.Proofs.Tryz.func128 (by kernel_rfl) (by kernel_rfl)
instance : Body Go.Proofs.Tryz.prog 129 := Body.mk' Go.Proofs.Tryz.func129 (by kernel_rfl) (by kernel_rfl)
instance : Body Go.Proofs.Tryz.prog 130 := Body.mk' Go.Proofs.Tryz.func130 (by kernel_rfl) (by kernel_rfl)
end Go.Proofs.YtolchkdndnjhbaaGreatDoor
