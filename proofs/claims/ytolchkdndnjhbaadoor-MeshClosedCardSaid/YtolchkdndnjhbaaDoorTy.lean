/- Instances on this translation's types and functions, printed by wip/sx/types.py. -/
import Derived.Test.YtolchkdndnjhbaaDoorSx5
import Derived.Test.YtolchkdndnjhbaaDoorProg
import Derived.KernelRfl
namespace Go.Proofs.YtolchkdndnjhbaaDoor
open Go Go.Sx
instance : Mix Go.Proofs.Tryd.prog := ⟨by kernel_rfl⟩
instance : TI Go.Proofs.Tryd.prog 0 (.tuple #[]) 1 0 := ⟨by kernel_rfl⟩
instance : UL Go.Proofs.Tryd.prog 1 (.func #[] #[] false) := ⟨Go.Proofs.Tryd.underlying1⟩
instance : TI Go.Proofs.Tryd.prog 1 (.nilFunc) 1 8 := ⟨by kernel_rfl⟩
instance : UL Go.Proofs.Tryd.prog 2 (.int .i64) := ⟨Go.Proofs.Tryd.underlying2⟩
instance : TI Go.Proofs.Tryd.prog 2 (.int .i64 0) 1 8 := ⟨by kernel_rfl⟩
instance : UL Go.Proofs.Tryd.prog 3 (.int .i64) := ⟨Go.Proofs.Tryd.underlying3⟩
instance : TI Go.Proofs.Tryd.prog 3 (.int .i64 0) 1 8 := ⟨by kernel_rfl⟩
instance : UL Go.Proofs.Tryd.prog 4 (.bool) := ⟨Go.Proofs.Tryd.underlying4⟩
instance : TI Go.Proofs.Tryd.prog 4 (.bool false) 1 1 := ⟨by kernel_rfl⟩
instance : UL Go.Proofs.Tryd.prog 5 (.int .u8) := ⟨Go.Proofs.Tryd.underlying5⟩
instance : TI Go.Proofs.Tryd.prog 5 (.int .u8 0) 1 1 := ⟨by kernel_rfl⟩
instance : UL Go.Proofs.Tryd.prog 6 (.int .u8) := ⟨Go.Proofs.Tryd.underlying6⟩
instance : TI Go.Proofs.Tryd.prog 6 (.int .u8 0) 1 1 := ⟨by kernel_rfl⟩
instance : UL Go.Proofs.Tryd.prog 7 (.struct #[{ name := "x", type := 2, offset := 0, embedded := false, tag := "", pkgPath := "runtime", byteOffset := 0 }, { name := "y", type := 3, offset := 1, embedded := false, tag := "", pkgPath := "runtime", byteOffset := 8 }, { name := "signed", type := 4, offset := 2, embedded := false, tag := "", pkgPath := "runtime", byteOffset := 16 }, { name := "code", type := 6, offset := 3, embedded := false, tag := "", pkgPath := "runtime", byteOffset := 17 }]) := ⟨Go.Proofs.Tryd.underlying7⟩
instance : TI Go.Proofs.Tryd.prog 7 (.agg #[.int .i64 0, .int .i64 0, .bool false, .int .u8 0]) 4 24 := ⟨by kernel_rfl⟩
instance : UL Go.Proofs.Tryd.prog 8 (.struct #[{ name := "x", type := 2, offset := 0, embedded := false, tag := "", pkgPath := "runtime", byteOffset := 0 }, { name := "y", type := 3, offset := 1, embedded := false, tag := "", pkgPath := "runtime", byteOffset := 8 }, { name := "signed", type := 4, offset := 2, embedded := false, tag := "", pkgPath := "runtime", byteOffset := 16 }, { name := "code", type := 6, offset := 3, embedded := false, tag := "", pkgPath := "runtime", byteOffset := 17 }]) := ⟨Go.Proofs.Tryd.underlying8⟩
instance : TI Go.Proofs.Tryd.prog 8 (.agg #[.int .i64 0, .int .i64 0, .bool false, .int .u8 0]) 4 24 := ⟨by kernel_rfl⟩
instance : UL Go.Proofs.Tryd.prog 9 (.string) := ⟨Go.Proofs.Tryd.underlying9⟩
instance : TI Go.Proofs.Tryd.prog 9 (.string ⟨#[]⟩) 1 16 := ⟨by kernel_rfl⟩
instance : UL Go.Proofs.Tryd.prog 10 (.string) := ⟨Go.Proofs.Tryd.underlying10⟩
instance : TI Go.Proofs.Tryd.prog 10 (.string ⟨#[]⟩) 1 16 := ⟨by kernel_rfl⟩
instance : UL Go.Proofs.Tryd.prog 11 (.string) := ⟨Go.Proofs.Tryd.underlying11⟩
instance : TI Go.Proofs.Tryd.prog 11 (.string ⟨#[]⟩) 1 16 := ⟨by kernel_rfl⟩
instance : UL Go.Proofs.Tryd.prog 12 (.int .u64) := ⟨Go.Proofs.Tryd.underlying12⟩
instance : TI Go.Proofs.Tryd.prog 12 (.int .u64 0) 1 8 := ⟨by kernel_rfl⟩
instance : UL Go.Proofs.Tryd.prog 13 (.struct #[{ name := "msg", type := 9, offset := 0, embedded := false, tag := "", pkgPath := "runtime", byteOffset := 0 }, { name := "addr", type := 12, offset := 1, embedded := false, tag := "", pkgPath := "runtime", byteOffset := 16 }]) := ⟨Go.Proofs.Tryd.underlying13⟩
instance : TI Go.Proofs.Tryd.prog 13 (.agg #[.string ⟨#[]⟩, .int .u64 0]) 2 24 := ⟨by kernel_rfl⟩
instance : UL Go.Proofs.Tryd.prog 14 (.struct #[{ name := "msg", type := 9, offset := 0, embedded := false, tag := "", pkgPath := "runtime", byteOffset := 0 }, { name := "addr", type := 12, offset := 1, embedded := false, tag := "", pkgPath := "runtime", byteOffset := 16 }]) := ⟨Go.Proofs.Tryd.underlying14⟩
instance : TI Go.Proofs.Tryd.prog 14 (.agg #[.string ⟨#[]⟩, .int .u64 0]) 2 24 := ⟨by kernel_rfl⟩
instance : UL Go.Proofs.Tryd.prog 15 (.pointer 162) := ⟨Go.Proofs.Tryd.underlying15⟩
instance : TI Go.Proofs.Tryd.prog 15 (.pointer none) 1 8 := ⟨by kernel_rfl⟩
instance : UL Go.Proofs.Tryd.prog 16 (.pointer 165) := ⟨Go.Proofs.Tryd.underlying16⟩
instance : TI Go.Proofs.Tryd.prog 16 (.pointer none) 1 8 := ⟨by kernel_rfl⟩
instance : UL Go.Proofs.Tryd.prog 17 (.pointer 172) := ⟨Go.Proofs.Tryd.underlying17⟩
instance : TI Go.Proofs.Tryd.prog 17 (.pointer none) 1 8 := ⟨by kernel_rfl⟩
instance : UL Go.Proofs.Tryd.prog 18 (.struct #[{ name := "typ", type := 17, offset := 0, embedded := false, tag := "", pkgPath := "internal/runtime/maps", byteOffset := 0 }]) := ⟨Go.Proofs.Tryd.underlying18⟩
instance : TI Go.Proofs.Tryd.prog 18 (.agg #[.pointer none]) 1 8 := ⟨by kernel_rfl⟩
instance : UL Go.Proofs.Tryd.prog 19 (.struct #[{ name := "typ", type := 17, offset := 0, embedded := false, tag := "", pkgPath := "internal/runtime/maps", byteOffset := 0 }]) := ⟨Go.Proofs.Tryd.underlying19⟩
instance : TI Go.Proofs.Tryd.prog 19 (.agg #[.pointer none]) 1 8 := ⟨by kernel_rfl⟩
instance : UL Go.Proofs.Tryd.prog 21 (.int .i32) := ⟨Go.Proofs.Tryd.underlying21⟩
instance : TI Go.Proofs.Tryd.prog 21 (.int .i32 0) 1 4 := ⟨by kernel_rfl⟩
instance : UL Go.Proofs.Tryd.prog 22 (.slice 33) := ⟨Go.Proofs.Tryd.underlying22⟩
instance : TI Go.Proofs.Tryd.prog 22 (.slice none 0 0) 1 24 := ⟨by kernel_rfl⟩
instance : UL Go.Proofs.Tryd.prog 23 (.struct #[{ name := "Points", type := 22, offset := 0, embedded := false, tag := "", pkgPath := "", byteOffset := 0 }, { name := "Faces", type := 22, offset := 1, embedded := false, tag := "", pkgPath := "", byteOffset := 24 }]) := ⟨Go.Proofs.Tryd.underlying23⟩
instance : TI Go.Proofs.Tryd.prog 23 (.agg #[.slice none 0 0, .slice none 0 0]) 2 48 := ⟨by kernel_rfl⟩
instance : UL Go.Proofs.Tryd.prog 24 (.struct #[{ name := "Points", type := 22, offset := 0, embedded := false, tag := "", pkgPath := "", byteOffset := 0 }, { name := "Faces", type := 22, offset := 1, embedded := false, tag := "", pkgPath := "", byteOffset := 24 }]) := ⟨Go.Proofs.Tryd.underlying24⟩
instance : TI Go.Proofs.Tryd.prog 24 (.agg #[.slice none 0 0, .slice none 0 0]) 2 48 := ⟨by kernel_rfl⟩
instance : UL Go.Proofs.Tryd.prog 25 (.int .i16) := ⟨Go.Proofs.Tryd.underlying25⟩
instance : TI Go.Proofs.Tryd.prog 25 (.int .i16 0) 1 2 := ⟨by kernel_rfl⟩
instance : UL Go.Proofs.Tryd.prog 26 (.array 3 25) := ⟨Go.Proofs.Tryd.underlying26⟩
instance : TI Go.Proofs.Tryd.prog 26 (.agg #[.int .i16 0, .int .i16 0, .int .i16 0]) 3 6 := ⟨by kernel_rfl⟩
instance : UL Go.Proofs.Tryd.prog 27 (.slice 78) := ⟨Go.Proofs.Tryd.underlying27⟩
instance : TI Go.Proofs.Tryd.prog 27 (.slice none 0 0) 1 24 := ⟨by kernel_rfl⟩
instance : UL Go.Proofs.Tryd.prog 28 (.struct #[{ name := "Kind", type := 5, offset := 0, embedded := false, tag := "", pkgPath := "", byteOffset := 0 }, { name := "Size", type := 5, offset := 1, embedded := false, tag := "", pkgPath := "", byteOffset := 1 }, { name := "At", type := 26, offset := 2, embedded := false, tag := "", pkgPath := "", byteOffset := 2 }, { name := "Off", type := 27, offset := 5, embedded := false, tag := "", pkgPath := "", byteOffset := 8 }, { name := "Turned", type := 4, offset := 6, embedded := false, tag := "", pkgPath := "", byteOffset := 32 }]) := ⟨Go.Proofs.Tryd.underlying28⟩
instance : TI Go.Proofs.Tryd.prog 28 (.agg #[.int .u8 0, .int .u8 0, .int .i16 0, .int .i16 0, .int .i16 0, .slice none 0 0, .bool false]) 7 40 := ⟨by kernel_rfl⟩
instance : UL Go.Proofs.Tryd.prog 29 (.struct #[{ name := "Kind", type := 5, offset := 0, embedded := false, tag := "", pkgPath := "", byteOffset := 0 }, { name := "Size", type := 5, offset := 1, embedded := false, tag := "", pkgPath := "", byteOffset := 1 }, { name := "At", type := 26, offset := 2, embedded := false, tag := "", pkgPath := "", byteOffset := 2 }, { name := "Off", type := 27, offset := 5, embedded := false, tag := "", pkgPath := "", byteOffset := 8 }, { name := "Turned", type := 4, offset := 6, embedded := false, tag := "", pkgPath := "", byteOffset := 32 }]) := ⟨Go.Proofs.Tryd.underlying29⟩
instance : TI Go.Proofs.Tryd.prog 29 (.agg #[.int .u8 0, .int .u8 0, .int .i16 0, .int .i16 0, .int .i16 0, .slice none 0 0, .bool false]) 7 40 := ⟨by kernel_rfl⟩
instance : UL Go.Proofs.Tryd.prog 30 (.struct #[{ name := "What", type := 5, offset := 0, embedded := false, tag := "", pkgPath := "", byteOffset := 0 }, { name := "At", type := 5, offset := 1, embedded := false, tag := "", pkgPath := "", byteOffset := 1 }, { name := "To", type := 5, offset := 2, embedded := false, tag := "", pkgPath := "", byteOffset := 2 }, { name := "N", type := 3, offset := 3, embedded := false, tag := "", pkgPath := "", byteOffset := 8 }]) := ⟨Go.Proofs.Tryd.underlying30⟩
instance : TI Go.Proofs.Tryd.prog 30 (.agg #[.int .u8 0, .int .u8 0, .int .u8 0, .int .i64 0]) 4 16 := ⟨by kernel_rfl⟩
instance : UL Go.Proofs.Tryd.prog 31 (.struct #[{ name := "What", type := 5, offset := 0, embedded := false, tag := "", pkgPath := "", byteOffset := 0 }, { name := "At", type := 5, offset := 1, embedded := false, tag := "", pkgPath := "", byteOffset := 1 }, { name := "To", type := 5, offset := 2, embedded := false, tag := "", pkgPath := "", byteOffset := 2 }, { name := "N", type := 3, offset := 3, embedded := false, tag := "", pkgPath := "", byteOffset := 8 }]) := ⟨Go.Proofs.Tryd.underlying31⟩
instance : TI Go.Proofs.Tryd.prog 31 (.agg #[.int .u8 0, .int .u8 0, .int .u8 0, .int .i64 0]) 4 16 := ⟨by kernel_rfl⟩
instance : UL Go.Proofs.Tryd.prog 32 (.array 2 31) := ⟨Go.Proofs.Tryd.underlying32⟩
instance : TI Go.Proofs.Tryd.prog 32 (.agg #[.int .u8 0, .int .u8 0, .int .u8 0, .int .i64 0, .int .u8 0, .int .u8 0, .int .u8 0, .int .i64 0]) 8 32 := ⟨by kernel_rfl⟩
instance : UL Go.Proofs.Tryd.prog 33 (.array 3 3) := ⟨Go.Proofs.Tryd.underlying33⟩
instance : TI Go.Proofs.Tryd.prog 33 (.agg #[.int .i64 0, .int .i64 0, .int .i64 0]) 3 24 := ⟨by kernel_rfl⟩
instance : UL Go.Proofs.Tryd.prog 34 (.array 4 24) := ⟨Go.Proofs.Tryd.underlying34⟩
instance : TI Go.Proofs.Tryd.prog 34 (.agg #[.slice none 0 0, .slice none 0 0, .slice none 0 0, .slice none 0 0, .slice none 0 0, .slice none 0 0, .slice none 0 0, .slice none 0 0]) 8 192 := ⟨by kernel_rfl⟩
instance : UL Go.Proofs.Tryd.prog 35 (.func #[24, 29, 32] #[34] false) := ⟨Go.Proofs.Tryd.underlying35⟩
instance : TI Go.Proofs.Tryd.prog 35 (.nilFunc) 1 8 := ⟨by kernel_rfl⟩
instance : UL Go.Proofs.Tryd.prog 36 (.int .i64) := ⟨Go.Proofs.Tryd.underlying36⟩
instance : TI Go.Proofs.Tryd.prog 36 (.int .i64 0) 1 8 := ⟨by kernel_rfl⟩
instance : TI Go.Proofs.Tryd.prog 37 (.tuple #[.agg #[.slice none 0 0, .slice none 0 0], .int .i64 0]) 1 0 := ⟨by kernel_rfl⟩
instance : UL Go.Proofs.Tryd.prog 38 (.func #[24] #[24, 36] false) := ⟨Go.Proofs.Tryd.underlying38⟩
instance : TI Go.Proofs.Tryd.prog 38 (.nilFunc) 1 8 := ⟨by kernel_rfl⟩
instance : UL Go.Proofs.Tryd.prog 39 (.func #[24, 24] #[4] false) := ⟨Go.Proofs.Tryd.underlying39⟩
instance : TI Go.Proofs.Tryd.prog 39 (.nilFunc) 1 8 := ⟨by kernel_rfl⟩
instance : UL Go.Proofs.Tryd.prog 40 (.array 2 33) := ⟨Go.Proofs.Tryd.underlying40⟩
instance : TI Go.Proofs.Tryd.prog 40 (.agg #[.int .i64 0, .int .i64 0, .int .i64 0, .int .i64 0, .int .i64 0, .int .i64 0]) 6 48 := ⟨by kernel_rfl⟩
instance : UL Go.Proofs.Tryd.prog 41 (.func #[24, 33] #[24, 36] false) := ⟨Go.Proofs.Tryd.underlying41⟩
instance : TI Go.Proofs.Tryd.prog 41 (.nilFunc) 1 8 := ⟨by kernel_rfl⟩
instance : UL Go.Proofs.Tryd.prog 42 (.func #[] #[4] false) := ⟨Go.Proofs.Tryd.underlying42⟩
instance : TI Go.Proofs.Tryd.prog 42 (.nilFunc) 1 8 := ⟨by kernel_rfl⟩
instance : UL Go.Proofs.Tryd.prog 43 (.func #[24, 29, 32, 33, 26] #[4] false) := ⟨Go.Proofs.Tryd.underlying43⟩
instance : TI Go.Proofs.Tryd.prog 43 (.nilFunc) 1 8 := ⟨by kernel_rfl⟩
instance : UL Go.Proofs.Tryd.prog 44 (.func #[24] #[36] false) := ⟨Go.Proofs.Tryd.underlying44⟩
instance : TI Go.Proofs.Tryd.prog 44 (.nilFunc) 1 8 := ⟨by kernel_rfl⟩
instance : TI Go.Proofs.Tryd.prog 45 (.tuple #[.int .i64 0, .int .i64 0, .int .i64 0]) 1 0 := ⟨by kernel_rfl⟩
instance : UL Go.Proofs.Tryd.prog 46 (.func #[24] #[3, 3, 36] false) := ⟨Go.Proofs.Tryd.underlying46⟩
instance : TI Go.Proofs.Tryd.prog 46 (.nilFunc) 1 8 := ⟨by kernel_rfl⟩
instance : UL Go.Proofs.Tryd.prog 47 (.map 48 3) := ⟨Go.Proofs.Tryd.underlying47⟩
instance : TI Go.Proofs.Tryd.prog 47 (.map none) 1 8 := ⟨by kernel_rfl⟩
instance : UL Go.Proofs.Tryd.prog 48 (.array 2 3) := ⟨Go.Proofs.Tryd.underlying48⟩
instance : TI Go.Proofs.Tryd.prog 48 (.agg #[.int .i64 0, .int .i64 0]) 2 16 := ⟨by kernel_rfl⟩
instance : UL Go.Proofs.Tryd.prog 49 (.func #[33, 33] #[33] false) := ⟨Go.Proofs.Tryd.underlying49⟩
instance : TI Go.Proofs.Tryd.prog 49 (.nilFunc) 1 8 := ⟨by kernel_rfl⟩
instance : UL Go.Proofs.Tryd.prog 50 (.func #[] #[24] false) := ⟨Go.Proofs.Tryd.underlying50⟩
instance : TI Go.Proofs.Tryd.prog 50 (.nilFunc) 1 8 := ⟨by kernel_rfl⟩
instance : UL Go.Proofs.Tryd.prog 51 (.func #[29, 32] #[4] false) := ⟨Go.Proofs.Tryd.underlying51⟩
instance : TI Go.Proofs.Tryd.prog 51 (.nilFunc) 1 8 := ⟨by kernel_rfl⟩
instance : UL Go.Proofs.Tryd.prog 52 (.array 3 21) := ⟨Go.Proofs.Tryd.underlying52⟩
instance : TI Go.Proofs.Tryd.prog 52 (.agg #[.int .i32 0, .int .i32 0, .int .i32 0]) 3 12 := ⟨by kernel_rfl⟩
instance : UL Go.Proofs.Tryd.prog 53 (.array 4 52) := ⟨Go.Proofs.Tryd.underlying53⟩
instance : TI Go.Proofs.Tryd.prog 53 (.agg #[.int .i32 0, .int .i32 0, .int .i32 0, .int .i32 0, .int .i32 0, .int .i32 0, .int .i32 0, .int .i32 0, .int .i32 0, .int .i32 0, .int .i32 0, .int .i32 0]) 12 48 := ⟨by kernel_rfl⟩
instance : UL Go.Proofs.Tryd.prog 54 (.func #[24, 3, 3] #[4] false) := ⟨Go.Proofs.Tryd.underlying54⟩
instance : TI Go.Proofs.Tryd.prog 54 (.nilFunc) 1 8 := ⟨by kernel_rfl⟩
instance : UL Go.Proofs.Tryd.prog 55 (.string) := ⟨Go.Proofs.Tryd.underlying55⟩
instance : TI Go.Proofs.Tryd.prog 55 (.string ⟨#[]⟩) 1 16 := ⟨by kernel_rfl⟩
instance : TI Go.Proofs.Tryd.prog 56 (.tuple #[.string ⟨#[]⟩, .int .i64 0]) 1 0 := ⟨by kernel_rfl⟩
instance : UL Go.Proofs.Tryd.prog 57 (.func #[24] #[55, 36] false) := ⟨Go.Proofs.Tryd.underlying57⟩
instance : TI Go.Proofs.Tryd.prog 57 (.nilFunc) 1 8 := ⟨by kernel_rfl⟩
instance : UL Go.Proofs.Tryd.prog 58 (.func #[33, 33, 33] #[3] false) := ⟨Go.Proofs.Tryd.underlying58⟩
instance : TI Go.Proofs.Tryd.prog 58 (.nilFunc) 1 8 := ⟨by kernel_rfl⟩
instance : UL Go.Proofs.Tryd.prog 59 (.func #[3] #[9] false) := ⟨Go.Proofs.Tryd.underlying59⟩
instance : TI Go.Proofs.Tryd.prog 59 (.nilFunc) 1 8 := ⟨by kernel_rfl⟩
instance : UL Go.Proofs.Tryd.prog 60 (.func #[53] #[4] false) := ⟨Go.Proofs.Tryd.underlying60⟩
instance : TI Go.Proofs.Tryd.prog 60 (.nilFunc) 1 8 := ⟨by kernel_rfl⟩
instance : TI Go.Proofs.Tryd.prog 61 (.tuple #[.int .i64 0, .int .i64 0]) 1 0 := ⟨by kernel_rfl⟩
instance : UL Go.Proofs.Tryd.prog 62 (.func #[24] #[3, 3] false) := ⟨Go.Proofs.Tryd.underlying62⟩
instance : TI Go.Proofs.Tryd.prog 62 (.nilFunc) 1 8 := ⟨by kernel_rfl⟩
instance : UL Go.Proofs.Tryd.prog 63 (.func #[24, 29, 32] #[4] false) := ⟨Go.Proofs.Tryd.underlying63⟩
instance : TI Go.Proofs.Tryd.prog 63 (.nilFunc) 1 8 := ⟨by kernel_rfl⟩
instance : UL Go.Proofs.Tryd.prog 64 (.func #[24] #[24] false) := ⟨Go.Proofs.Tryd.underlying64⟩
instance : TI Go.Proofs.Tryd.prog 64 (.nilFunc) 1 8 := ⟨by kernel_rfl⟩
instance : TI Go.Proofs.Tryd.prog 65 (.tuple #[.agg #[.int .i64 0, .int .i64 0, .int .i64 0], .agg #[.int .i64 0, .int .i64 0, .int .i64 0], .int .i64 0]) 1 0 := ⟨by kernel_rfl⟩
instance : UL Go.Proofs.Tryd.prog 66 (.func #[24] #[33, 33, 36] false) := ⟨Go.Proofs.Tryd.underlying66⟩
instance : TI Go.Proofs.Tryd.prog 66 (.nilFunc) 1 8 := ⟨by kernel_rfl⟩
instance : UL Go.Proofs.Tryd.prog 67 (.func #[22] #[22] false) := ⟨Go.Proofs.Tryd.underlying67⟩
instance : TI Go.Proofs.Tryd.prog 67 (.nilFunc) 1 8 := ⟨by kernel_rfl⟩
instance : UL Go.Proofs.Tryd.prog 68 (.func #[22, 22] #[4] false) := ⟨Go.Proofs.Tryd.underlying68⟩
instance : TI Go.Proofs.Tryd.prog 68 (.nilFunc) 1 8 := ⟨by kernel_rfl⟩
instance : UL Go.Proofs.Tryd.prog 69 (.func #[33] #[4] false) := ⟨Go.Proofs.Tryd.underlying69⟩
instance : TI Go.Proofs.Tryd.prog 69 (.nilFunc) 1 8 := ⟨by kernel_rfl⟩
instance : UL Go.Proofs.Tryd.prog 70 (.func #[89] #[] false) := ⟨Go.Proofs.Tryd.underlying70⟩
instance : TI Go.Proofs.Tryd.prog 70 (.nilFunc) 1 8 := ⟨by kernel_rfl⟩
instance : UL Go.Proofs.Tryd.prog 71 (.func #[89] #[] false) := ⟨Go.Proofs.Tryd.underlying71⟩
instance : TI Go.Proofs.Tryd.prog 71 (.nilFunc) 1 8 := ⟨by kernel_rfl⟩
instance : UL Go.Proofs.Tryd.prog 72 (.map 90 3) := ⟨Go.Proofs.Tryd.underlying72⟩
instance : TI Go.Proofs.Tryd.prog 72 (.map none) 1 8 := ⟨by kernel_rfl⟩
instance : UL Go.Proofs.Tryd.prog 73 (.struct #[{ name := "Mesh", type := 24, offset := 0, embedded := true, tag := "", pkgPath := "", byteOffset := 0 }, { name := "owners", type := 72, offset := 2, embedded := false, tag := "", pkgPath := "verdigris/mesh", byteOffset := 48 }]) := ⟨Go.Proofs.Tryd.underlying73⟩
instance : TI Go.Proofs.Tryd.prog 73 (.agg #[.slice none 0 0, .slice none 0 0, .map none]) 3 56 := ⟨by kernel_rfl⟩
instance : UL Go.Proofs.Tryd.prog 74 (.struct #[{ name := "Mesh", type := 24, offset := 0, embedded := true, tag := "", pkgPath := "", byteOffset := 0 }, { name := "owners", type := 72, offset := 2, embedded := false, tag := "", pkgPath := "verdigris/mesh", byteOffset := 48 }]) := ⟨Go.Proofs.Tryd.underlying74⟩
instance : TI Go.Proofs.Tryd.prog 74 (.agg #[.slice none 0 0, .slice none 0 0, .map none]) 3 56 := ⟨by kernel_rfl⟩
instance : UL Go.Proofs.Tryd.prog 75 (.func #[] #[71] false) := ⟨Go.Proofs.Tryd.underlying75⟩
instance : TI Go.Proofs.Tryd.prog 75 (.nilFunc) 1 8 := ⟨by kernel_rfl⟩
instance : TI Go.Proofs.Tryd.prog 76 (.tuple #[.slice none 0 0, .slice none 0 0]) 1 0 := ⟨by kernel_rfl⟩
instance : UL Go.Proofs.Tryd.prog 77 (.func #[3] #[22, 22] false) := ⟨Go.Proofs.Tryd.underlying77⟩
instance : TI Go.Proofs.Tryd.prog 77 (.nilFunc) 1 8 := ⟨by kernel_rfl⟩
instance : UL Go.Proofs.Tryd.prog 78 (.int .i8) := ⟨Go.Proofs.Tryd.underlying78⟩
instance : TI Go.Proofs.Tryd.prog 78 (.int .i8 0) 1 1 := ⟨by kernel_rfl⟩
instance : UL Go.Proofs.Tryd.prog 79 (.func #[3] #[55] false) := ⟨Go.Proofs.Tryd.underlying79⟩
instance : TI Go.Proofs.Tryd.prog 79 (.nilFunc) 1 8 := ⟨by kernel_rfl⟩
instance : UL Go.Proofs.Tryd.prog 80 (.func #[55, 55] #[55, 36] false) := ⟨Go.Proofs.Tryd.underlying80⟩
instance : TI Go.Proofs.Tryd.prog 80 (.nilFunc) 1 8 := ⟨by kernel_rfl⟩
instance : UL Go.Proofs.Tryd.prog 81 (.func #[33, 33] #[3] false) := ⟨Go.Proofs.Tryd.underlying81⟩
instance : TI Go.Proofs.Tryd.prog 81 (.nilFunc) 1 8 := ⟨by kernel_rfl⟩
instance : UL Go.Proofs.Tryd.prog 82 (.func #[] #[3, 4] false) := ⟨Go.Proofs.Tryd.underlying82⟩
instance : TI Go.Proofs.Tryd.prog 82 (.nilFunc) 1 8 := ⟨by kernel_rfl⟩
instance : UL Go.Proofs.Tryd.prog 83 (.func #[] #[3, 4] false) := ⟨Go.Proofs.Tryd.underlying83⟩
instance : TI Go.Proofs.Tryd.prog 83 (.nilFunc) 1 8 := ⟨by kernel_rfl⟩
instance : UL Go.Proofs.Tryd.prog 84 (.array 7 83) := ⟨Go.Proofs.Tryd.underlying84⟩
instance : TI Go.Proofs.Tryd.prog 84 (.agg #[.nilFunc, .nilFunc, .nilFunc, .nilFunc, .nilFunc, .nilFunc, .nilFunc]) 7 56 := ⟨by kernel_rfl⟩
instance : TI Go.Proofs.Tryd.prog 85 (.tuple #[.int .i64 0, .bool false]) 1 0 := ⟨by kernel_rfl⟩
instance : UL Go.Proofs.Tryd.prog 86 (.func #[24, 3, 3, 3] #[3] false) := ⟨Go.Proofs.Tryd.underlying86⟩
instance : TI Go.Proofs.Tryd.prog 86 (.nilFunc) 1 8 := ⟨by kernel_rfl⟩
instance : UL Go.Proofs.Tryd.prog 87 (.slice 4) := ⟨Go.Proofs.Tryd.underlying87⟩
instance : TI Go.Proofs.Tryd.prog 87 (.slice none 0 0) 1 24 := ⟨by kernel_rfl⟩
instance : UL Go.Proofs.Tryd.prog 88 (.slice 3) := ⟨Go.Proofs.Tryd.underlying88⟩
instance : TI Go.Proofs.Tryd.prog 88 (.slice none 0 0) 1 24 := ⟨by kernel_rfl⟩
instance : UL Go.Proofs.Tryd.prog 89 (.func #[3, 90] #[4] false) := ⟨Go.Proofs.Tryd.underlying89⟩
instance : TI Go.Proofs.Tryd.prog 89 (.nilFunc) 1 8 := ⟨by kernel_rfl⟩
instance : UL Go.Proofs.Tryd.prog 90 (.array 2 3) := ⟨Go.Proofs.Tryd.underlying90⟩
instance : TI Go.Proofs.Tryd.prog 90 (.agg #[.int .i64 0, .int .i64 0]) 2 16 := ⟨by kernel_rfl⟩
instance : UL Go.Proofs.Tryd.prog 91 (.func #[3, 55, 55] #[55, 36] false) := ⟨Go.Proofs.Tryd.underlying91⟩
instance : TI Go.Proofs.Tryd.prog 91 (.nilFunc) 1 8 := ⟨by kernel_rfl⟩
instance : UL Go.Proofs.Tryd.prog 92 (.func #[2, 3] #[9] false) := ⟨Go.Proofs.Tryd.underlying92⟩
instance : TI Go.Proofs.Tryd.prog 92 (.nilFunc) 1 8 := ⟨by kernel_rfl⟩
instance : UL Go.Proofs.Tryd.prog 93 (.func #[] #[90] false) := ⟨Go.Proofs.Tryd.underlying93⟩
instance : TI Go.Proofs.Tryd.prog 93 (.nilFunc) 1 8 := ⟨by kernel_rfl⟩
instance : UL Go.Proofs.Tryd.prog 94 (.func #[87, 4] #[3] false) := ⟨Go.Proofs.Tryd.underlying94⟩
instance : TI Go.Proofs.Tryd.prog 94 (.nilFunc) 1 8 := ⟨by kernel_rfl⟩
instance : UL Go.Proofs.Tryd.prog 95 (.func #[24, 3] #[33] false) := ⟨Go.Proofs.Tryd.underlying95⟩
instance : TI Go.Proofs.Tryd.prog 95 (.nilFunc) 1 8 := ⟨by kernel_rfl⟩
instance : UL Go.Proofs.Tryd.prog 96 (.slice 126) := ⟨Go.Proofs.Tryd.underlying96⟩
instance : TI Go.Proofs.Tryd.prog 96 (.slice none 0 0) 1 24 := ⟨by kernel_rfl⟩
instance : UL Go.Proofs.Tryd.prog 97 (.slice 126) := ⟨Go.Proofs.Tryd.underlying97⟩
instance : TI Go.Proofs.Tryd.prog 97 (.slice none 0 0) 1 24 := ⟨by kernel_rfl⟩
instance : UL Go.Proofs.Tryd.prog 98 (.struct #[{ name := "magnitude", type := 97, offset := 0, embedded := true, tag := "", pkgPath := "verdigris/whole", byteOffset := 0 }, { name := "negative", type := 4, offset := 1, embedded := false, tag := "", pkgPath := "verdigris/whole", byteOffset := 24 }]) := ⟨Go.Proofs.Tryd.underlying98⟩
instance : TI Go.Proofs.Tryd.prog 98 (.agg #[.slice none 0 0, .bool false]) 2 32 := ⟨by kernel_rfl⟩
instance : UL Go.Proofs.Tryd.prog 99 (.struct #[{ name := "magnitude", type := 97, offset := 0, embedded := true, tag := "", pkgPath := "verdigris/whole", byteOffset := 0 }, { name := "negative", type := 4, offset := 1, embedded := false, tag := "", pkgPath := "verdigris/whole", byteOffset := 24 }]) := ⟨Go.Proofs.Tryd.underlying99⟩
instance : TI Go.Proofs.Tryd.prog 99 (.agg #[.slice none 0 0, .bool false]) 2 32 := ⟨by kernel_rfl⟩
instance : TI Go.Proofs.Tryd.prog 100 (.tuple #[.agg #[.slice none 0 0, .bool false], .agg #[.slice none 0 0, .bool false], .int .i64 0]) 1 0 := ⟨by kernel_rfl⟩
instance : UL Go.Proofs.Tryd.prog 101 (.func #[55, 55] #[99, 99, 36] false) := ⟨Go.Proofs.Tryd.underlying101⟩
instance : TI Go.Proofs.Tryd.prog 101 (.nilFunc) 1 8 := ⟨by kernel_rfl⟩
instance : UL Go.Proofs.Tryd.prog 102 (.func #[99, 99] #[99] false) := ⟨Go.Proofs.Tryd.underlying102⟩
instance : TI Go.Proofs.Tryd.prog 102 (.nilFunc) 1 8 := ⟨by kernel_rfl⟩
instance : UL Go.Proofs.Tryd.prog 103 (.func #[99] #[99] false) := ⟨Go.Proofs.Tryd.underlying103⟩
instance : TI Go.Proofs.Tryd.prog 103 (.nilFunc) 1 8 := ⟨by kernel_rfl⟩
instance : UL Go.Proofs.Tryd.prog 104 (.struct #[{ name := "run", type := 102, offset := 0, embedded := false, tag := "", pkgPath := "verdigris/whole", byteOffset := 0 }]) := ⟨Go.Proofs.Tryd.underlying104⟩
instance : TI Go.Proofs.Tryd.prog 104 (.agg #[.nilFunc]) 1 8 := ⟨by kernel_rfl⟩
instance : UL Go.Proofs.Tryd.prog 105 (.struct #[{ name := "run", type := 102, offset := 0, embedded := false, tag := "", pkgPath := "verdigris/whole", byteOffset := 0 }]) := ⟨Go.Proofs.Tryd.underlying105⟩
instance : TI Go.Proofs.Tryd.prog 105 (.agg #[.nilFunc]) 1 8 := ⟨by kernel_rfl⟩
instance : UL Go.Proofs.Tryd.prog 106 (.array 4 105) := ⟨Go.Proofs.Tryd.underlying106⟩
instance : TI Go.Proofs.Tryd.prog 106 (.agg #[.nilFunc, .nilFunc, .nilFunc, .nilFunc]) 4 32 := ⟨by kernel_rfl⟩
instance : UL Go.Proofs.Tryd.prog 107 (.func #[99] #[55, 36] false) := ⟨Go.Proofs.Tryd.underlying107⟩
instance : TI Go.Proofs.Tryd.prog 107 (.nilFunc) 1 8 := ⟨by kernel_rfl⟩
instance : UL Go.Proofs.Tryd.prog 108 (.array 24 5) := ⟨Go.Proofs.Tryd.underlying108⟩
instance : TI Go.Proofs.Tryd.prog 108 (.agg #[.int .u8 0, .int .u8 0, .int .u8 0, .int .u8 0, .int .u8 0, .int .u8 0, .int .u8 0, .int .u8 0, .int .u8 0, .int .u8 0, .int .u8 0, .int .u8 0, .int .u8 0, .int .u8 0, .int .u8 0, .int .u8 0, .int .u8 0, .int .u8 0, .int .u8 0, .int .u8 0, .int .u8 0, .int .u8 0, .int .u8 0, .int .u8 0]) 24 24 := ⟨by kernel_rfl⟩
instance : UL Go.Proofs.Tryd.prog 109 (.int .u64) := ⟨Go.Proofs.Tryd.underlying109⟩
instance : TI Go.Proofs.Tryd.prog 109 (.int .u64 0) 1 8 := ⟨by kernel_rfl⟩
instance : UL Go.Proofs.Tryd.prog 110 (.func #[109] #[3] false) := ⟨Go.Proofs.Tryd.underlying110⟩
instance : TI Go.Proofs.Tryd.prog 110 (.nilFunc) 1 8 := ⟨by kernel_rfl⟩
instance : UL Go.Proofs.Tryd.prog 111 (.func #[112, 109] #[] false) := ⟨Go.Proofs.Tryd.underlying111⟩
instance : TI Go.Proofs.Tryd.prog 111 (.nilFunc) 1 8 := ⟨by kernel_rfl⟩
instance : UL Go.Proofs.Tryd.prog 112 (.slice 5) := ⟨Go.Proofs.Tryd.underlying112⟩
instance : TI Go.Proofs.Tryd.prog 112 (.slice none 0 0) 1 24 := ⟨by kernel_rfl⟩
instance : TI Go.Proofs.Tryd.prog 113 (.tuple #[.slice none 0 0, .string ⟨#[]⟩]) 1 0 := ⟨by kernel_rfl⟩
instance : UL Go.Proofs.Tryd.prog 114 (.func #[112, 109, 3, 4, 4] #[112, 9] false) := ⟨Go.Proofs.Tryd.underlying114⟩
instance : TI Go.Proofs.Tryd.prog 114 (.nilFunc) 1 8 := ⟨by kernel_rfl⟩
instance : TI Go.Proofs.Tryd.prog 115 (.tuple #[.agg #[.slice none 0 0, .bool false], .bool false]) 1 0 := ⟨by kernel_rfl⟩
instance : UL Go.Proofs.Tryd.prog 116 (.func #[55] #[99, 4] false) := ⟨Go.Proofs.Tryd.underlying116⟩
instance : TI Go.Proofs.Tryd.prog 116 (.nilFunc) 1 8 := ⟨by kernel_rfl⟩
instance : UL Go.Proofs.Tryd.prog 117 (.func #[97, 4] #[99] false) := ⟨Go.Proofs.Tryd.underlying117⟩
instance : TI Go.Proofs.Tryd.prog 117 (.nilFunc) 1 8 := ⟨by kernel_rfl⟩
instance : UL Go.Proofs.Tryd.prog 118 (.func #[97] #[97] false) := ⟨Go.Proofs.Tryd.underlying118⟩
instance : TI Go.Proofs.Tryd.prog 118 (.nilFunc) 1 8 := ⟨by kernel_rfl⟩
instance : UL Go.Proofs.Tryd.prog 119 (.func #[97] #[3] false) := ⟨Go.Proofs.Tryd.underlying119⟩
instance : TI Go.Proofs.Tryd.prog 119 (.nilFunc) 1 8 := ⟨by kernel_rfl⟩
instance : UL Go.Proofs.Tryd.prog 120 (.func #[] #[99] false) := ⟨Go.Proofs.Tryd.underlying120⟩
instance : TI Go.Proofs.Tryd.prog 120 (.nilFunc) 1 8 := ⟨by kernel_rfl⟩
instance : UL Go.Proofs.Tryd.prog 121 (.func #[] #[3] false) := ⟨Go.Proofs.Tryd.underlying121⟩
instance : TI Go.Proofs.Tryd.prog 121 (.nilFunc) 1 8 := ⟨by kernel_rfl⟩
instance : UL Go.Proofs.Tryd.prog 122 (.func #[] #[9] false) := ⟨Go.Proofs.Tryd.underlying122⟩
instance : TI Go.Proofs.Tryd.prog 122 (.nilFunc) 1 8 := ⟨by kernel_rfl⟩
instance : UL Go.Proofs.Tryd.prog 123 (.func #[3] #[3] false) := ⟨Go.Proofs.Tryd.underlying123⟩
instance : TI Go.Proofs.Tryd.prog 123 (.nilFunc) 1 8 := ⟨by kernel_rfl⟩
instance : UL Go.Proofs.Tryd.prog 124 (.func #[4] #[3] false) := ⟨Go.Proofs.Tryd.underlying124⟩
instance : TI Go.Proofs.Tryd.prog 124 (.nilFunc) 1 8 := ⟨by kernel_rfl⟩
instance : UL Go.Proofs.Tryd.prog 125 (.array 20 109) := ⟨Go.Proofs.Tryd.underlying125⟩
instance : TI Go.Proofs.Tryd.prog 125 (.agg #[.int .u64 0, .int .u64 0, .int .u64 0, .int .u64 0, .int .u64 0, .int .u64 0, .int .u64 0, .int .u64 0, .int .u64 0, .int .u64 0, .int .u64 0, .int .u64 0, .int .u64 0, .int .u64 0, .int .u64 0, .int .u64 0, .int .u64 0, .int .u64 0, .int .u64 0, .int .u64 0]) 20 160 := ⟨by kernel_rfl⟩
instance : UL Go.Proofs.Tryd.prog 126 (.int .u32) := ⟨Go.Proofs.Tryd.underlying126⟩
instance : TI Go.Proofs.Tryd.prog 126 (.int .u32 0) 1 4 := ⟨by kernel_rfl⟩
instance : UL Go.Proofs.Tryd.prog 127 (.array 65 5) := ⟨Go.Proofs.Tryd.underlying127⟩
instance : UL Go.Proofs.Tryd.prog 128 (.func #[3] #[4] false) := ⟨Go.Proofs.Tryd.underlying128⟩
instance : TI Go.Proofs.Tryd.prog 128 (.nilFunc) 1 8 := ⟨by kernel_rfl⟩
instance : UL Go.Proofs.Tryd.prog 129 (.int .u64) := ⟨Go.Proofs.Tryd.underlying129⟩
instance : TI Go.Proofs.Tryd.prog 129 (.int .u64 0) 1 8 := ⟨by kernel_rfl⟩
instance : UL Go.Proofs.Tryd.prog 130 (.func #[129] #[3] false) := ⟨Go.Proofs.Tryd.underlying130⟩
instance : TI Go.Proofs.Tryd.prog 130 (.nilFunc) 1 8 := ⟨by kernel_rfl⟩
instance : TI Go.Proofs.Tryd.prog 131 (.tuple #[.string ⟨#[]⟩, .bool false]) 1 0 := ⟨by kernel_rfl⟩
instance : UL Go.Proofs.Tryd.prog 132 (.func #[9, 9] #[9, 4] false) := ⟨Go.Proofs.Tryd.underlying132⟩
instance : TI Go.Proofs.Tryd.prog 132 (.nilFunc) 1 8 := ⟨by kernel_rfl⟩
instance : UL Go.Proofs.Tryd.prog 133 (.func #[9] #[97] false) := ⟨Go.Proofs.Tryd.underlying133⟩
instance : TI Go.Proofs.Tryd.prog 133 (.nilFunc) 1 8 := ⟨by kernel_rfl⟩
instance : UL Go.Proofs.Tryd.prog 134 (.func #[3, 3] #[3] false) := ⟨Go.Proofs.Tryd.underlying134⟩
instance : TI Go.Proofs.Tryd.prog 134 (.nilFunc) 1 8 := ⟨by kernel_rfl⟩
instance : UL Go.Proofs.Tryd.prog 135 (.func #[126, 126] #[3] false) := ⟨Go.Proofs.Tryd.underlying135⟩
instance : TI Go.Proofs.Tryd.prog 135 (.nilFunc) 1 8 := ⟨by kernel_rfl⟩
instance : UL Go.Proofs.Tryd.prog 136 (.func #[] #[97] false) := ⟨Go.Proofs.Tryd.underlying136⟩
instance : TI Go.Proofs.Tryd.prog 136 (.nilFunc) 1 8 := ⟨by kernel_rfl⟩
instance : UL Go.Proofs.Tryd.prog 137 (.func #[] #[109] false) := ⟨Go.Proofs.Tryd.underlying137⟩
instance : TI Go.Proofs.Tryd.prog 137 (.nilFunc) 1 8 := ⟨by kernel_rfl⟩
instance : UL Go.Proofs.Tryd.prog 138 (.func #[109] #[97] false) := ⟨Go.Proofs.Tryd.underlying138⟩
instance : TI Go.Proofs.Tryd.prog 138 (.nilFunc) 1 8 := ⟨by kernel_rfl⟩
instance : TI Go.Proofs.Tryd.prog 139 (.tuple #[.slice none 0 0, .slice none 0 0]) 1 0 := ⟨by kernel_rfl⟩
instance : UL Go.Proofs.Tryd.prog 140 (.func #[97] #[97, 97] false) := ⟨Go.Proofs.Tryd.underlying140⟩
instance : TI Go.Proofs.Tryd.prog 140 (.nilFunc) 1 8 := ⟨by kernel_rfl⟩
instance : UL Go.Proofs.Tryd.prog 141 (.pointer 143) := ⟨Go.Proofs.Tryd.underlying141⟩
instance : TI Go.Proofs.Tryd.prog 141 (.pointer none) 1 8 := ⟨by kernel_rfl⟩
instance : UL Go.Proofs.Tryd.prog 142 (.struct #[{ name := "addr", type := 141, offset := 0, embedded := false, tag := "", pkgPath := "strings", byteOffset := 0 }, { name := "buf", type := 112, offset := 1, embedded := false, tag := "", pkgPath := "strings", byteOffset := 8 }]) := ⟨Go.Proofs.Tryd.underlying142⟩
instance : TI Go.Proofs.Tryd.prog 142 (.agg #[.pointer none, .slice none 0 0]) 2 32 := ⟨by kernel_rfl⟩
instance : UL Go.Proofs.Tryd.prog 143 (.struct #[{ name := "addr", type := 141, offset := 0, embedded := false, tag := "", pkgPath := "strings", byteOffset := 0 }, { name := "buf", type := 112, offset := 1, embedded := false, tag := "", pkgPath := "strings", byteOffset := 8 }]) := ⟨Go.Proofs.Tryd.underlying143⟩
instance : TI Go.Proofs.Tryd.prog 143 (.agg #[.pointer none, .slice none 0 0]) 2 32 := ⟨by kernel_rfl⟩
instance : TI Go.Proofs.Tryd.prog 145 (.nilIface) 1 16 := ⟨by kernel_rfl⟩
instance : UL Go.Proofs.Tryd.prog 146 (.func #[5] #[145] false) := ⟨Go.Proofs.Tryd.underlying146⟩
instance : TI Go.Proofs.Tryd.prog 146 (.nilFunc) 1 8 := ⟨by kernel_rfl⟩
instance : TI Go.Proofs.Tryd.prog 147 (.tuple #[.int .i64 0, .nilIface]) 1 0 := ⟨by kernel_rfl⟩
instance : UL Go.Proofs.Tryd.prog 148 (.func #[9] #[3, 145] false) := ⟨Go.Proofs.Tryd.underlying148⟩
instance : TI Go.Proofs.Tryd.prog 148 (.nilFunc) 1 8 := ⟨by kernel_rfl⟩
instance : UL Go.Proofs.Tryd.prog 149 (.func #[126, 3] #[] false) := ⟨Go.Proofs.Tryd.underlying149⟩
instance : TI Go.Proofs.Tryd.prog 149 (.nilFunc) 1 8 := ⟨by kernel_rfl⟩
instance : UL Go.Proofs.Tryd.prog 150 (.func #[126] #[3] false) := ⟨Go.Proofs.Tryd.underlying150⟩
instance : TI Go.Proofs.Tryd.prog 150 (.nilFunc) 1 8 := ⟨by kernel_rfl⟩
instance : UL Go.Proofs.Tryd.prog 151 (.func #[126] #[4] false) := ⟨Go.Proofs.Tryd.underlying151⟩
instance : TI Go.Proofs.Tryd.prog 151 (.nilFunc) 1 8 := ⟨by kernel_rfl⟩
instance : TI Go.Proofs.Tryd.prog 152 (.tuple #[.slice none 0 0, .int .u32 0]) 1 0 := ⟨by kernel_rfl⟩
instance : UL Go.Proofs.Tryd.prog 153 (.func #[126] #[97, 126] false) := ⟨Go.Proofs.Tryd.underlying153⟩
instance : TI Go.Proofs.Tryd.prog 153 (.nilFunc) 1 8 := ⟨by kernel_rfl⟩
instance : UL Go.Proofs.Tryd.prog 154 (.func #[97, 97] #[126] false) := ⟨Go.Proofs.Tryd.underlying154⟩
instance : TI Go.Proofs.Tryd.prog 154 (.nilFunc) 1 8 := ⟨by kernel_rfl⟩
instance : UL Go.Proofs.Tryd.prog 155 (.pointer 5) := ⟨Go.Proofs.Tryd.underlying155⟩
instance : TI Go.Proofs.Tryd.prog 155 (.pointer none) 1 8 := ⟨by kernel_rfl⟩
instance : UL Go.Proofs.Tryd.prog 156 (.array 32 5) := ⟨Go.Proofs.Tryd.underlying156⟩
instance : TI Go.Proofs.Tryd.prog 156 (.agg #[.int .u8 0, .int .u8 0, .int .u8 0, .int .u8 0, .int .u8 0, .int .u8 0, .int .u8 0, .int .u8 0, .int .u8 0, .int .u8 0, .int .u8 0, .int .u8 0, .int .u8 0, .int .u8 0, .int .u8 0, .int .u8 0, .int .u8 0, .int .u8 0, .int .u8 0, .int .u8 0, .int .u8 0, .int .u8 0, .int .u8 0, .int .u8 0, .int .u8 0, .int .u8 0, .int .u8 0, .int .u8 0, .int .u8 0, .int .u8 0, .int .u8 0, .int .u8 0]) 32 32 := ⟨by kernel_rfl⟩
instance : UL Go.Proofs.Tryd.prog 157 (.array 64 5) := ⟨Go.Proofs.Tryd.underlying157⟩
instance : TI Go.Proofs.Tryd.prog 157 (.agg #[.int .u8 0, .int .u8 0, .int .u8 0, .int .u8 0, .int .u8 0, .int .u8 0, .int .u8 0, .int .u8 0, .int .u8 0, .int .u8 0, .int .u8 0, .int .u8 0, .int .u8 0, .int .u8 0, .int .u8 0, .int .u8 0, .int .u8 0, .int .u8 0, .int .u8 0, .int .u8 0, .int .u8 0, .int .u8 0, .int .u8 0, .int .u8 0, .int .u8 0, .int .u8 0, .int .u8 0, .int .u8 0, .int .u8 0, .int .u8 0, .int .u8 0, .int .u8 0, .int .u8 0, .int .u8 0, .int .u8 0, .int .u8 0, .int .u8 0, .int .u8 0, .int .u8 0, .int .u8 0, .int .u8 0, .int .u8 0, .int .u8 0, .int .u8 0, .int .u8 0, .int .u8 0, .int .u8 0, .int .u8 0, .int .u8 0, .int .u8 0, .int .u8 0, .int .u8 0, .int .u8 0, .int .u8 0, .int .u8 0, .int .u8 0, .int .u8 0, .int .u8 0, .int .u8 0, .int .u8 0, .int .u8 0, .int .u8 0, .int .u8 0, .int .u8 0]) 64 64 := ⟨by kernel_rfl⟩
instance : UL Go.Proofs.Tryd.prog 158 (.func #[9, 9] #[4] false) := ⟨Go.Proofs.Tryd.underlying158⟩
instance : TI Go.Proofs.Tryd.prog 158 (.nilFunc) 1 8 := ⟨by kernel_rfl⟩
instance : UL Go.Proofs.Tryd.prog 159 (.unsafePointer) := ⟨Go.Proofs.Tryd.underlying159⟩
instance : TI Go.Proofs.Tryd.prog 159 (.pointer none) 1 8 := ⟨by kernel_rfl⟩
instance : UL Go.Proofs.Tryd.prog 160 (.func #[159] #[159] false) := ⟨Go.Proofs.Tryd.underlying160⟩
instance : TI Go.Proofs.Tryd.prog 160 (.nilFunc) 1 8 := ⟨by kernel_rfl⟩
instance : UL Go.Proofs.Tryd.prog 161 (.struct #[{ name := "_interface", type := 17, offset := 0, embedded := false, tag := "", pkgPath := "runtime", byteOffset := 0 }, { name := "concrete", type := 17, offset := 1, embedded := false, tag := "", pkgPath := "runtime", byteOffset := 8 }, { name := "asserted", type := 17, offset := 2, embedded := false, tag := "", pkgPath := "runtime", byteOffset := 16 }, { name := "missingMethod", type := 9, offset := 3, embedded := false, tag := "", pkgPath := "runtime", byteOffset := 24 }]) := ⟨Go.Proofs.Tryd.underlying161⟩
instance : TI Go.Proofs.Tryd.prog 161 (.agg #[.pointer none, .pointer none, .pointer none, .string ⟨#[]⟩]) 4 40 := ⟨by kernel_rfl⟩
instance : UL Go.Proofs.Tryd.prog 162 (.struct #[{ name := "_interface", type := 17, offset := 0, embedded := false, tag := "", pkgPath := "runtime", byteOffset := 0 }, { name := "concrete", type := 17, offset := 1, embedded := false, tag := "", pkgPath := "runtime", byteOffset := 8 }, { name := "asserted", type := 17, offset := 2, embedded := false, tag := "", pkgPath := "runtime", byteOffset := 16 }, { name := "missingMethod", type := 9, offset := 3, embedded := false, tag := "", pkgPath := "runtime", byteOffset := 24 }]) := ⟨Go.Proofs.Tryd.underlying162⟩
instance : TI Go.Proofs.Tryd.prog 162 (.agg #[.pointer none, .pointer none, .pointer none, .string ⟨#[]⟩]) 4 40 := ⟨by kernel_rfl⟩
instance : UL Go.Proofs.Tryd.prog 163 (.array 0 16) := ⟨Go.Proofs.Tryd.underlying163⟩
instance : TI Go.Proofs.Tryd.prog 163 (.agg #[]) 0 0 := ⟨by kernel_rfl⟩
instance : UL Go.Proofs.Tryd.prog 164 (.struct #[{ name := "_", type := 163, offset := 0, embedded := false, tag := "", pkgPath := "runtime", byteOffset := 0 }]) := ⟨Go.Proofs.Tryd.underlying164⟩
instance : TI Go.Proofs.Tryd.prog 164 (.agg #[]) 0 0 := ⟨by kernel_rfl⟩
instance : UL Go.Proofs.Tryd.prog 165 (.struct #[{ name := "_", type := 163, offset := 0, embedded := false, tag := "", pkgPath := "runtime", byteOffset := 0 }]) := ⟨Go.Proofs.Tryd.underlying165⟩
instance : TI Go.Proofs.Tryd.prog 165 (.agg #[]) 0 0 := ⟨by kernel_rfl⟩
instance : UL Go.Proofs.Tryd.prog 166 (.int .u8) := ⟨Go.Proofs.Tryd.underlying166⟩
instance : TI Go.Proofs.Tryd.prog 166 (.int .u8 0) 1 1 := ⟨by kernel_rfl⟩
instance : UL Go.Proofs.Tryd.prog 167 (.int .u8) := ⟨Go.Proofs.Tryd.underlying167⟩
instance : TI Go.Proofs.Tryd.prog 167 (.int .u8 0) 1 1 := ⟨by kernel_rfl⟩
instance : UL Go.Proofs.Tryd.prog 168 (.func #[159, 159] #[4] false) := ⟨Go.Proofs.Tryd.underlying168⟩
instance : TI Go.Proofs.Tryd.prog 168 (.nilFunc) 1 8 := ⟨by kernel_rfl⟩
instance : UL Go.Proofs.Tryd.prog 169 (.int .i32) := ⟨Go.Proofs.Tryd.underlying169⟩
instance : TI Go.Proofs.Tryd.prog 169 (.int .i32 0) 1 4 := ⟨by kernel_rfl⟩
instance : UL Go.Proofs.Tryd.prog 170 (.int .i32) := ⟨Go.Proofs.Tryd.underlying170⟩
instance : TI Go.Proofs.Tryd.prog 170 (.int .i32 0) 1 4 := ⟨by kernel_rfl⟩
instance : UL Go.Proofs.Tryd.prog 171 (.struct #[{ name := "Size_", type := 12, offset := 0, embedded := false, tag := "", pkgPath := "", byteOffset := 0 }, { name := "PtrBytes", type := 12, offset := 1, embedded := false, tag := "", pkgPath := "", byteOffset := 8 }, { name := "Hash", type := 126, offset := 2, embedded := false, tag := "", pkgPath := "", byteOffset := 16 }, { name := "TFlag", type := 166, offset := 3, embedded := false, tag := "", pkgPath := "", byteOffset := 20 }, { name := "Align_", type := 5, offset := 4, embedded := false, tag := "", pkgPath := "", byteOffset := 21 }, { name := "FieldAlign_", type := 5, offset := 5, embedded := false, tag := "", pkgPath := "", byteOffset := 22 }, { name := "Kind_", type := 167, offset := 6, embedded := false, tag := "", pkgPath := "", byteOffset := 23 }, { name := "Equal", type := 168, offset := 7, embedded := false, tag := "", pkgPath := "", byteOffset := 24 }, { name := "GCData", type := 155, offset := 8, embedded := false, tag := "", pkgPath := "", byteOffset := 32 }, { name := "Str", type := 169, offset := 9, embedded := false, tag := "", pkgPath := "", byteOffset := 40 }, { name := "PtrToThis", type := 170, offset := 10, embedded := false, tag := "", pkgPath := "", byteOffset := 44 }]) := ⟨Go.Proofs.Tryd.underlying171⟩
instance : TI Go.Proofs.Tryd.prog 171 (.agg #[.int .u64 0, .int .u64 0, .int .u32 0, .int .u8 0, .int .u8 0, .int .u8 0, .int .u8 0, .nilFunc, .pointer none, .int .i32 0, .int .i32 0]) 11 48 := ⟨by kernel_rfl⟩
instance : UL Go.Proofs.Tryd.prog 172 (.struct #[{ name := "Size_", type := 12, offset := 0, embedded := false, tag := "", pkgPath := "", byteOffset := 0 }, { name := "PtrBytes", type := 12, offset := 1, embedded := false, tag := "", pkgPath := "", byteOffset := 8 }, { name := "Hash", type := 126, offset := 2, embedded := false, tag := "", pkgPath := "", byteOffset := 16 }, { name := "TFlag", type := 166, offset := 3, embedded := false, tag := "", pkgPath := "", byteOffset := 20 }, { name := "Align_", type := 5, offset := 4, embedded := false, tag := "", pkgPath := "", byteOffset := 21 }, { name := "FieldAlign_", type := 5, offset := 5, embedded := false, tag := "", pkgPath := "", byteOffset := 22 }, { name := "Kind_", type := 167, offset := 6, embedded := false, tag := "", pkgPath := "", byteOffset := 23 }, { name := "Equal", type := 168, offset := 7, embedded := false, tag := "", pkgPath := "", byteOffset := 24 }, { name := "GCData", type := 155, offset := 8, embedded := false, tag := "", pkgPath := "", byteOffset := 32 }, { name := "Str", type := 169, offset := 9, embedded := false, tag := "", pkgPath := "", byteOffset := 40 }, { name := "PtrToThis", type := 170, offset := 10, embedded := false, tag := "", pkgPath := "", byteOffset := 44 }]) := ⟨Go.Proofs.Tryd.underlying172⟩
instance : TI Go.Proofs.Tryd.prog 172 (.agg #[.int .u64 0, .int .u64 0, .int .u32 0, .int .u8 0, .int .u8 0, .int .u8 0, .int .u8 0, .nilFunc, .pointer none, .int .i32 0, .int .i32 0]) 11 48 := ⟨by kernel_rfl⟩
instance : FO Go.Proofs.Tryd.prog 7 0 0 1 := ⟨_, _, Go.Proofs.Tryd.underlying7, rfl, rfl, (by obtain ⟨i, h1, _, h2, _⟩ := (inferInstance : TI Go.Proofs.Tryd.prog 2 _ _ _).info; exact ⟨i, h1, h2⟩), by decide⟩
instance : FO Go.Proofs.Tryd.prog 7 1 1 1 := ⟨_, _, Go.Proofs.Tryd.underlying7, rfl, rfl, (by obtain ⟨i, h1, _, h2, _⟩ := (inferInstance : TI Go.Proofs.Tryd.prog 3 _ _ _).info; exact ⟨i, h1, h2⟩), by decide⟩
instance : FO Go.Proofs.Tryd.prog 7 2 2 1 := ⟨_, _, Go.Proofs.Tryd.underlying7, rfl, rfl, (by obtain ⟨i, h1, _, h2, _⟩ := (inferInstance : TI Go.Proofs.Tryd.prog 4 _ _ _).info; exact ⟨i, h1, h2⟩), by decide⟩
instance : FO Go.Proofs.Tryd.prog 7 3 3 1 := ⟨_, _, Go.Proofs.Tryd.underlying7, rfl, rfl, (by obtain ⟨i, h1, _, h2, _⟩ := (inferInstance : TI Go.Proofs.Tryd.prog 6 _ _ _).info; exact ⟨i, h1, h2⟩), by decide⟩
instance : FO Go.Proofs.Tryd.prog 8 0 0 1 := ⟨_, _, Go.Proofs.Tryd.underlying8, rfl, rfl, (by obtain ⟨i, h1, _, h2, _⟩ := (inferInstance : TI Go.Proofs.Tryd.prog 2 _ _ _).info; exact ⟨i, h1, h2⟩), by decide⟩
instance : FO Go.Proofs.Tryd.prog 8 1 1 1 := ⟨_, _, Go.Proofs.Tryd.underlying8, rfl, rfl, (by obtain ⟨i, h1, _, h2, _⟩ := (inferInstance : TI Go.Proofs.Tryd.prog 3 _ _ _).info; exact ⟨i, h1, h2⟩), by decide⟩
instance : FO Go.Proofs.Tryd.prog 8 2 2 1 := ⟨_, _, Go.Proofs.Tryd.underlying8, rfl, rfl, (by obtain ⟨i, h1, _, h2, _⟩ := (inferInstance : TI Go.Proofs.Tryd.prog 4 _ _ _).info; exact ⟨i, h1, h2⟩), by decide⟩
instance : FO Go.Proofs.Tryd.prog 8 3 3 1 := ⟨_, _, Go.Proofs.Tryd.underlying8, rfl, rfl, (by obtain ⟨i, h1, _, h2, _⟩ := (inferInstance : TI Go.Proofs.Tryd.prog 6 _ _ _).info; exact ⟨i, h1, h2⟩), by decide⟩
instance : FO Go.Proofs.Tryd.prog 13 0 0 1 := ⟨_, _, Go.Proofs.Tryd.underlying13, rfl, rfl, (by obtain ⟨i, h1, _, h2, _⟩ := (inferInstance : TI Go.Proofs.Tryd.prog 9 _ _ _).info; exact ⟨i, h1, h2⟩), by decide⟩
instance : FO Go.Proofs.Tryd.prog 13 1 1 1 := ⟨_, _, Go.Proofs.Tryd.underlying13, rfl, rfl, (by obtain ⟨i, h1, _, h2, _⟩ := (inferInstance : TI Go.Proofs.Tryd.prog 12 _ _ _).info; exact ⟨i, h1, h2⟩), by decide⟩
instance : FO Go.Proofs.Tryd.prog 14 0 0 1 := ⟨_, _, Go.Proofs.Tryd.underlying14, rfl, rfl, (by obtain ⟨i, h1, _, h2, _⟩ := (inferInstance : TI Go.Proofs.Tryd.prog 9 _ _ _).info; exact ⟨i, h1, h2⟩), by decide⟩
instance : FO Go.Proofs.Tryd.prog 14 1 1 1 := ⟨_, _, Go.Proofs.Tryd.underlying14, rfl, rfl, (by obtain ⟨i, h1, _, h2, _⟩ := (inferInstance : TI Go.Proofs.Tryd.prog 12 _ _ _).info; exact ⟨i, h1, h2⟩), by decide⟩
instance : FO Go.Proofs.Tryd.prog 18 0 0 1 := ⟨_, _, Go.Proofs.Tryd.underlying18, rfl, rfl, (by obtain ⟨i, h1, _, h2, _⟩ := (inferInstance : TI Go.Proofs.Tryd.prog 17 _ _ _).info; exact ⟨i, h1, h2⟩), by decide⟩
instance : FO Go.Proofs.Tryd.prog 19 0 0 1 := ⟨_, _, Go.Proofs.Tryd.underlying19, rfl, rfl, (by obtain ⟨i, h1, _, h2, _⟩ := (inferInstance : TI Go.Proofs.Tryd.prog 17 _ _ _).info; exact ⟨i, h1, h2⟩), by decide⟩
instance : FO Go.Proofs.Tryd.prog 23 0 0 1 := ⟨_, _, Go.Proofs.Tryd.underlying23, rfl, rfl, (by obtain ⟨i, h1, _, h2, _⟩ := (inferInstance : TI Go.Proofs.Tryd.prog 22 _ _ _).info; exact ⟨i, h1, h2⟩), by decide⟩
instance : FO Go.Proofs.Tryd.prog 23 1 1 1 := ⟨_, _, Go.Proofs.Tryd.underlying23, rfl, rfl, (by obtain ⟨i, h1, _, h2, _⟩ := (inferInstance : TI Go.Proofs.Tryd.prog 22 _ _ _).info; exact ⟨i, h1, h2⟩), by decide⟩
instance : FO Go.Proofs.Tryd.prog 24 0 0 1 := ⟨_, _, Go.Proofs.Tryd.underlying24, rfl, rfl, (by obtain ⟨i, h1, _, h2, _⟩ := (inferInstance : TI Go.Proofs.Tryd.prog 22 _ _ _).info; exact ⟨i, h1, h2⟩), by decide⟩
instance : FO Go.Proofs.Tryd.prog 24 1 1 1 := ⟨_, _, Go.Proofs.Tryd.underlying24, rfl, rfl, (by obtain ⟨i, h1, _, h2, _⟩ := (inferInstance : TI Go.Proofs.Tryd.prog 22 _ _ _).info; exact ⟨i, h1, h2⟩), by decide⟩
instance : FO Go.Proofs.Tryd.prog 28 0 0 1 := ⟨_, _, Go.Proofs.Tryd.underlying28, rfl, rfl, (by obtain ⟨i, h1, _, h2, _⟩ := (inferInstance : TI Go.Proofs.Tryd.prog 5 _ _ _).info; exact ⟨i, h1, h2⟩), by decide⟩
instance : FO Go.Proofs.Tryd.prog 28 1 1 1 := ⟨_, _, Go.Proofs.Tryd.underlying28, rfl, rfl, (by obtain ⟨i, h1, _, h2, _⟩ := (inferInstance : TI Go.Proofs.Tryd.prog 5 _ _ _).info; exact ⟨i, h1, h2⟩), by decide⟩
instance : FO Go.Proofs.Tryd.prog 28 2 2 3 := ⟨_, _, Go.Proofs.Tryd.underlying28, rfl, rfl, (by obtain ⟨i, h1, _, h2, _⟩ := (inferInstance : TI Go.Proofs.Tryd.prog 26 _ _ _).info; exact ⟨i, h1, h2⟩), by decide⟩
instance : FO Go.Proofs.Tryd.prog 28 3 5 1 := ⟨_, _, Go.Proofs.Tryd.underlying28, rfl, rfl, (by obtain ⟨i, h1, _, h2, _⟩ := (inferInstance : TI Go.Proofs.Tryd.prog 27 _ _ _).info; exact ⟨i, h1, h2⟩), by decide⟩
instance : FO Go.Proofs.Tryd.prog 28 4 6 1 := ⟨_, _, Go.Proofs.Tryd.underlying28, rfl, rfl, (by obtain ⟨i, h1, _, h2, _⟩ := (inferInstance : TI Go.Proofs.Tryd.prog 4 _ _ _).info; exact ⟨i, h1, h2⟩), by decide⟩
instance : FO Go.Proofs.Tryd.prog 29 0 0 1 := ⟨_, _, Go.Proofs.Tryd.underlying29, rfl, rfl, (by obtain ⟨i, h1, _, h2, _⟩ := (inferInstance : TI Go.Proofs.Tryd.prog 5 _ _ _).info; exact ⟨i, h1, h2⟩), by decide⟩
instance : FO Go.Proofs.Tryd.prog 29 1 1 1 := ⟨_, _, Go.Proofs.Tryd.underlying29, rfl, rfl, (by obtain ⟨i, h1, _, h2, _⟩ := (inferInstance : TI Go.Proofs.Tryd.prog 5 _ _ _).info; exact ⟨i, h1, h2⟩), by decide⟩
instance : FO Go.Proofs.Tryd.prog 29 2 2 3 := ⟨_, _, Go.Proofs.Tryd.underlying29, rfl, rfl, (by obtain ⟨i, h1, _, h2, _⟩ := (inferInstance : TI Go.Proofs.Tryd.prog 26 _ _ _).info; exact ⟨i, h1, h2⟩), by decide⟩
instance : FO Go.Proofs.Tryd.prog 29 3 5 1 := ⟨_, _, Go.Proofs.Tryd.underlying29, rfl, rfl, (by obtain ⟨i, h1, _, h2, _⟩ := (inferInstance : TI Go.Proofs.Tryd.prog 27 _ _ _).info; exact ⟨i, h1, h2⟩), by decide⟩
instance : FO Go.Proofs.Tryd.prog 29 4 6 1 := ⟨_, _, Go.Proofs.Tryd.underlying29, rfl, rfl, (by obtain ⟨i, h1, _, h2, _⟩ := (inferInstance : TI Go.Proofs.Tryd.prog 4 _ _ _).info; exact ⟨i, h1, h2⟩), by decide⟩
instance : FO Go.Proofs.Tryd.prog 30 0 0 1 := ⟨_, _, Go.Proofs.Tryd.underlying30, rfl, rfl, (by obtain ⟨i, h1, _, h2, _⟩ := (inferInstance : TI Go.Proofs.Tryd.prog 5 _ _ _).info; exact ⟨i, h1, h2⟩), by decide⟩
instance : FO Go.Proofs.Tryd.prog 30 1 1 1 := ⟨_, _, Go.Proofs.Tryd.underlying30, rfl, rfl, (by obtain ⟨i, h1, _, h2, _⟩ := (inferInstance : TI Go.Proofs.Tryd.prog 5 _ _ _).info; exact ⟨i, h1, h2⟩), by decide⟩
instance : FO Go.Proofs.Tryd.prog 30 2 2 1 := ⟨_, _, Go.Proofs.Tryd.underlying30, rfl, rfl, (by obtain ⟨i, h1, _, h2, _⟩ := (inferInstance : TI Go.Proofs.Tryd.prog 5 _ _ _).info; exact ⟨i, h1, h2⟩), by decide⟩
instance : FO Go.Proofs.Tryd.prog 30 3 3 1 := ⟨_, _, Go.Proofs.Tryd.underlying30, rfl, rfl, (by obtain ⟨i, h1, _, h2, _⟩ := (inferInstance : TI Go.Proofs.Tryd.prog 3 _ _ _).info; exact ⟨i, h1, h2⟩), by decide⟩
instance : FO Go.Proofs.Tryd.prog 31 0 0 1 := ⟨_, _, Go.Proofs.Tryd.underlying31, rfl, rfl, (by obtain ⟨i, h1, _, h2, _⟩ := (inferInstance : TI Go.Proofs.Tryd.prog 5 _ _ _).info; exact ⟨i, h1, h2⟩), by decide⟩
instance : FO Go.Proofs.Tryd.prog 31 1 1 1 := ⟨_, _, Go.Proofs.Tryd.underlying31, rfl, rfl, (by obtain ⟨i, h1, _, h2, _⟩ := (inferInstance : TI Go.Proofs.Tryd.prog 5 _ _ _).info; exact ⟨i, h1, h2⟩), by decide⟩
instance : FO Go.Proofs.Tryd.prog 31 2 2 1 := ⟨_, _, Go.Proofs.Tryd.underlying31, rfl, rfl, (by obtain ⟨i, h1, _, h2, _⟩ := (inferInstance : TI Go.Proofs.Tryd.prog 5 _ _ _).info; exact ⟨i, h1, h2⟩), by decide⟩
instance : FO Go.Proofs.Tryd.prog 31 3 3 1 := ⟨_, _, Go.Proofs.Tryd.underlying31, rfl, rfl, (by obtain ⟨i, h1, _, h2, _⟩ := (inferInstance : TI Go.Proofs.Tryd.prog 3 _ _ _).info; exact ⟨i, h1, h2⟩), by decide⟩
instance : FO Go.Proofs.Tryd.prog 73 0 0 2 := ⟨_, _, Go.Proofs.Tryd.underlying73, rfl, rfl, (by obtain ⟨i, h1, _, h2, _⟩ := (inferInstance : TI Go.Proofs.Tryd.prog 24 _ _ _).info; exact ⟨i, h1, h2⟩), by decide⟩
instance : FO Go.Proofs.Tryd.prog 73 1 2 1 := ⟨_, _, Go.Proofs.Tryd.underlying73, rfl, rfl, (by obtain ⟨i, h1, _, h2, _⟩ := (inferInstance : TI Go.Proofs.Tryd.prog 72 _ _ _).info; exact ⟨i, h1, h2⟩), by decide⟩
instance : FO Go.Proofs.Tryd.prog 74 0 0 2 := ⟨_, _, Go.Proofs.Tryd.underlying74, rfl, rfl, (by obtain ⟨i, h1, _, h2, _⟩ := (inferInstance : TI Go.Proofs.Tryd.prog 24 _ _ _).info; exact ⟨i, h1, h2⟩), by decide⟩
instance : FO Go.Proofs.Tryd.prog 74 1 2 1 := ⟨_, _, Go.Proofs.Tryd.underlying74, rfl, rfl, (by obtain ⟨i, h1, _, h2, _⟩ := (inferInstance : TI Go.Proofs.Tryd.prog 72 _ _ _).info; exact ⟨i, h1, h2⟩), by decide⟩
instance : FO Go.Proofs.Tryd.prog 98 0 0 1 := ⟨_, _, Go.Proofs.Tryd.underlying98, rfl, rfl, (by obtain ⟨i, h1, _, h2, _⟩ := (inferInstance : TI Go.Proofs.Tryd.prog 97 _ _ _).info; exact ⟨i, h1, h2⟩), by decide⟩
instance : FO Go.Proofs.Tryd.prog 98 1 1 1 := ⟨_, _, Go.Proofs.Tryd.underlying98, rfl, rfl, (by obtain ⟨i, h1, _, h2, _⟩ := (inferInstance : TI Go.Proofs.Tryd.prog 4 _ _ _).info; exact ⟨i, h1, h2⟩), by decide⟩
instance : FO Go.Proofs.Tryd.prog 99 0 0 1 := ⟨_, _, Go.Proofs.Tryd.underlying99, rfl, rfl, (by obtain ⟨i, h1, _, h2, _⟩ := (inferInstance : TI Go.Proofs.Tryd.prog 97 _ _ _).info; exact ⟨i, h1, h2⟩), by decide⟩
instance : FO Go.Proofs.Tryd.prog 99 1 1 1 := ⟨_, _, Go.Proofs.Tryd.underlying99, rfl, rfl, (by obtain ⟨i, h1, _, h2, _⟩ := (inferInstance : TI Go.Proofs.Tryd.prog 4 _ _ _).info; exact ⟨i, h1, h2⟩), by decide⟩
instance : FO Go.Proofs.Tryd.prog 104 0 0 1 := ⟨_, _, Go.Proofs.Tryd.underlying104, rfl, rfl, (by obtain ⟨i, h1, _, h2, _⟩ := (inferInstance : TI Go.Proofs.Tryd.prog 102 _ _ _).info; exact ⟨i, h1, h2⟩), by decide⟩
instance : FO Go.Proofs.Tryd.prog 105 0 0 1 := ⟨_, _, Go.Proofs.Tryd.underlying105, rfl, rfl, (by obtain ⟨i, h1, _, h2, _⟩ := (inferInstance : TI Go.Proofs.Tryd.prog 102 _ _ _).info; exact ⟨i, h1, h2⟩), by decide⟩
instance : FO Go.Proofs.Tryd.prog 142 0 0 1 := ⟨_, _, Go.Proofs.Tryd.underlying142, rfl, rfl, (by obtain ⟨i, h1, _, h2, _⟩ := (inferInstance : TI Go.Proofs.Tryd.prog 141 _ _ _).info; exact ⟨i, h1, h2⟩), by decide⟩
instance : FO Go.Proofs.Tryd.prog 142 1 1 1 := ⟨_, _, Go.Proofs.Tryd.underlying142, rfl, rfl, (by obtain ⟨i, h1, _, h2, _⟩ := (inferInstance : TI Go.Proofs.Tryd.prog 112 _ _ _).info; exact ⟨i, h1, h2⟩), by decide⟩
instance : FO Go.Proofs.Tryd.prog 143 0 0 1 := ⟨_, _, Go.Proofs.Tryd.underlying143, rfl, rfl, (by obtain ⟨i, h1, _, h2, _⟩ := (inferInstance : TI Go.Proofs.Tryd.prog 141 _ _ _).info; exact ⟨i, h1, h2⟩), by decide⟩
instance : FO Go.Proofs.Tryd.prog 143 1 1 1 := ⟨_, _, Go.Proofs.Tryd.underlying143, rfl, rfl, (by obtain ⟨i, h1, _, h2, _⟩ := (inferInstance : TI Go.Proofs.Tryd.prog 112 _ _ _).info; exact ⟨i, h1, h2⟩), by decide⟩
instance : FO Go.Proofs.Tryd.prog 161 0 0 1 := ⟨_, _, Go.Proofs.Tryd.underlying161, rfl, rfl, (by obtain ⟨i, h1, _, h2, _⟩ := (inferInstance : TI Go.Proofs.Tryd.prog 17 _ _ _).info; exact ⟨i, h1, h2⟩), by decide⟩
instance : FO Go.Proofs.Tryd.prog 161 1 1 1 := ⟨_, _, Go.Proofs.Tryd.underlying161, rfl, rfl, (by obtain ⟨i, h1, _, h2, _⟩ := (inferInstance : TI Go.Proofs.Tryd.prog 17 _ _ _).info; exact ⟨i, h1, h2⟩), by decide⟩
instance : FO Go.Proofs.Tryd.prog 161 2 2 1 := ⟨_, _, Go.Proofs.Tryd.underlying161, rfl, rfl, (by obtain ⟨i, h1, _, h2, _⟩ := (inferInstance : TI Go.Proofs.Tryd.prog 17 _ _ _).info; exact ⟨i, h1, h2⟩), by decide⟩
instance : FO Go.Proofs.Tryd.prog 161 3 3 1 := ⟨_, _, Go.Proofs.Tryd.underlying161, rfl, rfl, (by obtain ⟨i, h1, _, h2, _⟩ := (inferInstance : TI Go.Proofs.Tryd.prog 9 _ _ _).info; exact ⟨i, h1, h2⟩), by decide⟩
instance : FO Go.Proofs.Tryd.prog 162 0 0 1 := ⟨_, _, Go.Proofs.Tryd.underlying162, rfl, rfl, (by obtain ⟨i, h1, _, h2, _⟩ := (inferInstance : TI Go.Proofs.Tryd.prog 17 _ _ _).info; exact ⟨i, h1, h2⟩), by decide⟩
instance : FO Go.Proofs.Tryd.prog 162 1 1 1 := ⟨_, _, Go.Proofs.Tryd.underlying162, rfl, rfl, (by obtain ⟨i, h1, _, h2, _⟩ := (inferInstance : TI Go.Proofs.Tryd.prog 17 _ _ _).info; exact ⟨i, h1, h2⟩), by decide⟩
instance : FO Go.Proofs.Tryd.prog 162 2 2 1 := ⟨_, _, Go.Proofs.Tryd.underlying162, rfl, rfl, (by obtain ⟨i, h1, _, h2, _⟩ := (inferInstance : TI Go.Proofs.Tryd.prog 17 _ _ _).info; exact ⟨i, h1, h2⟩), by decide⟩
instance : FO Go.Proofs.Tryd.prog 162 3 3 1 := ⟨_, _, Go.Proofs.Tryd.underlying162, rfl, rfl, (by obtain ⟨i, h1, _, h2, _⟩ := (inferInstance : TI Go.Proofs.Tryd.prog 9 _ _ _).info; exact ⟨i, h1, h2⟩), by decide⟩
instance : FO Go.Proofs.Tryd.prog 171 0 0 1 := ⟨_, _, Go.Proofs.Tryd.underlying171, rfl, rfl, (by obtain ⟨i, h1, _, h2, _⟩ := (inferInstance : TI Go.Proofs.Tryd.prog 12 _ _ _).info; exact ⟨i, h1, h2⟩), by decide⟩
instance : FO Go.Proofs.Tryd.prog 171 1 1 1 := ⟨_, _, Go.Proofs.Tryd.underlying171, rfl, rfl, (by obtain ⟨i, h1, _, h2, _⟩ := (inferInstance : TI Go.Proofs.Tryd.prog 12 _ _ _).info; exact ⟨i, h1, h2⟩), by decide⟩
instance : FO Go.Proofs.Tryd.prog 171 2 2 1 := ⟨_, _, Go.Proofs.Tryd.underlying171, rfl, rfl, (by obtain ⟨i, h1, _, h2, _⟩ := (inferInstance : TI Go.Proofs.Tryd.prog 126 _ _ _).info; exact ⟨i, h1, h2⟩), by decide⟩
instance : FO Go.Proofs.Tryd.prog 171 3 3 1 := ⟨_, _, Go.Proofs.Tryd.underlying171, rfl, rfl, (by obtain ⟨i, h1, _, h2, _⟩ := (inferInstance : TI Go.Proofs.Tryd.prog 166 _ _ _).info; exact ⟨i, h1, h2⟩), by decide⟩
instance : FO Go.Proofs.Tryd.prog 171 4 4 1 := ⟨_, _, Go.Proofs.Tryd.underlying171, rfl, rfl, (by obtain ⟨i, h1, _, h2, _⟩ := (inferInstance : TI Go.Proofs.Tryd.prog 5 _ _ _).info; exact ⟨i, h1, h2⟩), by decide⟩
instance : FO Go.Proofs.Tryd.prog 171 5 5 1 := ⟨_, _, Go.Proofs.Tryd.underlying171, rfl, rfl, (by obtain ⟨i, h1, _, h2, _⟩ := (inferInstance : TI Go.Proofs.Tryd.prog 5 _ _ _).info; exact ⟨i, h1, h2⟩), by decide⟩
instance : FO Go.Proofs.Tryd.prog 171 6 6 1 := ⟨_, _, Go.Proofs.Tryd.underlying171, rfl, rfl, (by obtain ⟨i, h1, _, h2, _⟩ := (inferInstance : TI Go.Proofs.Tryd.prog 167 _ _ _).info; exact ⟨i, h1, h2⟩), by decide⟩
instance : FO Go.Proofs.Tryd.prog 171 7 7 1 := ⟨_, _, Go.Proofs.Tryd.underlying171, rfl, rfl, (by obtain ⟨i, h1, _, h2, _⟩ := (inferInstance : TI Go.Proofs.Tryd.prog 168 _ _ _).info; exact ⟨i, h1, h2⟩), by decide⟩
instance : FO Go.Proofs.Tryd.prog 171 8 8 1 := ⟨_, _, Go.Proofs.Tryd.underlying171, rfl, rfl, (by obtain ⟨i, h1, _, h2, _⟩ := (inferInstance : TI Go.Proofs.Tryd.prog 155 _ _ _).info; exact ⟨i, h1, h2⟩), by decide⟩
instance : FO Go.Proofs.Tryd.prog 171 9 9 1 := ⟨_, _, Go.Proofs.Tryd.underlying171, rfl, rfl, (by obtain ⟨i, h1, _, h2, _⟩ := (inferInstance : TI Go.Proofs.Tryd.prog 169 _ _ _).info; exact ⟨i, h1, h2⟩), by decide⟩
instance : FO Go.Proofs.Tryd.prog 171 10 10 1 := ⟨_, _, Go.Proofs.Tryd.underlying171, rfl, rfl, (by obtain ⟨i, h1, _, h2, _⟩ := (inferInstance : TI Go.Proofs.Tryd.prog 170 _ _ _).info; exact ⟨i, h1, h2⟩), by decide⟩
instance : FO Go.Proofs.Tryd.prog 172 0 0 1 := ⟨_, _, Go.Proofs.Tryd.underlying172, rfl, rfl, (by obtain ⟨i, h1, _, h2, _⟩ := (inferInstance : TI Go.Proofs.Tryd.prog 12 _ _ _).info; exact ⟨i, h1, h2⟩), by decide⟩
instance : FO Go.Proofs.Tryd.prog 172 1 1 1 := ⟨_, _, Go.Proofs.Tryd.underlying172, rfl, rfl, (by obtain ⟨i, h1, _, h2, _⟩ := (inferInstance : TI Go.Proofs.Tryd.prog 12 _ _ _).info; exact ⟨i, h1, h2⟩), by decide⟩
instance : FO Go.Proofs.Tryd.prog 172 2 2 1 := ⟨_, _, Go.Proofs.Tryd.underlying172, rfl, rfl, (by obtain ⟨i, h1, _, h2, _⟩ := (inferInstance : TI Go.Proofs.Tryd.prog 126 _ _ _).info; exact ⟨i, h1, h2⟩), by decide⟩
instance : FO Go.Proofs.Tryd.prog 172 3 3 1 := ⟨_, _, Go.Proofs.Tryd.underlying172, rfl, rfl, (by obtain ⟨i, h1, _, h2, _⟩ := (inferInstance : TI Go.Proofs.Tryd.prog 166 _ _ _).info; exact ⟨i, h1, h2⟩), by decide⟩
instance : FO Go.Proofs.Tryd.prog 172 4 4 1 := ⟨_, _, Go.Proofs.Tryd.underlying172, rfl, rfl, (by obtain ⟨i, h1, _, h2, _⟩ := (inferInstance : TI Go.Proofs.Tryd.prog 5 _ _ _).info; exact ⟨i, h1, h2⟩), by decide⟩
instance : FO Go.Proofs.Tryd.prog 172 5 5 1 := ⟨_, _, Go.Proofs.Tryd.underlying172, rfl, rfl, (by obtain ⟨i, h1, _, h2, _⟩ := (inferInstance : TI Go.Proofs.Tryd.prog 5 _ _ _).info; exact ⟨i, h1, h2⟩), by decide⟩
instance : FO Go.Proofs.Tryd.prog 172 6 6 1 := ⟨_, _, Go.Proofs.Tryd.underlying172, rfl, rfl, (by obtain ⟨i, h1, _, h2, _⟩ := (inferInstance : TI Go.Proofs.Tryd.prog 167 _ _ _).info; exact ⟨i, h1, h2⟩), by decide⟩
instance : FO Go.Proofs.Tryd.prog 172 7 7 1 := ⟨_, _, Go.Proofs.Tryd.underlying172, rfl, rfl, (by obtain ⟨i, h1, _, h2, _⟩ := (inferInstance : TI Go.Proofs.Tryd.prog 168 _ _ _).info; exact ⟨i, h1, h2⟩), by decide⟩
instance : FO Go.Proofs.Tryd.prog 172 8 8 1 := ⟨_, _, Go.Proofs.Tryd.underlying172, rfl, rfl, (by obtain ⟨i, h1, _, h2, _⟩ := (inferInstance : TI Go.Proofs.Tryd.prog 155 _ _ _).info; exact ⟨i, h1, h2⟩), by decide⟩
instance : FO Go.Proofs.Tryd.prog 172 9 9 1 := ⟨_, _, Go.Proofs.Tryd.underlying172, rfl, rfl, (by obtain ⟨i, h1, _, h2, _⟩ := (inferInstance : TI Go.Proofs.Tryd.prog 169 _ _ _).info; exact ⟨i, h1, h2⟩), by decide⟩
instance : FO Go.Proofs.Tryd.prog 172 10 10 1 := ⟨_, _, Go.Proofs.Tryd.underlying172, rfl, rfl, (by obtain ⟨i, h1, _, h2, _⟩ := (inferInstance : TI Go.Proofs.Tryd.prog 170 _ _ _).info; exact ⟨i, h1, h2⟩), by decide⟩
instance : Body Go.Proofs.Tryd.prog 3 := Body.mk' Go.Proofs.Tryd.func3 (by kernel_rfl) (by kernel_rfl)
instance : Body Go.Proofs.Tryd.prog 4 := Body.mk' Go.Proofs.Tryd.func4 (by kernel_rfl) (by kernel_rfl)
instance : Body Go.Proofs.Tryd.prog 5 := Body.mk' Go.Proofs.Tryd.func5 (by kernel_rfl) (by kernel_rfl)
instance : Body Go.Proofs.Tryd.prog 6 := Body.mk' Go.Proofs.Tryd.func6 (by kernel_rfl) (by kernel_rfl)
instance : Body Go.Proofs.Tryd.prog 7 := Body.mk' Go.Proofs.Tryd.func7 (by kernel_rfl) (by kernel_rfl)
instance : Body Go.Proofs.Tryd.prog 8 := Body.mk' Go.Proofs.Tryd.func8 (by kernel_rfl) (by kernel_rfl)
instance : Body Go.Proofs.Tryd.prog 9 := Body.mk' Go.Proofs.Tryd.func9 (by kernel_rfl) (by kernel_rfl)
instance : Body Go.Proofs.Tryd.prog 10 := Body.mk' Go.Proofs.Tryd.func10 (by kernel_rfl) (by kernel_rfl)
instance : Body Go.Proofs.Tryd.prog 11 := Body.mk' Go.Proofs.Tryd.func11 (by kernel_rfl) (by kernel_rfl)
instance : Body Go.Proofs.Tryd.prog 12 := Body.mk' Go.Proofs.Tryd.func12 (by kernel_rfl) (by kernel_rfl)
instance : Body Go.Proofs.Tryd.prog 13 := Body.mk' Go.Proofs.Tryd.func13 (by kernel_rfl) (by kernel_rfl)
instance : Body Go.Proofs.Tryd.prog 14 := Body.mk' Go.Proofs.Tryd.func14 (by kernel_rfl) (by kernel_rfl)
instance : Body Go.Proofs.Tryd.prog 15 := Body.mk' Go.Proofs.Tryd.func15 (by kernel_rfl) (by kernel_rfl)
instance : Body Go.Proofs.Tryd.prog 16 := Body.mk' Go.Proofs.Tryd.func16 (by kernel_rfl) (by kernel_rfl)
instance : Body Go.Proofs.Tryd.prog 17 := Body.mk' Go.Proofs.Tryd.func17 (by kernel_rfl) (by kernel_rfl)
instance : Body Go.Proofs.Tryd.prog 18 := Body.mk' Go.Proofs.Tryd.func18 (by kernel_rfl) (by kernel_rfl)
instance : Body Go.Proofs.Tryd.prog 19 := Body.mk' Go.Proofs.Tryd.func19 (by kernel_rfl) (by kernel_rfl)
instance : Body Go.Proofs.Tryd.prog 20 := Body.mk' Go.Proofs.Tryd.func20 (by kernel_rfl) (by kernel_rfl)
instance : Body Go.Proofs.Tryd.prog 21 := Body.mk' Go.Proofs.Tryd.func21 (by kernel_rfl) (by kernel_rfl)
instance : Body Go.Proofs.Tryd.prog 22 := Body.mk' Go.Proofs.Tryd.func22 (by kernel_rfl) (by kernel_rfl)
instance : Body Go.Proofs.Tryd.prog 23 := Body.mk' Go.Proofs.Tryd.func23 (by kernel_rfl) (by kernel_rfl)
instance : Body Go.Proofs.Tryd.prog 24 := Body.mk' Go.Proofs.Tryd.func24 (by kernel_rfl) (by kernel_rfl)
instance : Body Go.Proofs.Tryd.prog 25 := Body.mk' Go.Proofs.Tryd.func25 (by kernel_rfl) (by kernel_rfl)
instance : Body Go.Proofs.Tryd.prog 26 := Body.mk' Go.Proofs.Tryd.func26 (by kernel_rfl) (by kernel_rfl)
instance : Body Go.Proofs.Tryd.prog 27 := Body.mk' Go.Proofs.Tryd.func27 (by kernel_rfl) (by kernel_rfl)
instance : Body Go.Proofs.Tryd.prog 28 := Body.mk' Go.Proofs.Tryd.func28 (by kernel_rfl) (by kernel_rfl)
instance : Body Go.Proofs.Tryd.prog 29 := Body.mk' Go.Proofs.Tryd.func29 (by kernel_rfl) (by kernel_rfl)
instance : Body Go.Proofs.Tryd.prog 30 := Body.mk' Go.Proofs.Tryd.func30 (by kernel_rfl) (by kernel_rfl)
instance : Body Go.Proofs.Tryd.prog 31 := Body.mk' Go.Proofs.Tryd.func31 (by kernel_rfl) (by kernel_rfl)
instance : Body Go.Proofs.Tryd.prog 32 := Body.mk' Go.Proofs.Tryd.func32 (by kernel_rfl) (by kernel_rfl)
instance : Body Go.Proofs.Tryd.prog 33 := Body.mk' Go.Proofs.Tryd.func33 (by kernel_rfl) (by kernel_rfl)
instance : Body Go.Proofs.Tryd.prog 34 := Body.mk' Go.Proofs.Tryd.func34 (by kernel_rfl) (by kernel_rfl)
instance : Body Go.Proofs.Tryd.prog 35 := Body.mk' Go.Proofs.Tryd.func35 (by kernel_rfl) (by kernel_rfl)
instance : Body Go.Proofs.Tryd.prog 36 := Body.mk' Go.Proofs.Tryd.func36 (by kernel_rfl) (by kernel_rfl)
instance : Body Go.Proofs.Tryd.prog 37 := Body.mk' Go.Proofs.Tryd.func37 (by kernel_rfl) (by kernel_rfl)
instance : Body Go.Proofs.Tryd.prog 38 := Body.mk' Go.Proofs.Tryd.func38 (by kernel_rfl) (by kernel_rfl)
instance : Body Go.Proofs.Tryd.prog 39 := Body.mk' Go.Proofs.Tryd.func39 (by kernel_rfl) (by kernel_rfl)
instance : Body Go.Proofs.Tryd.prog 40 := Body.mk' Go.Proofs.Tryd.func40 (by kernel_rfl) (by kernel_rfl)
instance : Body Go.Proofs.Tryd.prog 41 := Body.mk' Go.Proofs.Tryd.func41 (by kernel_rfl) (by kernel_rfl)
instance : Body Go.Proofs.Tryd.prog 42 := Body.mk' Go.Proofs.Tryd.func42 (by kernel_rfl) (by kernel_rfl)
instance : Body Go.Proofs.Tryd.prog 43 := Body.mk' Go.Proofs.Tryd.func43 (by kernel_rfl) (by kernel_rfl)
instance : Body Go.Proofs.Tryd.prog 44 := Body.mk' Go.Proofs.Tryd.func44 (by kernel_rfl) (by kernel_rfl)
instance : Body Go.Proofs.Tryd.prog 45 := Body.mk' Go.Proofs.Tryd.func45 (by kernel_rfl) (by kernel_rfl)
instance : Body Go.Proofs.Tryd.prog 46 := Body.mk' Go.Proofs.Tryd.func46 (by kernel_rfl) (by kernel_rfl)
instance : Body Go.Proofs.Tryd.prog 47 := Body.mk' Go.Proofs.Tryd.func47 (by kernel_rfl) (by kernel_rfl)
instance : Body Go.Proofs.Tryd.prog 48 := Body.mk' Go.Proofs.Tryd.func48 (by kernel_rfl) (by kernel_rfl)
instance : Body Go.Proofs.Tryd.prog 49 := Body.mk' Go.Proofs.Tryd.func49 (by kernel_rfl) (by kernel_rfl)
instance : Body Go.Proofs.Tryd.prog 50 := Body.mk' Go.Proofs.Tryd.func50 (by kernel_rfl) (by kernel_rfl)
instance : Body Go.Proofs.Tryd.prog 51 := Body.mk' Go.Proofs.Tryd.func51 (by kernel_rfl) (by kernel_rfl)
instance : Body Go.Proofs.Tryd.prog 52 := Body.mk' Go.Proofs.Tryd.func52 (by kernel_rfl) (by kernel_rfl)
instance : Body Go.Proofs.Tryd.prog 53 := Body.mk' Go.Proofs.Tryd.func53 (by kernel_rfl) (by kernel_rfl)
instance : Body Go.Proofs.Tryd.prog 54 := Body.mk' Go.Proofs.Tryd.func54 (by kernel_rfl) (by kernel_rfl)
instance : Body Go.Proofs.Tryd.prog 55 := Body.mk' Go.Proofs.Tryd.func55 (by kernel_rfl) (by kernel_rfl)
instance : Body Go.Proofs.Tryd.prog 56 := Body.mk' Go.Proofs.Tryd.func56 (by kernel_rfl) (by kernel_rfl)
instance : Body Go.Proofs.Tryd.prog 57 := Body.mk' Go.Proofs.Tryd.func57 (by kernel_rfl) (by kernel_rfl)
instance : Body Go.Proofs.Tryd.prog 58 := Body.mk' Go.Proofs.Tryd.func58 (by kernel_rfl) (by kernel_rfl)
instance : Body Go.Proofs.Tryd.prog 59 := Body.mk' Go.Proofs.Tryd.func59 (by kernel_rfl) (by kernel_rfl)
instance : Body Go.Proofs.Tryd.prog 60 := Body.mk' Go.Proofs.Tryd.func60 (by kernel_rfl) (by kernel_rfl)
instance : Body Go.Proofs.Tryd.prog 61 := Body.mk' Go.Proofs.Tryd.func61 (by kernel_rfl) (by kernel_rfl)
instance : Body Go.Proofs.Tryd.prog 62 := Body.mk' Go.Proofs.Tryd.func62 (by kernel_rfl) (by kernel_rfl)
instance : Body Go.Proofs.Tryd.prog 63 := Body.mk' Go.Proofs.Tryd.func63 (by kernel_rfl) (by kernel_rfl)
instance : Body Go.Proofs.Tryd.prog 64 := Body.mk' Go.Proofs.Tryd.func64 (by kernel_rfl) (by kernel_rfl)
instance : Body Go.Proofs.Tryd.prog 65 := Body.mk' Go.Proofs.Tryd.func65 (by kernel_rfl) (by kernel_rfl)
instance : Body Go.Proofs.Tryd.prog 66 := Body.mk' Go.Proofs.Tryd.func66 (by kernel_rfl) (by kernel_rfl)
instance : Body Go.Proofs.Tryd.prog 67 := Body.mk' Go.Proofs.Tryd.func67 (by kernel_rfl) (by kernel_rfl)
instance : Body Go.Proofs.Tryd.prog 68 := Body.mk' Go.Proofs.Tryd.func68 (by kernel_rfl) (by kernel_rfl)
instance : Body Go.Proofs.Tryd.prog 69 := Body.mk' Go.Proofs.Tryd.func69 (by kernel_rfl) (by kernel_rfl)
instance : Body Go.Proofs.Tryd.prog 70 := Body.mk' Go.Proofs.Tryd.func70 (by kernel_rfl) (by kernel_rfl)
instance : Body Go.Proofs.Tryd.prog 71 := Body.mk' Go.Proofs.Tryd.func71 (by kernel_rfl) (by kernel_rfl)
instance : Body Go.Proofs.Tryd.prog 72 := Body.mk' Go.Proofs.Tryd.func72 (by kernel_rfl) (by kernel_rfl)
instance : Body Go.Proofs.Tryd.prog 73 := Body.mk' Go.Proofs.Tryd.func73 (by kernel_rfl) (by kernel_rfl)
instance : Body Go.Proofs.Tryd.prog 74 := Body.mk' Go.Proofs.Tryd.func74 (by kernel_rfl) (by kernel_rfl)
instance : Body Go.Proofs.Tryd.prog 75 := Body.mk' Go.Proofs.Tryd.func75 (by kernel_rfl) (by kernel_rfl)
instance : Body Go.Proofs.Tryd.prog 76 := Body.mk' Go.Proofs.Tryd.func76 (by kernel_rfl) (by kernel_rfl)
instance : Body Go.Proofs.Tryd.prog 77 := Body.mk' Go.Proofs.Tryd.func77 (by kernel_rfl) (by kernel_rfl)
instance : Body Go.Proofs.Tryd.prog 78 := Body.mk' Go.Proofs.Tryd.func78 (by kernel_rfl) (by kernel_rfl)
instance : Body Go.Proofs.Tryd.prog 79 := Body.mk' Go.Proofs.Tryd.func79 (by kernel_rfl) (by kernel_rfl)
instance : Body Go.Proofs.Tryd.prog 80 := Body.mk' Go.Proofs.Tryd.func80 (by kernel_rfl) (by kernel_rfl)
instance : Body Go.Proofs.Tryd.prog 81 := Body.mk' Go.Proofs.Tryd.func81 (by kernel_rfl) (by kernel_rfl)
instance : Body Go.Proofs.Tryd.prog 82 := Body.mk' Go.Proofs.Tryd.func82 (by kernel_rfl) (by kernel_rfl)
instance : Body Go.Proofs.Tryd.prog 83 := Body.mk' Go.Proofs.Tryd.func83 (by kernel_rfl) (by kernel_rfl)
instance : Body Go.Proofs.Tryd.prog 84 := Body.mk' Go.Proofs.Tryd.func84 (by kernel_rfl) (by kernel_rfl)
instance : Body Go.Proofs.Tryd.prog 85 := Body.mk' Go.Proofs.Tryd.func85 (by kernel_rfl) (by kernel_rfl)
instance : Body Go.Proofs.Tryd.prog 86 := Body.mk' Go.Proofs.Tryd.func86 (by kernel_rfl) (by kernel_rfl)
instance : Body Go.Proofs.Tryd.prog 87 := Body.mk' Go.Proofs.Tryd.func87 (by kernel_rfl) (by kernel_rfl)
instance : Body Go.Proofs.Tryd.prog 88 := Body.mk' Go.Proofs.Tryd.func88 (by kernel_rfl) (by kernel_rfl)
instance : Body Go.Proofs.Tryd.prog 89 := Body.mk' Go.Proofs.Tryd.func89 (by kernel_rfl) (by kernel_rfl)
instance : Body Go.Proofs.Tryd.prog 90 := Body.mk' Go.Proofs.Tryd.func90 (by kernel_rfl) (by kernel_rfl)
instance : Body Go.Proofs.Tryd.prog 91 := Body.mk' Go.Proofs.Tryd.func91 (by kernel_rfl) (by kernel_rfl)
instance : Body Go.Proofs.Tryd.prog 92 := Body.mk' Go.Proofs.Tryd.func92 (by kernel_rfl) (by kernel_rfl)
instance : Body Go.Proofs.Tryd.prog 93 := Body.mk' Go.Proofs.Tryd.func93 (by kernel_rfl) (by kernel_rfl)
instance : Body Go.Proofs.Tryd.prog 94 := Body.mk' Go.Proofs.Tryd.func94 (by kernel_rfl) (by kernel_rfl)
instance : Body Go.Proofs.Tryd.prog 95 := Body.mk' Go.Proofs.Tryd.func95 (by kernel_rfl) (by kernel_rfl)
instance : Body Go.Proofs.Tryd.prog 96 := Body.mk' Go.Proofs.Tryd.func96 (by kernel_rfl) (by kernel_rfl)
instance : Body Go.Proofs.Tryd.prog 97 := Body.mk' Go.Proofs.Tryd.func97 (by kernel_rfl) (by kernel_rfl)
instance : Body Go.Proofs.Tryd.prog 98 := Body.mk' Go.Proofs.Tryd.func98 (by kernel_rfl) (by kernel_rfl)
instance : Body Go.Proofs.Tryd.prog 99 := Body.mk' Go.Proofs.Tryd.func99 (by kernel_rfl) (by kernel_rfl)
instance : Body Go.Proofs.Tryd.prog 100 := Body.mk' Go.Proofs.Tryd.func100 (by kernel_rfl) (by kernel_rfl)
instance : Body Go.Proofs.Tryd.prog 101 := Body.mk' Go.Proofs.Tryd.func101 (by kernel_rfl) (by kernel_rfl)
instance : Body Go.Proofs.Tryd.prog 102 := Body.mk' Go.Proofs.Tryd.func102 (by kernel_rfl) (by kernel_rfl)
instance : Body Go.Proofs.Tryd.prog 103 := Body.mk' Go.Proofs.Tryd.func103 (by kernel_rfl) (by kernel_rfl)
instance : Body Go.Proofs.Tryd.prog 104 := Body.mk' Go.Proofs.Tryd.func104 (by kernel_rfl) (by kernel_rfl)
instance : Body Go.Proofs.Tryd.prog 105 := Body.mk' Go.Proofs.Tryd.func105 (by kernel_rfl) (by kernel_rfl)
instance : Body Go.Proofs.Tryd.prog 106 := Body.mk' Go.Proofs.Tryd.func106 (by kernel_rfl) (by kernel_rfl)
instance : Body Go.Proofs.Tryd.prog 107 := Body.mk' Go.Proofs.Tryd.func107 (by kernel_rfl) (by kernel_rfl)
end Go.Proofs.YtolchkdndnjhbaaDoor
