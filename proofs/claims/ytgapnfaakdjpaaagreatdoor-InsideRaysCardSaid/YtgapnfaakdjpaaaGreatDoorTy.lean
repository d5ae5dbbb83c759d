/- Instances on this translation's types and functions, printed by wip/sx/types.py. -/
import Derived.Test.YtgapnfaakdjpaaaGreatDoorSx5
import Derived.Test.YtgapnfaakdjpaaaGreatDoorProg
import Derived.KernelRfl
namespace Go.Proofs.YtgapnfaakdjpaaaGreatDoor
open Go Go.Sx
instance : Mix Tryz.prog := ⟨by kernel_rfl⟩
instance : TI Tryz.prog 0 (.tuple #[]) 1 0 := ⟨by kernel_rfl⟩
instance : UL Tryz.prog 1 (.func #[] #[] false) := ⟨Tryz.underlying1⟩
instance : TI Tryz.prog 1 (.nilFunc) 1 8 := ⟨by kernel_rfl⟩
instance : UL Tryz.prog 2 (.int .i64) := ⟨Tryz.underlying2⟩
instance : TI Tryz.prog 2 (.int .i64 0) 1 8 := ⟨by kernel_rfl⟩
instance : UL Tryz.prog 3 (.int .i64) := ⟨Tryz.underlying3⟩
instance : TI Tryz.prog 3 (.int .i64 0) 1 8 := ⟨by kernel_rfl⟩
instance : UL Tryz.prog 4 (.bool) := ⟨Tryz.underlying4⟩
instance : TI Tryz.prog 4 (.bool false) 1 1 := ⟨by kernel_rfl⟩
instance : UL Tryz.prog 5 (.int .u8) := ⟨Tryz.underlying5⟩
instance : TI Tryz.prog 5 (.int .u8 0) 1 1 := ⟨by kernel_rfl⟩
instance : UL Tryz.prog 6 (.int .u8) := ⟨Tryz.underlying6⟩
instance : TI Tryz.prog 6 (.int .u8 0) 1 1 := ⟨by kernel_rfl⟩
instance : UL Tryz.prog 7 (.struct #[⟨"x", 2, 0, false, "", "runtime", 0⟩, ⟨"y", 3, 1, false, "", "runtime", 8⟩, ⟨"signed", 4, 2, false, "", "runtime", 16⟩, ⟨"code", 6, 3, false, "", "runtime", 17⟩]) := ⟨Tryz.underlying7⟩
instance : TI Tryz.prog 7 (.agg #[.int .i64 0, .int .i64 0, .bool false, .int .u8 0]) 4 24 := ⟨by kernel_rfl⟩
instance : UL Tryz.prog 8 (.struct #[⟨"x", 2, 0, false, "", "runtime", 0⟩, ⟨"y", 3, 1, false, "", "runtime", 8⟩, ⟨"signed", 4, 2, false, "", "runtime", 16⟩, ⟨"code", 6, 3, false, "", "runtime", 17⟩]) := ⟨Tryz.underlying8⟩
instance : TI Tryz.prog 8 (.agg #[.int .i64 0, .int .i64 0, .bool false, .int .u8 0]) 4 24 := ⟨by kernel_rfl⟩
instance : UL Tryz.prog 9 (.string) := ⟨Tryz.underlying9⟩
instance : TI Tryz.prog 9 (.string ⟨#[]⟩) 1 16 := ⟨by kernel_rfl⟩
instance : UL Tryz.prog 10 (.string) := ⟨Tryz.underlying10⟩
instance : TI Tryz.prog 10 (.string ⟨#[]⟩) 1 16 := ⟨by kernel_rfl⟩
instance : UL Tryz.prog 11 (.string) := ⟨Tryz.underlying11⟩
instance : TI Tryz.prog 11 (.string ⟨#[]⟩) 1 16 := ⟨by kernel_rfl⟩
instance : UL Tryz.prog 12 (.int .u64) := ⟨Tryz.underlying12⟩
instance : TI Tryz.prog 12 (.int .u64 0) 1 8 := ⟨by kernel_rfl⟩
instance : UL Tryz.prog 13 (.struct #[⟨"msg", 9, 0, false, "", "runtime", 0⟩, ⟨"addr", 12, 1, false, "", "runtime", 16⟩]) := ⟨Tryz.underlying13⟩
instance : TI Tryz.prog 13 (.agg #[.string ⟨#[]⟩, .int .u64 0]) 2 24 := ⟨by kernel_rfl⟩
instance : UL Tryz.prog 14 (.struct #[⟨"msg", 9, 0, false, "", "runtime", 0⟩, ⟨"addr", 12, 1, false, "", "runtime", 16⟩]) := ⟨Tryz.underlying14⟩
instance : TI Tryz.prog 14 (.agg #[.string ⟨#[]⟩, .int .u64 0]) 2 24 := ⟨by kernel_rfl⟩
instance : UL Tryz.prog 15 (.pointer 325) := ⟨Tryz.underlying15⟩
instance : TI Tryz.prog 15 (.pointer none) 1 8 := ⟨by kernel_rfl⟩
instance : UL Tryz.prog 16 (.pointer 328) := ⟨Tryz.underlying16⟩
instance : TI Tryz.prog 16 (.pointer none) 1 8 := ⟨by kernel_rfl⟩
instance : UL Tryz.prog 17 (.pointer 335) := ⟨Tryz.underlying17⟩
instance : TI Tryz.prog 17 (.pointer none) 1 8 := ⟨by kernel_rfl⟩
instance : UL Tryz.prog 18 (.struct #[⟨"typ", 17, 0, false, "", "internal/runtime/maps", 0⟩]) := ⟨Tryz.underlying18⟩
instance : TI Tryz.prog 18 (.agg #[.pointer none]) 1 8 := ⟨by kernel_rfl⟩
instance : UL Tryz.prog 19 (.struct #[⟨"typ", 17, 0, false, "", "internal/runtime/maps", 0⟩]) := ⟨Tryz.underlying19⟩
instance : TI Tryz.prog 19 (.agg #[.pointer none]) 1 8 := ⟨by kernel_rfl⟩
instance : UL Tryz.prog 21 (.int .i32) := ⟨Tryz.underlying21⟩
instance : TI Tryz.prog 21 (.int .i32 0) 1 4 := ⟨by kernel_rfl⟩
instance : UL Tryz.prog 22 (.int .i16) := ⟨Tryz.underlying22⟩
instance : TI Tryz.prog 22 (.int .i16 0) 1 2 := ⟨by kernel_rfl⟩
instance : UL Tryz.prog 23 (.array 3 22) := ⟨Tryz.underlying23⟩
instance : TI Tryz.prog 23 (.agg #[.int .i16 0, .int .i16 0, .int .i16 0]) 3 6 := ⟨by kernel_rfl⟩
instance : UL Tryz.prog 24 (.slice 56) := ⟨Tryz.underlying24⟩
instance : TI Tryz.prog 24 (.slice none 0 0) 1 24 := ⟨by kernel_rfl⟩
instance : UL Tryz.prog 25 (.struct #[⟨"Kind", 5, 0, false, "", "", 0⟩, ⟨"Size", 5, 1, false, "", "", 1⟩, ⟨"At", 23, 2, false, "", "", 2⟩, ⟨"Off", 24, 5, false, "", "", 8⟩, ⟨"Turned", 4, 6, false, "", "", 32⟩]) := ⟨Tryz.underlying25⟩
instance : TI Tryz.prog 25 (.agg #[.int .u8 0, .int .u8 0, .int .i16 0, .int .i16 0, .int .i16 0, .slice none 0 0, .bool false]) 7 40 := ⟨by kernel_rfl⟩
instance : UL Tryz.prog 26 (.struct #[⟨"Kind", 5, 0, false, "", "", 0⟩, ⟨"Size", 5, 1, false, "", "", 1⟩, ⟨"At", 23, 2, false, "", "", 2⟩, ⟨"Off", 24, 5, false, "", "", 8⟩, ⟨"Turned", 4, 6, false, "", "", 32⟩]) := ⟨Tryz.underlying26⟩
instance : TI Tryz.prog 26 (.agg #[.int .u8 0, .int .u8 0, .int .i16 0, .int .i16 0, .int .i16 0, .slice none 0 0, .bool false]) 7 40 := ⟨by kernel_rfl⟩
instance : UL Tryz.prog 27 (.array 3 5) := ⟨Tryz.underlying27⟩
instance : TI Tryz.prog 27 (.agg #[.int .u8 0, .int .u8 0, .int .u8 0]) 3 3 := ⟨by kernel_rfl⟩
instance : UL Tryz.prog 28 (.struct #[⟨"At", 27, 0, false, "", "", 0⟩, ⟨"Weight", 27, 3, false, "", "", 3⟩, ⟨"Off", 23, 6, false, "", "", 6⟩]) := ⟨Tryz.underlying28⟩
instance : TI Tryz.prog 28 (.agg #[.int .u8 0, .int .u8 0, .int .u8 0, .int .u8 0, .int .u8 0, .int .u8 0, .int .i16 0, .int .i16 0, .int .i16 0]) 9 12 := ⟨by kernel_rfl⟩
instance : UL Tryz.prog 29 (.struct #[⟨"At", 27, 0, false, "", "", 0⟩, ⟨"Weight", 27, 3, false, "", "", 3⟩, ⟨"Off", 23, 6, false, "", "", 6⟩]) := ⟨Tryz.underlying29⟩
instance : TI Tryz.prog 29 (.agg #[.int .u8 0, .int .u8 0, .int .u8 0, .int .u8 0, .int .u8 0, .int .u8 0, .int .i16 0, .int .i16 0, .int .i16 0]) 9 12 := ⟨by kernel_rfl⟩
instance : UL Tryz.prog 30 (.array 2 29) := ⟨Tryz.underlying30⟩
instance : TI Tryz.prog 30 (.agg #[.int .u8 0, .int .u8 0, .int .u8 0, .int .u8 0, .int .u8 0, .int .u8 0, .int .i16 0, .int .i16 0, .int .i16 0, .int .u8 0, .int .u8 0, .int .u8 0, .int .u8 0, .int .u8 0, .int .u8 0, .int .i16 0, .int .i16 0, .int .i16 0]) 18 24 := ⟨by kernel_rfl⟩
instance : UL Tryz.prog 31 (.array 3 3) := ⟨Tryz.underlying31⟩
instance : TI Tryz.prog 31 (.agg #[.int .i64 0, .int .i64 0, .int .i64 0]) 3 24 := ⟨by kernel_rfl⟩
instance : UL Tryz.prog 32 (.slice 31) := ⟨Tryz.underlying32⟩
instance : TI Tryz.prog 32 (.slice none 0 0) 1 24 := ⟨by kernel_rfl⟩
instance : UL Tryz.prog 33 (.struct #[⟨"Points", 32, 0, false, "", "", 0⟩, ⟨"Faces", 32, 1, false, "", "", 24⟩]) := ⟨Tryz.underlying33⟩
instance : TI Tryz.prog 33 (.agg #[.slice none 0 0, .slice none 0 0]) 2 48 := ⟨by kernel_rfl⟩
instance : UL Tryz.prog 34 (.struct #[⟨"Points", 32, 0, false, "", "", 0⟩, ⟨"Faces", 32, 1, false, "", "", 24⟩]) := ⟨Tryz.underlying34⟩
instance : TI Tryz.prog 34 (.agg #[.slice none 0 0, .slice none 0 0]) 2 48 := ⟨by kernel_rfl⟩
instance : UL Tryz.prog 35 (.func #[] #[34] false) := ⟨Tryz.underlying35⟩
instance : TI Tryz.prog 35 (.nilFunc) 1 8 := ⟨by kernel_rfl⟩
instance : UL Tryz.prog 36 (.func #[34, 5] #[34] false) := ⟨Tryz.underlying36⟩
instance : TI Tryz.prog 36 (.nilFunc) 1 8 := ⟨by kernel_rfl⟩
instance : UL Tryz.prog 37 (.func #[34] #[31] false) := ⟨Tryz.underlying37⟩
instance : TI Tryz.prog 37 (.nilFunc) 1 8 := ⟨by kernel_rfl⟩
instance : UL Tryz.prog 38 (.array 3 31) := ⟨Tryz.underlying38⟩
instance : TI Tryz.prog 38 (.agg #[.int .i64 0, .int .i64 0, .int .i64 0, .int .i64 0, .int .i64 0, .int .i64 0, .int .i64 0, .int .i64 0, .int .i64 0]) 9 72 := ⟨by kernel_rfl⟩
instance : UL Tryz.prog 39 (.int .i64) := ⟨Tryz.underlying39⟩
instance : TI Tryz.prog 39 (.int .i64 0) 1 8 := ⟨by kernel_rfl⟩
instance : TI Tryz.prog 40 (.tuple #[.int .i64 0, .int .i64 0]) 1 0 := ⟨by kernel_rfl⟩
instance : UL Tryz.prog 41 (.func #[34, 31] #[3, 39] false) := ⟨Tryz.underlying41⟩
instance : TI Tryz.prog 41 (.nilFunc) 1 8 := ⟨by kernel_rfl⟩
instance : UL Tryz.prog 42 (.func #[] #[4] false) := ⟨Tryz.underlying42⟩
instance : TI Tryz.prog 42 (.nilFunc) 1 8 := ⟨by kernel_rfl⟩
instance : UL Tryz.prog 43 (.func #[26, 5, 30, 31] #[4] false) := ⟨Tryz.underlying43⟩
instance : TI Tryz.prog 43 (.nilFunc) 1 8 := ⟨by kernel_rfl⟩
instance : UL Tryz.prog 44 (.array 3 29) := ⟨Tryz.underlying44⟩
instance : TI Tryz.prog 44 (.agg #[.int .u8 0, .int .u8 0, .int .u8 0, .int .u8 0, .int .u8 0, .int .u8 0, .int .i16 0, .int .i16 0, .int .i16 0, .int .u8 0, .int .u8 0, .int .u8 0, .int .u8 0, .int .u8 0, .int .u8 0, .int .i16 0, .int .i16 0, .int .i16 0, .int .u8 0, .int .u8 0, .int .u8 0, .int .u8 0, .int .u8 0, .int .u8 0, .int .i16 0, .int .i16 0, .int .i16 0]) 27 36 := ⟨by kernel_rfl⟩
instance : UL Tryz.prog 45 (.array 4 31) := ⟨Tryz.underlying45⟩
instance : TI Tryz.prog 45 (.agg #[.int .i64 0, .int .i64 0, .int .i64 0, .int .i64 0, .int .i64 0, .int .i64 0, .int .i64 0, .int .i64 0, .int .i64 0, .int .i64 0, .int .i64 0, .int .i64 0]) 12 96 := ⟨by kernel_rfl⟩
instance : UL Tryz.prog 46 (.array 2 4) := ⟨Tryz.underlying46⟩
instance : TI Tryz.prog 46 (.agg #[.bool false, .bool false]) 2 2 := ⟨by kernel_rfl⟩
instance : UL Tryz.prog 47 (.string) := ⟨Tryz.underlying47⟩
instance : TI Tryz.prog 47 (.string ⟨#[]⟩) 1 16 := ⟨by kernel_rfl⟩
instance : UL Tryz.prog 48 (.struct #[⟨"N", 47, 0, false, "", "", 0⟩, ⟨"D", 47, 1, false, "", "", 16⟩]) := ⟨Tryz.underlying48⟩
instance : TI Tryz.prog 48 (.agg #[.string ⟨#[]⟩, .string ⟨#[]⟩]) 2 32 := ⟨by kernel_rfl⟩
instance : UL Tryz.prog 49 (.struct #[⟨"N", 47, 0, false, "", "", 0⟩, ⟨"D", 47, 1, false, "", "", 16⟩]) := ⟨Tryz.underlying49⟩
instance : TI Tryz.prog 49 (.agg #[.string ⟨#[]⟩, .string ⟨#[]⟩]) 2 32 := ⟨by kernel_rfl⟩
instance : TI Tryz.prog 50 (.tuple #[.agg #[.string ⟨#[]⟩, .string ⟨#[]⟩], .int .i64 0, .int .i64 0]) 1 0 := ⟨by kernel_rfl⟩
instance : UL Tryz.prog 51 (.func #[34, 31, 31, 4] #[49, 3, 39] false) := ⟨Tryz.underlying51⟩
instance : TI Tryz.prog 51 (.nilFunc) 1 8 := ⟨by kernel_rfl⟩
instance : UL Tryz.prog 52 (.func #[26, 5, 44, 31] #[4] false) := ⟨Tryz.underlying52⟩
instance : TI Tryz.prog 52 (.nilFunc) 1 8 := ⟨by kernel_rfl⟩
instance : UL Tryz.prog 53 (.array 3 21) := ⟨Tryz.underlying53⟩
instance : TI Tryz.prog 53 (.agg #[.int .i32 0, .int .i32 0, .int .i32 0]) 3 12 := ⟨by kernel_rfl⟩
instance : UL Tryz.prog 54 (.array 4 53) := ⟨Tryz.underlying54⟩
instance : TI Tryz.prog 54 (.agg #[.int .i32 0, .int .i32 0, .int .i32 0, .int .i32 0, .int .i32 0, .int .i32 0, .int .i32 0, .int .i32 0, .int .i32 0, .int .i32 0, .int .i32 0, .int .i32 0]) 12 48 := ⟨by kernel_rfl⟩
instance : UL Tryz.prog 55 (.array 4 5) := ⟨Tryz.underlying55⟩
instance : TI Tryz.prog 55 (.agg #[.int .u8 0, .int .u8 0, .int .u8 0, .int .u8 0]) 4 4 := ⟨by kernel_rfl⟩
instance : UL Tryz.prog 56 (.int .i8) := ⟨Tryz.underlying56⟩
instance : TI Tryz.prog 56 (.int .i8 0) 1 1 := ⟨by kernel_rfl⟩
instance : UL Tryz.prog 57 (.array 3 56) := ⟨Tryz.underlying57⟩
instance : TI Tryz.prog 57 (.agg #[.int .i8 0, .int .i8 0, .int .i8 0]) 3 3 := ⟨by kernel_rfl⟩
instance : UL Tryz.prog 58 (.func #[31, 31, 31] #[3] false) := ⟨Tryz.underlying58⟩
instance : TI Tryz.prog 58 (.nilFunc) 1 8 := ⟨by kernel_rfl⟩
instance : UL Tryz.prog 59 (.func #[31, 31] #[31] false) := ⟨Tryz.underlying59⟩
instance : TI Tryz.prog 59 (.nilFunc) 1 8 := ⟨by kernel_rfl⟩
instance : UL Tryz.prog 60 (.array 4 3) := ⟨Tryz.underlying60⟩
instance : TI Tryz.prog 60 (.agg #[.int .i64 0, .int .i64 0, .int .i64 0, .int .i64 0]) 4 32 := ⟨by kernel_rfl⟩
instance : UL Tryz.prog 61 (.func #[34, 31, 3] #[4] false) := ⟨Tryz.underlying61⟩
instance : TI Tryz.prog 61 (.nilFunc) 1 8 := ⟨by kernel_rfl⟩
instance : UL Tryz.prog 62 (.func #[54, 55, 57] #[4] false) := ⟨Tryz.underlying62⟩
instance : TI Tryz.prog 62 (.nilFunc) 1 8 := ⟨by kernel_rfl⟩
instance : UL Tryz.prog 63 (.func #[34] #[34] false) := ⟨Tryz.underlying63⟩
instance : TI Tryz.prog 63 (.nilFunc) 1 8 := ⟨by kernel_rfl⟩
instance : TI Tryz.prog 65 (.tuple #[.agg #[.string ⟨#[]⟩, .string ⟨#[]⟩], .int .i64 0]) 1 0 := ⟨by kernel_rfl⟩
instance : UL Tryz.prog 66 (.func #[3, 3] #[49, 39] false) := ⟨Tryz.underlying66⟩
instance : TI Tryz.prog 66 (.nilFunc) 1 8 := ⟨by kernel_rfl⟩
instance : UL Tryz.prog 68 (.func #[26, 29, 23, 5] #[4] false) := ⟨Tryz.underlying68⟩
instance : TI Tryz.prog 68 (.nilFunc) 1 8 := ⟨by kernel_rfl⟩
instance : UL Tryz.prog 70 (.int .u16) := ⟨Tryz.underlying70⟩
instance : TI Tryz.prog 70 (.int .u16 0) 1 2 := ⟨by kernel_rfl⟩
instance : UL Tryz.prog 71 (.array 3 70) := ⟨Tryz.underlying71⟩
instance : TI Tryz.prog 71 (.agg #[.int .u16 0, .int .u16 0, .int .u16 0]) 3 6 := ⟨by kernel_rfl⟩
instance : UL Tryz.prog 72 (.struct #[⟨"Size", 5, 0, false, "", "", 0⟩, ⟨"Turn", 5, 1, false, "", "", 1⟩, ⟨"Step", 71, 2, false, "", "", 2⟩, ⟨"Shear", 27, 5, false, "", "", 8⟩]) := ⟨Tryz.underlying72⟩
instance : TI Tryz.prog 72 (.agg #[.int .u8 0, .int .u8 0, .int .u16 0, .int .u16 0, .int .u16 0, .int .u8 0, .int .u8 0, .int .u8 0]) 8 12 := ⟨by kernel_rfl⟩
instance : UL Tryz.prog 74 (.slice 3) := ⟨Tryz.underlying74⟩
instance : TI Tryz.prog 74 (.slice none 0 0) 1 24 := ⟨by kernel_rfl⟩
instance : UL Tryz.prog 76 (.struct #[⟨"Size", 74, 0, false, "", "", 0⟩, ⟨"Out", 3, 1, false, "", "", 24⟩, ⟨"Data", 74, 2, false, "", "", 32⟩]) := ⟨Tryz.underlying76⟩
instance : TI Tryz.prog 76 (.agg #[.slice none 0 0, .int .i64 0, .slice none 0 0]) 3 56 := ⟨by kernel_rfl⟩
instance : TI Tryz.prog 78 (.tuple #[.agg #[.slice none 0 0, .slice none 0 0], .int .i64 0]) 1 0 := ⟨by kernel_rfl⟩
instance : TI Tryz.prog 81 (.tuple #[.agg #[.int .i64 0, .int .i64 0, .int .i64 0], .bool false]) 1 0 := ⟨by kernel_rfl⟩
instance : UL Tryz.prog 82 (.func #[3, 3, 3] #[31, 4] false) := ⟨Tryz.underlying82⟩
instance : TI Tryz.prog 82 (.nilFunc) 1 8 := ⟨by kernel_rfl⟩
instance : UL Tryz.prog 83 (.func #[73, 5] #[4] false) := ⟨Tryz.underlying83⟩
instance : TI Tryz.prog 83 (.nilFunc) 1 8 := ⟨by kernel_rfl⟩
instance : TI Tryz.prog 84 (.tuple #[.slice none 0 0, .slice none 0 0]) 1 0 := ⟨by kernel_rfl⟩
instance : UL Tryz.prog 85 (.func #[3] #[32, 32] false) := ⟨Tryz.underlying85⟩
instance : TI Tryz.prog 85 (.nilFunc) 1 8 := ⟨by kernel_rfl⟩
instance : UL Tryz.prog 86 (.func #[34] #[39] false) := ⟨Tryz.underlying86⟩
instance : TI Tryz.prog 86 (.nilFunc) 1 8 := ⟨by kernel_rfl⟩
instance : UL Tryz.prog 88 (.func #[93] #[3, 39] false) := ⟨Tryz.underlying88⟩
instance : TI Tryz.prog 88 (.nilFunc) 1 8 := ⟨by kernel_rfl⟩
instance : UL Tryz.prog 90 (.func #[103] #[4] false) := ⟨Tryz.underlying90⟩
instance : TI Tryz.prog 90 (.nilFunc) 1 8 := ⟨by kernel_rfl⟩
instance : UL Tryz.prog 91 (.func #[34, 103] #[4] false) := ⟨Tryz.underlying91⟩
instance : TI Tryz.prog 91 (.nilFunc) 1 8 := ⟨by kernel_rfl⟩
instance : UL Tryz.prog 92 (.func #[34, 103] #[3] false) := ⟨Tryz.underlying92⟩
instance : TI Tryz.prog 92 (.nilFunc) 1 8 := ⟨by kernel_rfl⟩
instance : UL Tryz.prog 93 (.func #[] #[3] false) := ⟨Tryz.underlying93⟩
instance : TI Tryz.prog 93 (.nilFunc) 1 8 := ⟨by kernel_rfl⟩
instance : UL Tryz.prog 94 (.func #[34, 31] #[39] false) := ⟨Tryz.underlying94⟩
instance : TI Tryz.prog 94 (.nilFunc) 1 8 := ⟨by kernel_rfl⟩
instance : UL Tryz.prog 95 (.func #[34, 31] #[4] false) := ⟨Tryz.underlying95⟩
instance : TI Tryz.prog 95 (.nilFunc) 1 8 := ⟨by kernel_rfl⟩
instance : TI Tryz.prog 96 (.tuple #[.int .i64 0, .bool false]) 1 0 := ⟨by kernel_rfl⟩
instance : UL Tryz.prog 99 (.struct #[⟨"t", 49, 0, false, "", "verdigris/inside", 0⟩, ⟨"face", 3, 2, false, "", "verdigris/inside", 32⟩]) := ⟨Tryz.underlying99⟩
instance : TI Tryz.prog 99 (.agg #[.string ⟨#[]⟩, .string ⟨#[]⟩, .int .i64 0]) 3 40 := ⟨by kernel_rfl⟩
instance : TI Tryz.prog 100 (.tuple #[.agg #[.string ⟨#[]⟩, .string ⟨#[]⟩, .int .i64 0], .int .i64 0]) 1 0 := ⟨by kernel_rfl⟩
instance : UL Tryz.prog 101 (.func #[108] #[99, 39] false) := ⟨Tryz.underlying101⟩
instance : TI Tryz.prog 101 (.nilFunc) 1 8 := ⟨by kernel_rfl⟩
instance : UL Tryz.prog 102 (.func #[34, 103, 103, 106] #[99] false) := ⟨Tryz.underlying102⟩
instance : TI Tryz.prog 102 (.nilFunc) 1 8 := ⟨by kernel_rfl⟩
instance : UL Tryz.prog 103 (.array 3 3) := ⟨Tryz.underlying103⟩
instance : TI Tryz.prog 103 (.agg #[.int .i64 0, .int .i64 0, .int .i64 0]) 3 24 := ⟨by kernel_rfl⟩
instance : UL Tryz.prog 104 (.func #[103] #[103] false) := ⟨Tryz.underlying104⟩
instance : TI Tryz.prog 104 (.nilFunc) 1 8 := ⟨by kernel_rfl⟩
instance : UL Tryz.prog 105 (.struct #[⟨"low", 49, 0, false, "", "verdigris/inside", 0⟩, ⟨"high", 49, 2, false, "", "verdigris/inside", 32⟩, ⟨"open", 4, 4, false, "", "verdigris/inside", 64⟩]) := ⟨Tryz.underlying105⟩
instance : TI Tryz.prog 105 (.agg #[.string ⟨#[]⟩, .string ⟨#[]⟩, .string ⟨#[]⟩, .string ⟨#[]⟩, .bool false]) 5 72 := ⟨by kernel_rfl⟩
instance : UL Tryz.prog 106 (.struct #[⟨"low", 49, 0, false, "", "verdigris/inside", 0⟩, ⟨"high", 49, 2, false, "", "verdigris/inside", 32⟩, ⟨"open", 4, 4, false, "", "verdigris/inside", 64⟩]) := ⟨Tryz.underlying106⟩
instance : TI Tryz.prog 106 (.agg #[.string ⟨#[]⟩, .string ⟨#[]⟩, .string ⟨#[]⟩, .string ⟨#[]⟩, .bool false]) 5 72 := ⟨by kernel_rfl⟩
instance : UL Tryz.prog 108 (.func #[] #[99] false) := ⟨Tryz.underlying108⟩
instance : TI Tryz.prog 108 (.nilFunc) 1 8 := ⟨by kernel_rfl⟩
instance : UL Tryz.prog 109 (.func #[31] #[4] false) := ⟨Tryz.underlying109⟩
instance : TI Tryz.prog 109 (.nilFunc) 1 8 := ⟨by kernel_rfl⟩
instance : TI Tryz.prog 110 (.tuple #[.agg #[.string ⟨#[]⟩, .string ⟨#[]⟩], .bool false]) 1 0 := ⟨by kernel_rfl⟩
instance : UL Tryz.prog 112 (.func #[49, 49] #[4] false) := ⟨Tryz.underlying112⟩
instance : TI Tryz.prog 112 (.nilFunc) 1 8 := ⟨by kernel_rfl⟩
instance : UL Tryz.prog 115 (.struct #[⟨"Below", 4, 0, false, "", "", 0⟩, ⟨"D", 74, 1, false, "", "", 8⟩]) := ⟨Tryz.underlying115⟩
instance : TI Tryz.prog 115 (.agg #[.bool false, .slice none 0 0]) 2 32 := ⟨by kernel_rfl⟩
instance : UL Tryz.prog 116 (.struct #[⟨"N", 115, 0, false, "", "", 0⟩, ⟨"D", 115, 2, false, "", "", 32⟩]) := ⟨Tryz.underlying116⟩
instance : TI Tryz.prog 116 (.agg #[.bool false, .slice none 0 0, .bool false, .slice none 0 0]) 4 64 := ⟨by kernel_rfl⟩
instance : UL Tryz.prog 117 (.struct #[⟨"N", 115, 0, false, "", "", 0⟩, ⟨"D", 115, 2, false, "", "", 32⟩]) := ⟨Tryz.underlying117⟩
instance : TI Tryz.prog 117 (.agg #[.bool false, .slice none 0 0, .bool false, .slice none 0 0]) 4 64 := ⟨by kernel_rfl⟩
instance : UL Tryz.prog 120 (.func #[117, 117] #[3] false) := ⟨Tryz.underlying120⟩
instance : TI Tryz.prog 120 (.nilFunc) 1 8 := ⟨by kernel_rfl⟩
instance : UL Tryz.prog 121 (.func #[49] #[117] false) := ⟨Tryz.underlying121⟩
instance : TI Tryz.prog 121 (.nilFunc) 1 8 := ⟨by kernel_rfl⟩
instance : TI Tryz.prog 122 (.tuple #[.slice none 0 0, .int .i64 0]) 1 0 := ⟨by kernel_rfl⟩
instance : UL Tryz.prog 123 (.func #[74] #[32, 39] false) := ⟨Tryz.underlying123⟩
instance : TI Tryz.prog 123 (.nilFunc) 1 8 := ⟨by kernel_rfl⟩
instance : TI Tryz.prog 124 (.tuple #[.string ⟨#[]⟩, .int .i64 0]) 1 0 := ⟨by kernel_rfl⟩
instance : UL Tryz.prog 125 (.func #[34] #[47, 39] false) := ⟨Tryz.underlying125⟩
instance : TI Tryz.prog 125 (.nilFunc) 1 8 := ⟨by kernel_rfl⟩
instance : UL Tryz.prog 126 (.func #[3] #[9] false) := ⟨Tryz.underlying126⟩
instance : TI Tryz.prog 126 (.nilFunc) 1 8 := ⟨by kernel_rfl⟩
instance : UL Tryz.prog 127 (.array 6 31) := ⟨Tryz.underlying127⟩
instance : TI Tryz.prog 127 (.agg #[.int .i64 0, .int .i64 0, .int .i64 0, .int .i64 0, .int .i64 0, .int .i64 0, .int .i64 0, .int .i64 0, .int .i64 0, .int .i64 0, .int .i64 0, .int .i64 0, .int .i64 0, .int .i64 0, .int .i64 0, .int .i64 0, .int .i64 0, .int .i64 0]) 18 144 := ⟨by kernel_rfl⟩
instance : TI Tryz.prog 128 (.tuple #[.int .i64 0, .bool false]) 1 0 := ⟨by kernel_rfl⟩
instance : UL Tryz.prog 129 (.func #[76] #[39] false) := ⟨Tryz.underlying129⟩
instance : TI Tryz.prog 129 (.nilFunc) 1 8 := ⟨by kernel_rfl⟩
instance : UL Tryz.prog 132 (.func #[34, 39] #[34] false) := ⟨Tryz.underlying132⟩
instance : TI Tryz.prog 132 (.nilFunc) 1 8 := ⟨by kernel_rfl⟩
instance : TI Tryz.prog 133 (.tuple #[.agg #[.int .i64 0, .int .i64 0, .int .i64 0], .int .i64 0]) 1 0 := ⟨by kernel_rfl⟩
instance : TI Tryz.prog 135 (.tuple #[.int .i64 0, .int .i64 0]) 1 0 := ⟨by kernel_rfl⟩
instance : UL Tryz.prog 136 (.func #[34] #[3, 3] false) := ⟨Tryz.underlying136⟩
instance : TI Tryz.prog 136 (.nilFunc) 1 8 := ⟨by kernel_rfl⟩
instance : UL Tryz.prog 138 (.struct #[⟨"err", 39, 0, false, "", "verdigris/inside", 0⟩]) := ⟨Tryz.underlying138⟩
instance : TI Tryz.prog 138 (.agg #[.int .i64 0]) 1 8 := ⟨by kernel_rfl⟩
instance : TI Tryz.prog 139 (.tuple #[.agg #[.int .i64 0], .bool false]) 1 0 := ⟨by kernel_rfl⟩
instance : UL Tryz.prog 140 (.func #[193] #[] false) := ⟨Tryz.underlying140⟩
instance : TI Tryz.prog 140 (.nilFunc) 1 8 := ⟨by kernel_rfl⟩
instance : UL Tryz.prog 141 (.func #[193] #[] false) := ⟨Tryz.underlying141⟩
instance : TI Tryz.prog 141 (.nilFunc) 1 8 := ⟨by kernel_rfl⟩
instance : UL Tryz.prog 143 (.array 3 103) := ⟨Tryz.underlying143⟩
instance : TI Tryz.prog 143 (.agg #[.int .i64 0, .int .i64 0, .int .i64 0, .int .i64 0, .int .i64 0, .int .i64 0, .int .i64 0, .int .i64 0, .int .i64 0]) 9 72 := ⟨by kernel_rfl⟩
instance : UL Tryz.prog 144 (.array 3 103) := ⟨Tryz.underlying144⟩
instance : TI Tryz.prog 144 (.agg #[.int .i64 0, .int .i64 0, .int .i64 0, .int .i64 0, .int .i64 0, .int .i64 0, .int .i64 0, .int .i64 0, .int .i64 0]) 9 72 := ⟨by kernel_rfl⟩
instance : TI Tryz.prog 147 (.tuple #[.agg #[.int .i64 0, .int .i64 0, .int .i64 0], .agg #[.int .i64 0, .int .i64 0, .int .i64 0], .agg #[.int .i64 0, .int .i64 0, .int .i64 0]]) 1 0 := ⟨by kernel_rfl⟩
instance : UL Tryz.prog 148 (.func #[34, 3, 31] #[31, 31, 31] false) := ⟨Tryz.underlying148⟩
instance : TI Tryz.prog 148 (.nilFunc) 1 8 := ⟨by kernel_rfl⟩
instance : UL Tryz.prog 150 (.func #[106, 103] #[49, 4] false) := ⟨Tryz.underlying150⟩
instance : TI Tryz.prog 150 (.nilFunc) 1 8 := ⟨by kernel_rfl⟩
instance : UL Tryz.prog 152 (.func #[49, 39] #[49] false) := ⟨Tryz.underlying152⟩
instance : TI Tryz.prog 152 (.nilFunc) 1 8 := ⟨by kernel_rfl⟩
instance : UL Tryz.prog 153 (.func #[34, 3] #[31] false) := ⟨Tryz.underlying153⟩
instance : TI Tryz.prog 153 (.nilFunc) 1 8 := ⟨by kernel_rfl⟩
instance : UL Tryz.prog 155 (.func #[31, 31, 31, 31, 31] #[49, 4] false) := ⟨Tryz.underlying155⟩
instance : TI Tryz.prog 155 (.nilFunc) 1 8 := ⟨by kernel_rfl⟩
instance : UL Tryz.prog 157 (.func #[38, 3, 3, 31, 4] #[49, 4] false) := ⟨Tryz.underlying157⟩
instance : TI Tryz.prog 157 (.nilFunc) 1 8 := ⟨by kernel_rfl⟩
instance : UL Tryz.prog 158 (.func #[115] #[47, 39] false) := ⟨Tryz.underlying158⟩
instance : TI Tryz.prog 158 (.nilFunc) 1 8 := ⟨by kernel_rfl⟩
instance : UL Tryz.prog 160 (.func #[3] #[115] false) := ⟨Tryz.underlying160⟩
instance : TI Tryz.prog 160 (.nilFunc) 1 8 := ⟨by kernel_rfl⟩
instance : UL Tryz.prog 162 (.func #[47] #[115] false) := ⟨Tryz.underlying162⟩
instance : TI Tryz.prog 162 (.nilFunc) 1 8 := ⟨by kernel_rfl⟩
instance : UL Tryz.prog 166 (.func #[3] #[47] false) := ⟨Tryz.underlying166⟩
instance : TI Tryz.prog 166 (.nilFunc) 1 8 := ⟨by kernel_rfl⟩
instance : UL Tryz.prog 172 (.func #[31, 39] #[31] false) := ⟨Tryz.underlying172⟩
instance : TI Tryz.prog 172 (.nilFunc) 1 8 := ⟨by kernel_rfl⟩
instance : TI Tryz.prog 174 (.tuple #[.slice none 0 0, .int .i64 0]) 1 0 := ⟨by kernel_rfl⟩
instance : UL Tryz.prog 179 (.func #[224] #[] false) := ⟨Tryz.underlying179⟩
instance : TI Tryz.prog 179 (.nilFunc) 1 8 := ⟨by kernel_rfl⟩
instance : UL Tryz.prog 181 (.func #[] #[180] false) := ⟨Tryz.underlying181⟩
instance : TI Tryz.prog 181 (.nilFunc) 1 8 := ⟨by kernel_rfl⟩
instance : UL Tryz.prog 183 (.func #[3, 3] #[3] false) := ⟨Tryz.underlying183⟩
instance : TI Tryz.prog 183 (.nilFunc) 1 8 := ⟨by kernel_rfl⟩
instance : UL Tryz.prog 185 (.func #[34, 3, 3, 3] #[3] false) := ⟨Tryz.underlying185⟩
instance : TI Tryz.prog 185 (.nilFunc) 1 8 := ⟨by kernel_rfl⟩
instance : UL Tryz.prog 186 (.slice 4) := ⟨Tryz.underlying186⟩
instance : TI Tryz.prog 186 (.slice none 0 0) 1 24 := ⟨by kernel_rfl⟩
instance : UL Tryz.prog 187 (.map 228 3) := ⟨Tryz.underlying187⟩
instance : TI Tryz.prog 187 (.map none) 1 8 := ⟨by kernel_rfl⟩
instance : UL Tryz.prog 188 (.struct #[⟨"Mesh", 34, 0, true, "", "", 0⟩, ⟨"owners", 187, 2, false, "", "verdigris/mesh", 48⟩]) := ⟨Tryz.underlying188⟩
instance : TI Tryz.prog 188 (.agg #[.slice none 0 0, .slice none 0 0, .map none]) 3 56 := ⟨by kernel_rfl⟩
instance : UL Tryz.prog 189 (.struct #[⟨"Mesh", 34, 0, true, "", "", 0⟩, ⟨"owners", 187, 2, false, "", "verdigris/mesh", 48⟩]) := ⟨Tryz.underlying189⟩
instance : TI Tryz.prog 189 (.agg #[.slice none 0 0, .slice none 0 0, .map none]) 3 56 := ⟨by kernel_rfl⟩
instance : UL Tryz.prog 190 (.func #[] #[3, 4] false) := ⟨Tryz.underlying190⟩
instance : TI Tryz.prog 190 (.nilFunc) 1 8 := ⟨by kernel_rfl⟩
instance : UL Tryz.prog 191 (.func #[] #[3, 4] false) := ⟨Tryz.underlying191⟩
instance : TI Tryz.prog 191 (.nilFunc) 1 8 := ⟨by kernel_rfl⟩
instance : UL Tryz.prog 192 (.array 7 191) := ⟨Tryz.underlying192⟩
instance : TI Tryz.prog 192 (.agg #[.nilFunc, .nilFunc, .nilFunc, .nilFunc, .nilFunc, .nilFunc, .nilFunc]) 7 56 := ⟨by kernel_rfl⟩
instance : UL Tryz.prog 193 (.func #[3, 144] #[4] false) := ⟨Tryz.underlying193⟩
instance : TI Tryz.prog 193 (.nilFunc) 1 8 := ⟨by kernel_rfl⟩
instance : TI Tryz.prog 194 (.tuple #[.agg #[.string ⟨#[]⟩, .string ⟨#[]⟩, .string ⟨#[]⟩, .string ⟨#[]⟩, .bool false], .bool false]) 1 0 := ⟨by kernel_rfl⟩
instance : UL Tryz.prog 196 (.func #[103] #[31] false) := ⟨Tryz.underlying196⟩
instance : TI Tryz.prog 196 (.nilFunc) 1 8 := ⟨by kernel_rfl⟩
instance : UL Tryz.prog 199 (.func #[206, 206] #[3] false) := ⟨Tryz.underlying199⟩
instance : TI Tryz.prog 199 (.nilFunc) 1 8 := ⟨by kernel_rfl⟩
instance : UL Tryz.prog 202 (.slice 272) := ⟨Tryz.underlying202⟩
instance : TI Tryz.prog 202 (.slice none 0 0) 1 24 := ⟨by kernel_rfl⟩
instance : UL Tryz.prog 203 (.struct #[⟨"magnitude", 202, 0, true, "", "verdigris/frac", 0⟩, ⟨"negative", 4, 1, false, "", "verdigris/frac", 24⟩]) := ⟨Tryz.underlying203⟩
instance : TI Tryz.prog 203 (.agg #[.slice none 0 0, .bool false]) 2 32 := ⟨by kernel_rfl⟩
instance : UL Tryz.prog 204 (.struct #[⟨"magnitude", 202, 0, true, "", "verdigris/frac", 0⟩, ⟨"negative", 4, 1, false, "", "verdigris/frac", 24⟩]) := ⟨Tryz.underlying204⟩
instance : TI Tryz.prog 204 (.agg #[.slice none 0 0, .bool false]) 2 32 := ⟨by kernel_rfl⟩
instance : UL Tryz.prog 206 (.struct #[⟨"integer", 204, 0, true, "", "verdigris/frac", 0⟩, ⟨"below", 202, 2, false, "", "verdigris/frac", 32⟩]) := ⟨Tryz.underlying206⟩
instance : TI Tryz.prog 206 (.agg #[.slice none 0 0, .bool false, .slice none 0 0]) 3 56 := ⟨by kernel_rfl⟩
instance : UL Tryz.prog 208 (.func #[49] #[3, 39] false) := ⟨Tryz.underlying208⟩
instance : TI Tryz.prog 208 (.nilFunc) 1 8 := ⟨by kernel_rfl⟩
instance : TI Tryz.prog 210 (.tuple #[.agg #[.bool false, .slice none 0 0], .agg #[.bool false, .slice none 0 0]]) 1 0 := ⟨by kernel_rfl⟩
instance : TI Tryz.prog 213 (.tuple #[.slice none 0 0, .slice none 0 0]) 1 0 := ⟨by kernel_rfl⟩
instance : UL Tryz.prog 216 (.func #[3, 47, 47] #[47, 39] false) := ⟨Tryz.underlying216⟩
instance : TI Tryz.prog 216 (.nilFunc) 1 8 := ⟨by kernel_rfl⟩
instance : TI Tryz.prog 221 (.tuple #[.agg #[.int .i64 0, .int .i64 0, .int .i64 0, .int .i64 0], .bool false]) 1 0 := ⟨by kernel_rfl⟩
instance : UL Tryz.prog 225 (.func #[269] #[] false) := ⟨Tryz.underlying225⟩
instance : TI Tryz.prog 225 (.nilFunc) 1 8 := ⟨by kernel_rfl⟩
instance : UL Tryz.prog 226 (.func #[269] #[] false) := ⟨Tryz.underlying226⟩
instance : TI Tryz.prog 226 (.nilFunc) 1 8 := ⟨by kernel_rfl⟩
instance : UL Tryz.prog 228 (.array 2 3) := ⟨Tryz.underlying228⟩
instance : TI Tryz.prog 228 (.agg #[.int .i64 0, .int .i64 0]) 2 16 := ⟨by kernel_rfl⟩
instance : UL Tryz.prog 232 (.func #[] #[3, 3] false) := ⟨Tryz.underlying232⟩
instance : TI Tryz.prog 232 (.nilFunc) 1 8 := ⟨by kernel_rfl⟩
instance : UL Tryz.prog 233 (.array 3 232) := ⟨Tryz.underlying233⟩
instance : TI Tryz.prog 233 (.agg #[.nilFunc, .nilFunc, .nilFunc]) 3 24 := ⟨by kernel_rfl⟩
instance : UL Tryz.prog 234 (.func #[103] #[233] false) := ⟨Tryz.underlying234⟩
instance : TI Tryz.prog 234 (.nilFunc) 1 8 := ⟨by kernel_rfl⟩
instance : TI Tryz.prog 236 (.tuple #[.agg #[.slice none 0 0, .bool false, .slice none 0 0], .bool false]) 1 0 := ⟨by kernel_rfl⟩
instance : UL Tryz.prog 239 (.func #[204] #[204] false) := ⟨Tryz.underlying239⟩
instance : TI Tryz.prog 239 (.nilFunc) 1 8 := ⟨by kernel_rfl⟩
instance : UL Tryz.prog 244 (.func #[202, 4] #[204] false) := ⟨Tryz.underlying244⟩
instance : TI Tryz.prog 244 (.nilFunc) 1 8 := ⟨by kernel_rfl⟩
instance : UL Tryz.prog 247 (.slice 5) := ⟨Tryz.underlying247⟩
instance : TI Tryz.prog 247 (.slice none 0 0) 1 24 := ⟨by kernel_rfl⟩
instance : TI Tryz.prog 248 (.tuple #[.slice none 0 0, .int .i64 0]) 1 0 := ⟨by kernel_rfl⟩
instance : UL Tryz.prog 250 (.func #[74, 74] #[3] false) := ⟨Tryz.underlying250⟩
instance : TI Tryz.prog 250 (.nilFunc) 1 8 := ⟨by kernel_rfl⟩
instance : UL Tryz.prog 251 (.slice 272) := ⟨Tryz.underlying251⟩
instance : TI Tryz.prog 251 (.slice none 0 0) 1 24 := ⟨by kernel_rfl⟩
instance : UL Tryz.prog 252 (.struct #[⟨"magnitude", 251, 0, true, "", "verdigris/whole", 0⟩, ⟨"negative", 4, 1, false, "", "verdigris/whole", 24⟩]) := ⟨Tryz.underlying252⟩
instance : TI Tryz.prog 252 (.agg #[.slice none 0 0, .bool false]) 2 32 := ⟨by kernel_rfl⟩
instance : UL Tryz.prog 253 (.struct #[⟨"magnitude", 251, 0, true, "", "verdigris/whole", 0⟩, ⟨"negative", 4, 1, false, "", "verdigris/whole", 24⟩]) := ⟨Tryz.underlying253⟩
instance : TI Tryz.prog 253 (.agg #[.slice none 0 0, .bool false]) 2 32 := ⟨by kernel_rfl⟩
instance : TI Tryz.prog 254 (.tuple #[.agg #[.slice none 0 0, .bool false], .agg #[.slice none 0 0, .bool false], .int .i64 0]) 1 0 := ⟨by kernel_rfl⟩
instance : UL Tryz.prog 255 (.func #[47, 47] #[253, 253, 39] false) := ⟨Tryz.underlying255⟩
instance : TI Tryz.prog 255 (.nilFunc) 1 8 := ⟨by kernel_rfl⟩
instance : UL Tryz.prog 256 (.func #[253, 253] #[253] false) := ⟨Tryz.underlying256⟩
instance : TI Tryz.prog 256 (.nilFunc) 1 8 := ⟨by kernel_rfl⟩
instance : UL Tryz.prog 257 (.func #[253] #[253] false) := ⟨Tryz.underlying257⟩
instance : TI Tryz.prog 257 (.nilFunc) 1 8 := ⟨by kernel_rfl⟩
instance : UL Tryz.prog 258 (.struct #[⟨"run", 256, 0, false, "", "verdigris/whole", 0⟩]) := ⟨Tryz.underlying258⟩
instance : TI Tryz.prog 258 (.agg #[.nilFunc]) 1 8 := ⟨by kernel_rfl⟩
instance : UL Tryz.prog 259 (.struct #[⟨"run", 256, 0, false, "", "verdigris/whole", 0⟩]) := ⟨Tryz.underlying259⟩
instance : TI Tryz.prog 259 (.agg #[.nilFunc]) 1 8 := ⟨by kernel_rfl⟩
instance : UL Tryz.prog 260 (.array 4 259) := ⟨Tryz.underlying260⟩
instance : TI Tryz.prog 260 (.agg #[.nilFunc, .nilFunc, .nilFunc, .nilFunc]) 4 32 := ⟨by kernel_rfl⟩
instance : UL Tryz.prog 263 (.int .u64) := ⟨Tryz.underlying263⟩
instance : TI Tryz.prog 263 (.int .u64 0) 1 8 := ⟨by kernel_rfl⟩
instance : UL Tryz.prog 269 (.func #[3, 228] #[4] false) := ⟨Tryz.underlying269⟩
instance : TI Tryz.prog 269 (.nilFunc) 1 8 := ⟨by kernel_rfl⟩
instance : UL Tryz.prog 272 (.int .u32) := ⟨Tryz.underlying272⟩
instance : TI Tryz.prog 272 (.int .u32 0) 1 4 := ⟨by kernel_rfl⟩
instance : TI Tryz.prog 273 (.tuple #[.agg #[.slice none 0 0, .bool false], .bool false]) 1 0 := ⟨by kernel_rfl⟩
instance : UL Tryz.prog 274 (.func #[47] #[253, 4] false) := ⟨Tryz.underlying274⟩
instance : TI Tryz.prog 274 (.nilFunc) 1 8 := ⟨by kernel_rfl⟩
instance : TI Tryz.prog 275 (.tuple #[.string ⟨#[]⟩, .bool false]) 1 0 := ⟨by kernel_rfl⟩
instance : TI Tryz.prog 278 (.tuple #[.slice none 0 0, .slice none 0 0]) 1 0 := ⟨by kernel_rfl⟩
instance : UL Tryz.prog 279 (.func #[202] #[202, 202] false) := ⟨Tryz.underlying279⟩
instance : TI Tryz.prog 279 (.nilFunc) 1 8 := ⟨by kernel_rfl⟩
instance : UL Tryz.prog 284 (.func #[251] #[3] false) := ⟨Tryz.underlying284⟩
instance : TI Tryz.prog 284 (.nilFunc) 1 8 := ⟨by kernel_rfl⟩
instance : UL Tryz.prog 287 (.array 20 263) := ⟨Tryz.underlying287⟩
instance : TI Tryz.prog 287 (.agg #[.int .u64 0, .int .u64 0, .int .u64 0, .int .u64 0, .int .u64 0, .int .u64 0, .int .u64 0, .int .u64 0, .int .u64 0, .int .u64 0, .int .u64 0, .int .u64 0, .int .u64 0, .int .u64 0, .int .u64 0, .int .u64 0, .int .u64 0, .int .u64 0, .int .u64 0, .int .u64 0]) 20 160 := ⟨by kernel_rfl⟩
instance : UL Tryz.prog 294 (.func #[272, 272] #[3] false) := ⟨Tryz.underlying294⟩
instance : TI Tryz.prog 294 (.nilFunc) 1 8 := ⟨by kernel_rfl⟩
instance : UL Tryz.prog 296 (.func #[9] #[251] false) := ⟨Tryz.underlying296⟩
instance : TI Tryz.prog 296 (.nilFunc) 1 8 := ⟨by kernel_rfl⟩
instance : TI Tryz.prog 297 (.tuple #[.slice none 0 0, .int .u32 0]) 1 0 := ⟨by kernel_rfl⟩
instance : UL Tryz.prog 300 (.pointer 302) := ⟨Tryz.underlying300⟩
instance : TI Tryz.prog 300 (.pointer none) 1 8 := ⟨by kernel_rfl⟩
instance : UL Tryz.prog 302 (.struct #[⟨"addr", 300, 0, false, "", "strings", 0⟩, ⟨"buf", 247, 1, false, "", "strings", 8⟩]) := ⟨Tryz.underlying302⟩
instance : TI Tryz.prog 302 (.agg #[.pointer none, .slice none 0 0]) 2 32 := ⟨by kernel_rfl⟩
instance : TI Tryz.prog 304 (.nilIface) 1 16 := ⟨by kernel_rfl⟩
instance : TI Tryz.prog 306 (.tuple #[.int .i64 0, .nilIface]) 1 0 := ⟨by kernel_rfl⟩
instance : UL Tryz.prog 308 (.func #[272, 3] #[] false) := ⟨Tryz.underlying308⟩
instance : TI Tryz.prog 308 (.nilFunc) 1 8 := ⟨by kernel_rfl⟩
instance : TI Tryz.prog 311 (.tuple #[.slice none 0 0, .slice none 0 0]) 1 0 := ⟨by kernel_rfl⟩
instance : UL Tryz.prog 316 (.pointer 5) := ⟨Tryz.underlying316⟩
instance : TI Tryz.prog 316 (.pointer none) 1 8 := ⟨by kernel_rfl⟩
instance : TI Tryz.prog 317 (.tuple #[.slice none 0 0, .int .u32 0]) 1 0 := ⟨by kernel_rfl⟩
instance : UL Tryz.prog 322 (.unsafePointer) := ⟨Tryz.underlying322⟩
instance : TI Tryz.prog 322 (.pointer none) 1 8 := ⟨by kernel_rfl⟩
instance : UL Tryz.prog 325 (.struct #[⟨"_interface", 17, 0, false, "", "runtime", 0⟩, ⟨"concrete", 17, 1, false, "", "runtime", 8⟩, ⟨"asserted", 17, 2, false, "", "runtime", 16⟩, ⟨"missingMethod", 9, 3, false, "", "runtime", 24⟩]) := ⟨Tryz.underlying325⟩
instance : TI Tryz.prog 325 (.agg #[.pointer none, .pointer none, .pointer none, .string ⟨#[]⟩]) 4 40 := ⟨by kernel_rfl⟩
instance : UL Tryz.prog 326 (.array 0 16) := ⟨Tryz.underlying326⟩
instance : TI Tryz.prog 326 (.agg #[]) 0 0 := ⟨by kernel_rfl⟩
instance : UL Tryz.prog 328 (.struct #[⟨"_", 326, 0, false, "", "runtime", 0⟩]) := ⟨Tryz.underlying328⟩
instance : TI Tryz.prog 328 (.agg #[]) 0 0 := ⟨by kernel_rfl⟩
instance : UL Tryz.prog 329 (.int .u8) := ⟨Tryz.underlying329⟩
instance : TI Tryz.prog 329 (.int .u8 0) 1 1 := ⟨by kernel_rfl⟩
instance : UL Tryz.prog 330 (.int .u8) := ⟨Tryz.underlying330⟩
instance : TI Tryz.prog 330 (.int .u8 0) 1 1 := ⟨by kernel_rfl⟩
instance : UL Tryz.prog 331 (.func #[322, 322] #[4] false) := ⟨Tryz.underlying331⟩
instance : TI Tryz.prog 331 (.nilFunc) 1 8 := ⟨by kernel_rfl⟩
instance : UL Tryz.prog 332 (.int .i32) := ⟨Tryz.underlying332⟩
instance : TI Tryz.prog 332 (.int .i32 0) 1 4 := ⟨by kernel_rfl⟩
instance : UL Tryz.prog 333 (.int .i32) := ⟨Tryz.underlying333⟩
instance : TI Tryz.prog 333 (.int .i32 0) 1 4 := ⟨by kernel_rfl⟩
instance : UL Tryz.prog 335 (.struct #[⟨"Size_", 12, 0, false, "", "", 0⟩, ⟨"PtrBytes", 12, 1, false, "", "", 8⟩, ⟨"Hash", 272, 2, false, "", "", 16⟩, ⟨"TFlag", 329, 3, false, "", "", 20⟩, ⟨"Align_", 5, 4, false, "", "", 21⟩, ⟨"FieldAlign_", 5, 5, false, "", "", 22⟩, ⟨"Kind_", 330, 6, false, "", "", 23⟩, ⟨"Equal", 331, 7, false, "", "", 24⟩, ⟨"GCData", 316, 8, false, "", "", 32⟩, ⟨"Str", 332, 9, false, "", "", 40⟩, ⟨"PtrToThis", 333, 10, false, "", "", 44⟩]) := ⟨Tryz.underlying335⟩
instance : TI Tryz.prog 335 (.agg #[.int .u64 0, .int .u64 0, .int .u32 0, .int .u8 0, .int .u8 0, .int .u8 0, .int .u8 0, .nilFunc, .pointer none, .int .i32 0, .int .i32 0]) 11 48 := ⟨by kernel_rfl⟩
instance : FO Tryz.prog 7 0 0 1 := ⟨_, _, Tryz.underlying7, rfl, rfl, (by obtain ⟨i, h1, _, h2, _⟩ := (inferInstance : TI Tryz.prog 2 _ _ _).info; exact ⟨i, h1, h2⟩), by decide⟩
instance : FO Tryz.prog 7 1 1 1 := ⟨_, _, Tryz.underlying7, rfl, rfl, (by obtain ⟨i, h1, _, h2, _⟩ := (inferInstance : TI Tryz.prog 3 _ _ _).info; exact ⟨i, h1, h2⟩), by decide⟩
instance : FO Tryz.prog 7 2 2 1 := ⟨_, _, Tryz.underlying7, rfl, rfl, (by obtain ⟨i, h1, _, h2, _⟩ := (inferInstance : TI Tryz.prog 4 _ _ _).info; exact ⟨i, h1, h2⟩), by decide⟩
instance : FO Tryz.prog 7 3 3 1 := ⟨_, _, Tryz.underlying7, rfl, rfl, (by obtain ⟨i, h1, _, h2, _⟩ := (inferInstance : TI Tryz.prog 6 _ _ _).info; exact ⟨i, h1, h2⟩), by decide⟩
instance : FO Tryz.prog 8 0 0 1 := ⟨_, _, Tryz.underlying8, rfl, rfl, (by obtain ⟨i, h1, _, h2, _⟩ := (inferInstance : TI Tryz.prog 2 _ _ _).info; exact ⟨i, h1, h2⟩), by decide⟩
instance : FO Tryz.prog 8 1 1 1 := ⟨_, _, Tryz.underlying8, rfl, rfl, (by obtain ⟨i, h1, _, h2, _⟩ := (inferInstance : TI Tryz.prog 3 _ _ _).info; exact ⟨i, h1, h2⟩), by decide⟩
instance : FO Tryz.prog 8 2 2 1 := ⟨_, _, Tryz.underlying8, rfl, rfl, (by obtain ⟨i, h1, _, h2, _⟩ := (inferInstance : TI Tryz.prog 4 _ _ _).info; exact ⟨i, h1, h2⟩), by decide⟩
instance : FO Tryz.prog 8 3 3 1 := ⟨_, _, Tryz.underlying8, rfl, rfl, (by obtain ⟨i, h1, _, h2, _⟩ := (inferInstance : TI Tryz.prog 6 _ _ _).info; exact ⟨i, h1, h2⟩), by decide⟩
instance : FO Tryz.prog 13 0 0 1 := ⟨_, _, Tryz.underlying13, rfl, rfl, (by obtain ⟨i, h1, _, h2, _⟩ := (inferInstance : TI Tryz.prog 9 _ _ _).info; exact ⟨i, h1, h2⟩), by decide⟩
instance : FO Tryz.prog 13 1 1 1 := ⟨_, _, Tryz.underlying13, rfl, rfl, (by obtain ⟨i, h1, _, h2, _⟩ := (inferInstance : TI Tryz.prog 12 _ _ _).info; exact ⟨i, h1, h2⟩), by decide⟩
instance : FO Tryz.prog 14 0 0 1 := ⟨_, _, Tryz.underlying14, rfl, rfl, (by obtain ⟨i, h1, _, h2, _⟩ := (inferInstance : TI Tryz.prog 9 _ _ _).info; exact ⟨i, h1, h2⟩), by decide⟩
instance : FO Tryz.prog 14 1 1 1 := ⟨_, _, Tryz.underlying14, rfl, rfl, (by obtain ⟨i, h1, _, h2, _⟩ := (inferInstance : TI Tryz.prog 12 _ _ _).info; exact ⟨i, h1, h2⟩), by decide⟩
instance : FO Tryz.prog 18 0 0 1 := ⟨_, _, Tryz.underlying18, rfl, rfl, (by obtain ⟨i, h1, _, h2, _⟩ := (inferInstance : TI Tryz.prog 17 _ _ _).info; exact ⟨i, h1, h2⟩), by decide⟩
instance : FO Tryz.prog 19 0 0 1 := ⟨_, _, Tryz.underlying19, rfl, rfl, (by obtain ⟨i, h1, _, h2, _⟩ := (inferInstance : TI Tryz.prog 17 _ _ _).info; exact ⟨i, h1, h2⟩), by decide⟩
instance : FO Tryz.prog 25 0 0 1 := ⟨_, _, Tryz.underlying25, rfl, rfl, (by obtain ⟨i, h1, _, h2, _⟩ := (inferInstance : TI Tryz.prog 5 _ _ _).info; exact ⟨i, h1, h2⟩), by decide⟩
instance : FO Tryz.prog 25 1 1 1 := ⟨_, _, Tryz.underlying25, rfl, rfl, (by obtain ⟨i, h1, _, h2, _⟩ := (inferInstance : TI Tryz.prog 5 _ _ _).info; exact ⟨i, h1, h2⟩), by decide⟩
instance : FO Tryz.prog 25 2 2 3 := ⟨_, _, Tryz.underlying25, rfl, rfl, (by obtain ⟨i, h1, _, h2, _⟩ := (inferInstance : TI Tryz.prog 23 _ _ _).info; exact ⟨i, h1, h2⟩), by decide⟩
instance : FO Tryz.prog 25 3 5 1 := ⟨_, _, Tryz.underlying25, rfl, rfl, (by obtain ⟨i, h1, _, h2, _⟩ := (inferInstance : TI Tryz.prog 24 _ _ _).info; exact ⟨i, h1, h2⟩), by decide⟩
instance : FO Tryz.prog 25 4 6 1 := ⟨_, _, Tryz.underlying25, rfl, rfl, (by obtain ⟨i, h1, _, h2, _⟩ := (inferInstance : TI Tryz.prog 4 _ _ _).info; exact ⟨i, h1, h2⟩), by decide⟩
instance : FO Tryz.prog 26 0 0 1 := ⟨_, _, Tryz.underlying26, rfl, rfl, (by obtain ⟨i, h1, _, h2, _⟩ := (inferInstance : TI Tryz.prog 5 _ _ _).info; exact ⟨i, h1, h2⟩), by decide⟩
instance : FO Tryz.prog 26 1 1 1 := ⟨_, _, Tryz.underlying26, rfl, rfl, (by obtain ⟨i, h1, _, h2, _⟩ := (inferInstance : TI Tryz.prog 5 _ _ _).info; exact ⟨i, h1, h2⟩), by decide⟩
instance : FO Tryz.prog 26 2 2 3 := ⟨_, _, Tryz.underlying26, rfl, rfl, (by obtain ⟨i, h1, _, h2, _⟩ := (inferInstance : TI Tryz.prog 23 _ _ _).info; exact ⟨i, h1, h2⟩), by decide⟩
instance : FO Tryz.prog 26 3 5 1 := ⟨_, _, Tryz.underlying26, rfl, rfl, (by obtain ⟨i, h1, _, h2, _⟩ := (inferInstance : TI Tryz.prog 24 _ _ _).info; exact ⟨i, h1, h2⟩), by decide⟩
instance : FO Tryz.prog 26 4 6 1 := ⟨_, _, Tryz.underlying26, rfl, rfl, (by obtain ⟨i, h1, _, h2, _⟩ := (inferInstance : TI Tryz.prog 4 _ _ _).info; exact ⟨i, h1, h2⟩), by decide⟩
instance : FO Tryz.prog 28 0 0 3 := ⟨_, _, Tryz.underlying28, rfl, rfl, (by obtain ⟨i, h1, _, h2, _⟩ := (inferInstance : TI Tryz.prog 27 _ _ _).info; exact ⟨i, h1, h2⟩), by decide⟩
instance : FO Tryz.prog 28 1 3 3 := ⟨_, _, Tryz.underlying28, rfl, rfl, (by obtain ⟨i, h1, _, h2, _⟩ := (inferInstance : TI Tryz.prog 27 _ _ _).info; exact ⟨i, h1, h2⟩), by decide⟩
instance : FO Tryz.prog 28 2 6 3 := ⟨_, _, Tryz.underlying28, rfl, rfl, (by obtain ⟨i, h1, _, h2, _⟩ := (inferInstance : TI Tryz.prog 23 _ _ _).info; exact ⟨i, h1, h2⟩), by decide⟩
instance : FO Tryz.prog 29 0 0 3 := ⟨_, _, Tryz.underlying29, rfl, rfl, (by obtain ⟨i, h1, _, h2, _⟩ := (inferInstance : TI Tryz.prog 27 _ _ _).info; exact ⟨i, h1, h2⟩), by decide⟩
instance : FO Tryz.prog 29 1 3 3 := ⟨_, _, Tryz.underlying29, rfl, rfl, (by obtain ⟨i, h1, _, h2, _⟩ := (inferInstance : TI Tryz.prog 27 _ _ _).info; exact ⟨i, h1, h2⟩), by decide⟩
instance : FO Tryz.prog 29 2 6 3 := ⟨_, _, Tryz.underlying29, rfl, rfl, (by obtain ⟨i, h1, _, h2, _⟩ := (inferInstance : TI Tryz.prog 23 _ _ _).info; exact ⟨i, h1, h2⟩), by decide⟩
instance : FO Tryz.prog 33 0 0 1 := ⟨_, _, Tryz.underlying33, rfl, rfl, (by obtain ⟨i, h1, _, h2, _⟩ := (inferInstance : TI Tryz.prog 32 _ _ _).info; exact ⟨i, h1, h2⟩), by decide⟩
instance : FO Tryz.prog 33 1 1 1 := ⟨_, _, Tryz.underlying33, rfl, rfl, (by obtain ⟨i, h1, _, h2, _⟩ := (inferInstance : TI Tryz.prog 32 _ _ _).info; exact ⟨i, h1, h2⟩), by decide⟩
instance : FO Tryz.prog 34 0 0 1 := ⟨_, _, Tryz.underlying34, rfl, rfl, (by obtain ⟨i, h1, _, h2, _⟩ := (inferInstance : TI Tryz.prog 32 _ _ _).info; exact ⟨i, h1, h2⟩), by decide⟩
instance : FO Tryz.prog 34 1 1 1 := ⟨_, _, Tryz.underlying34, rfl, rfl, (by obtain ⟨i, h1, _, h2, _⟩ := (inferInstance : TI Tryz.prog 32 _ _ _).info; exact ⟨i, h1, h2⟩), by decide⟩
instance : FO Tryz.prog 48 0 0 1 := ⟨_, _, Tryz.underlying48, rfl, rfl, (by obtain ⟨i, h1, _, h2, _⟩ := (inferInstance : TI Tryz.prog 47 _ _ _).info; exact ⟨i, h1, h2⟩), by decide⟩
instance : FO Tryz.prog 48 1 1 1 := ⟨_, _, Tryz.underlying48, rfl, rfl, (by obtain ⟨i, h1, _, h2, _⟩ := (inferInstance : TI Tryz.prog 47 _ _ _).info; exact ⟨i, h1, h2⟩), by decide⟩
instance : FO Tryz.prog 49 0 0 1 := ⟨_, _, Tryz.underlying49, rfl, rfl, (by obtain ⟨i, h1, _, h2, _⟩ := (inferInstance : TI Tryz.prog 47 _ _ _).info; exact ⟨i, h1, h2⟩), by decide⟩
instance : FO Tryz.prog 49 1 1 1 := ⟨_, _, Tryz.underlying49, rfl, rfl, (by obtain ⟨i, h1, _, h2, _⟩ := (inferInstance : TI Tryz.prog 47 _ _ _).info; exact ⟨i, h1, h2⟩), by decide⟩
instance : FO Tryz.prog 72 0 0 1 := ⟨_, _, Tryz.underlying72, rfl, rfl, (by obtain ⟨i, h1, _, h2, _⟩ := (inferInstance : TI Tryz.prog 5 _ _ _).info; exact ⟨i, h1, h2⟩), by decide⟩
instance : FO Tryz.prog 72 1 1 1 := ⟨_, _, Tryz.underlying72, rfl, rfl, (by obtain ⟨i, h1, _, h2, _⟩ := (inferInstance : TI Tryz.prog 5 _ _ _).info; exact ⟨i, h1, h2⟩), by decide⟩
instance : FO Tryz.prog 72 2 2 3 := ⟨_, _, Tryz.underlying72, rfl, rfl, (by obtain ⟨i, h1, _, h2, _⟩ := (inferInstance : TI Tryz.prog 71 _ _ _).info; exact ⟨i, h1, h2⟩), by decide⟩
instance : FO Tryz.prog 72 3 5 3 := ⟨_, _, Tryz.underlying72, rfl, rfl, (by obtain ⟨i, h1, _, h2, _⟩ := (inferInstance : TI Tryz.prog 27 _ _ _).info; exact ⟨i, h1, h2⟩), by decide⟩
instance : FO Tryz.prog 76 0 0 1 := ⟨_, _, Tryz.underlying76, rfl, rfl, (by obtain ⟨i, h1, _, h2, _⟩ := (inferInstance : TI Tryz.prog 74 _ _ _).info; exact ⟨i, h1, h2⟩), by decide⟩
instance : FO Tryz.prog 76 1 1 1 := ⟨_, _, Tryz.underlying76, rfl, rfl, (by obtain ⟨i, h1, _, h2, _⟩ := (inferInstance : TI Tryz.prog 3 _ _ _).info; exact ⟨i, h1, h2⟩), by decide⟩
instance : FO Tryz.prog 76 2 2 1 := ⟨_, _, Tryz.underlying76, rfl, rfl, (by obtain ⟨i, h1, _, h2, _⟩ := (inferInstance : TI Tryz.prog 74 _ _ _).info; exact ⟨i, h1, h2⟩), by decide⟩
instance : FO Tryz.prog 99 0 0 2 := ⟨_, _, Tryz.underlying99, rfl, rfl, (by obtain ⟨i, h1, _, h2, _⟩ := (inferInstance : TI Tryz.prog 49 _ _ _).info; exact ⟨i, h1, h2⟩), by decide⟩
instance : FO Tryz.prog 99 1 2 1 := ⟨_, _, Tryz.underlying99, rfl, rfl, (by obtain ⟨i, h1, _, h2, _⟩ := (inferInstance : TI Tryz.prog 3 _ _ _).info; exact ⟨i, h1, h2⟩), by decide⟩
instance : FO Tryz.prog 105 0 0 2 := ⟨_, _, Tryz.underlying105, rfl, rfl, (by obtain ⟨i, h1, _, h2, _⟩ := (inferInstance : TI Tryz.prog 49 _ _ _).info; exact ⟨i, h1, h2⟩), by decide⟩
instance : FO Tryz.prog 105 1 2 2 := ⟨_, _, Tryz.underlying105, rfl, rfl, (by obtain ⟨i, h1, _, h2, _⟩ := (inferInstance : TI Tryz.prog 49 _ _ _).info; exact ⟨i, h1, h2⟩), by decide⟩
instance : FO Tryz.prog 105 2 4 1 := ⟨_, _, Tryz.underlying105, rfl, rfl, (by obtain ⟨i, h1, _, h2, _⟩ := (inferInstance : TI Tryz.prog 4 _ _ _).info; exact ⟨i, h1, h2⟩), by decide⟩
instance : FO Tryz.prog 106 0 0 2 := ⟨_, _, Tryz.underlying106, rfl, rfl, (by obtain ⟨i, h1, _, h2, _⟩ := (inferInstance : TI Tryz.prog 49 _ _ _).info; exact ⟨i, h1, h2⟩), by decide⟩
instance : FO Tryz.prog 106 1 2 2 := ⟨_, _, Tryz.underlying106, rfl, rfl, (by obtain ⟨i, h1, _, h2, _⟩ := (inferInstance : TI Tryz.prog 49 _ _ _).info; exact ⟨i, h1, h2⟩), by decide⟩
instance : FO Tryz.prog 106 2 4 1 := ⟨_, _, Tryz.underlying106, rfl, rfl, (by obtain ⟨i, h1, _, h2, _⟩ := (inferInstance : TI Tryz.prog 4 _ _ _).info; exact ⟨i, h1, h2⟩), by decide⟩
instance : FO Tryz.prog 115 0 0 1 := ⟨_, _, Tryz.underlying115, rfl, rfl, (by obtain ⟨i, h1, _, h2, _⟩ := (inferInstance : TI Tryz.prog 4 _ _ _).info; exact ⟨i, h1, h2⟩), by decide⟩
instance : FO Tryz.prog 115 1 1 1 := ⟨_, _, Tryz.underlying115, rfl, rfl, (by obtain ⟨i, h1, _, h2, _⟩ := (inferInstance : TI Tryz.prog 74 _ _ _).info; exact ⟨i, h1, h2⟩), by decide⟩
instance : FO Tryz.prog 116 0 0 2 := ⟨_, _, Tryz.underlying116, rfl, rfl, (by obtain ⟨i, h1, _, h2, _⟩ := (inferInstance : TI Tryz.prog 115 _ _ _).info; exact ⟨i, h1, h2⟩), by decide⟩
instance : FO Tryz.prog 116 1 2 2 := ⟨_, _, Tryz.underlying116, rfl, rfl, (by obtain ⟨i, h1, _, h2, _⟩ := (inferInstance : TI Tryz.prog 115 _ _ _).info; exact ⟨i, h1, h2⟩), by decide⟩
instance : FO Tryz.prog 117 0 0 2 := ⟨_, _, Tryz.underlying117, rfl, rfl, (by obtain ⟨i, h1, _, h2, _⟩ := (inferInstance : TI Tryz.prog 115 _ _ _).info; exact ⟨i, h1, h2⟩), by decide⟩
instance : FO Tryz.prog 117 1 2 2 := ⟨_, _, Tryz.underlying117, rfl, rfl, (by obtain ⟨i, h1, _, h2, _⟩ := (inferInstance : TI Tryz.prog 115 _ _ _).info; exact ⟨i, h1, h2⟩), by decide⟩
instance : FO Tryz.prog 138 0 0 1 := ⟨_, _, Tryz.underlying138, rfl, rfl, (by obtain ⟨i, h1, _, h2, _⟩ := (inferInstance : TI Tryz.prog 39 _ _ _).info; exact ⟨i, h1, h2⟩), by decide⟩
instance : FO Tryz.prog 188 0 0 2 := ⟨_, _, Tryz.underlying188, rfl, rfl, (by obtain ⟨i, h1, _, h2, _⟩ := (inferInstance : TI Tryz.prog 34 _ _ _).info; exact ⟨i, h1, h2⟩), by decide⟩
instance : FO Tryz.prog 188 1 2 1 := ⟨_, _, Tryz.underlying188, rfl, rfl, (by obtain ⟨i, h1, _, h2, _⟩ := (inferInstance : TI Tryz.prog 187 _ _ _).info; exact ⟨i, h1, h2⟩), by decide⟩
instance : FO Tryz.prog 189 0 0 2 := ⟨_, _, Tryz.underlying189, rfl, rfl, (by obtain ⟨i, h1, _, h2, _⟩ := (inferInstance : TI Tryz.prog 34 _ _ _).info; exact ⟨i, h1, h2⟩), by decide⟩
instance : FO Tryz.prog 189 1 2 1 := ⟨_, _, Tryz.underlying189, rfl, rfl, (by obtain ⟨i, h1, _, h2, _⟩ := (inferInstance : TI Tryz.prog 187 _ _ _).info; exact ⟨i, h1, h2⟩), by decide⟩
instance : FO Tryz.prog 203 0 0 1 := ⟨_, _, Tryz.underlying203, rfl, rfl, (by obtain ⟨i, h1, _, h2, _⟩ := (inferInstance : TI Tryz.prog 202 _ _ _).info; exact ⟨i, h1, h2⟩), by decide⟩
instance : FO Tryz.prog 203 1 1 1 := ⟨_, _, Tryz.underlying203, rfl, rfl, (by obtain ⟨i, h1, _, h2, _⟩ := (inferInstance : TI Tryz.prog 4 _ _ _).info; exact ⟨i, h1, h2⟩), by decide⟩
instance : FO Tryz.prog 204 0 0 1 := ⟨_, _, Tryz.underlying204, rfl, rfl, (by obtain ⟨i, h1, _, h2, _⟩ := (inferInstance : TI Tryz.prog 202 _ _ _).info; exact ⟨i, h1, h2⟩), by decide⟩
instance : FO Tryz.prog 204 1 1 1 := ⟨_, _, Tryz.underlying204, rfl, rfl, (by obtain ⟨i, h1, _, h2, _⟩ := (inferInstance : TI Tryz.prog 4 _ _ _).info; exact ⟨i, h1, h2⟩), by decide⟩
instance : FO Tryz.prog 206 0 0 2 := ⟨_, _, Tryz.underlying206, rfl, rfl, (by obtain ⟨i, h1, _, h2, _⟩ := (inferInstance : TI Tryz.prog 204 _ _ _).info; exact ⟨i, h1, h2⟩), by decide⟩
instance : FO Tryz.prog 206 1 2 1 := ⟨_, _, Tryz.underlying206, rfl, rfl, (by obtain ⟨i, h1, _, h2, _⟩ := (inferInstance : TI Tryz.prog 202 _ _ _).info; exact ⟨i, h1, h2⟩), by decide⟩
instance : FO Tryz.prog 252 0 0 1 := ⟨_, _, Tryz.underlying252, rfl, rfl, (by obtain ⟨i, h1, _, h2, _⟩ := (inferInstance : TI Tryz.prog 251 _ _ _).info; exact ⟨i, h1, h2⟩), by decide⟩
instance : FO Tryz.prog 252 1 1 1 := ⟨_, _, Tryz.underlying252, rfl, rfl, (by obtain ⟨i, h1, _, h2, _⟩ := (inferInstance : TI Tryz.prog 4 _ _ _).info; exact ⟨i, h1, h2⟩), by decide⟩
instance : FO Tryz.prog 253 0 0 1 := ⟨_, _, Tryz.underlying253, rfl, rfl, (by obtain ⟨i, h1, _, h2, _⟩ := (inferInstance : TI Tryz.prog 251 _ _ _).info; exact ⟨i, h1, h2⟩), by decide⟩
instance : FO Tryz.prog 253 1 1 1 := ⟨_, _, Tryz.underlying253, rfl, rfl, (by obtain ⟨i, h1, _, h2, _⟩ := (inferInstance : TI Tryz.prog 4 _ _ _).info; exact ⟨i, h1, h2⟩), by decide⟩
instance : FO Tryz.prog 258 0 0 1 := ⟨_, _, Tryz.underlying258, rfl, rfl, (by obtain ⟨i, h1, _, h2, _⟩ := (inferInstance : TI Tryz.prog 256 _ _ _).info; exact ⟨i, h1, h2⟩), by decide⟩
instance : FO Tryz.prog 259 0 0 1 := ⟨_, _, Tryz.underlying259, rfl, rfl, (by obtain ⟨i, h1, _, h2, _⟩ := (inferInstance : TI Tryz.prog 256 _ _ _).info; exact ⟨i, h1, h2⟩), by decide⟩
instance : FO Tryz.prog 302 0 0 1 := ⟨_, _, Tryz.underlying302, rfl, rfl, (by obtain ⟨i, h1, _, h2, _⟩ := (inferInstance : TI Tryz.prog 300 _ _ _).info; exact ⟨i, h1, h2⟩), by decide⟩
instance : FO Tryz.prog 302 1 1 1 := ⟨_, _, Tryz.underlying302, rfl, rfl, (by obtain ⟨i, h1, _, h2, _⟩ := (inferInstance : TI Tryz.prog 247 _ _ _).info; exact ⟨i, h1, h2⟩), by decide⟩
instance : FO Tryz.prog 325 0 0 1 := ⟨_, _, Tryz.underlying325, rfl, rfl, (by obtain ⟨i, h1, _, h2, _⟩ := (inferInstance : TI Tryz.prog 17 _ _ _).info; exact ⟨i, h1, h2⟩), by decide⟩
instance : FO Tryz.prog 325 1 1 1 := ⟨_, _, Tryz.underlying325, rfl, rfl, (by obtain ⟨i, h1, _, h2, _⟩ := (inferInstance : TI Tryz.prog 17 _ _ _).info; exact ⟨i, h1, h2⟩), by decide⟩
instance : FO Tryz.prog 325 2 2 1 := ⟨_, _, Tryz.underlying325, rfl, rfl, (by obtain ⟨i, h1, _, h2, _⟩ := (inferInstance : TI Tryz.prog 17 _ _ _).info; exact ⟨i, h1, h2⟩), by decide⟩
instance : FO Tryz.prog 325 3 3 1 := ⟨_, _, Tryz.underlying325, rfl, rfl, (by obtain ⟨i, h1, _, h2, _⟩ := (inferInstance : TI Tryz.prog 9 _ _ _).info; exact ⟨i, h1, h2⟩), by decide⟩
instance : FO Tryz.prog 335 0 0 1 := ⟨_, _, Tryz.underlying335, rfl, rfl, (by obtain ⟨i, h1, _, h2, _⟩ := (inferInstance : TI Tryz.prog 12 _ _ _).info; exact ⟨i, h1, h2⟩), by decide⟩
instance : FO Tryz.prog 335 1 1 1 := ⟨_, _, Tryz.underlying335, rfl, rfl, (by obtain ⟨i, h1, _, h2, _⟩ := (inferInstance : TI Tryz.prog 12 _ _ _).info; exact ⟨i, h1, h2⟩), by decide⟩
instance : FO Tryz.prog 335 2 2 1 := ⟨_, _, Tryz.underlying335, rfl, rfl, (by obtain ⟨i, h1, _, h2, _⟩ := (inferInstance : TI Tryz.prog 272 _ _ _).info; exact ⟨i, h1, h2⟩), by decide⟩
instance : FO Tryz.prog 335 3 3 1 := ⟨_, _, Tryz.underlying335, rfl, rfl, (by obtain ⟨i, h1, _, h2, _⟩ := (inferInstance : TI Tryz.prog 329 _ _ _).info; exact ⟨i, h1, h2⟩), by decide⟩
instance : FO Tryz.prog 335 4 4 1 := ⟨_, _, Tryz.underlying335, rfl, rfl, (by obtain ⟨i, h1, _, h2, _⟩ := (inferInstance : TI Tryz.prog 5 _ _ _).info; exact ⟨i, h1, h2⟩), by decide⟩
instance : FO Tryz.prog 335 5 5 1 := ⟨_, _, Tryz.underlying335, rfl, rfl, (by obtain ⟨i, h1, _, h2, _⟩ := (inferInstance : TI Tryz.prog 5 _ _ _).info; exact ⟨i, h1, h2⟩), by decide⟩
instance : FO Tryz.prog 335 6 6 1 := ⟨_, _, Tryz.underlying335, rfl, rfl, (by obtain ⟨i, h1, _, h2, _⟩ := (inferInstance : TI Tryz.prog 330 _ _ _).info; exact ⟨i, h1, h2⟩), by decide⟩
instance : FO Tryz.prog 335 7 7 1 := ⟨_, _, Tryz.underlying335, rfl, rfl, (by obtain ⟨i, h1, _, h2, _⟩ := (inferInstance : TI Tryz.prog 331 _ _ _).info; exact ⟨i, h1, h2⟩), by decide⟩
instance : FO Tryz.prog 335 8 8 1 := ⟨_, _, Tryz.underlying335, rfl, rfl, (by obtain ⟨i, h1, _, h2, _⟩ := (inferInstance : TI Tryz.prog 316 _ _ _).info; exact ⟨i, h1, h2⟩), by decide⟩
instance : FO Tryz.prog 335 9 9 1 := ⟨_, _, Tryz.underlying335, rfl, rfl, (by obtain ⟨i, h1, _, h2, _⟩ := (inferInstance : TI Tryz.prog 332 _ _ _).info; exact ⟨i, h1, h2⟩), by decide⟩
instance : FO Tryz.prog 335 10 10 1 := ⟨_, _, Tryz.underlying335, rfl, rfl, (by obtain ⟨i, h1, _, h2, _⟩ := (inferInstance : TI Tryz.prog 333 _ _ _).info; exact ⟨i, h1, h2⟩), by decide⟩
instance : Body Tryz.prog 3 := Body.mk' Tryz.func3 (by kernel_rfl) (by kernel_rfl)
instance : Body Tryz.prog 4 := Body.mk' Tryz.func4 (by kernel_rfl) (by kernel_rfl)
instance : Body Tryz.prog 10 := Body.mk' Tryz.func10 (by kernel_rfl) (by kernel_rfl)
instance : Body Tryz.prog 11 := Body.mk' Tryz.func11 (by kernel_rfl) (by kernel_rfl)
instance : Body Tryz.prog 12 := Body.mk' Tryz.func12 (by kernel_rfl) (by kernel_rfl)
instance : Body Tryz.prog 13 := Body.mk' Tryz.func13 (by kernel_rfl) (by kernel_rfl)
instance : Body Tryz.prog 14 := Body.mk' Tryz.func14 (by kernel_rfl) (by kernel_rfl)
instance : Body Tryz.prog 15 := Body.mk' Tryz.func15 (by kernel_rfl) (by kernel_rfl)
instance : Body Tryz.prog 16 := Body.mk' Tryz.func16 (by kernel_rfl) (by kernel_rfl)
instance : Body Tryz.prog 17 := Body.mk' Tryz.func17 (by kernel_rfl) (by kernel_rfl)
instance : Body Tryz.prog 18 := Body.mk' Tryz.func18 (by kernel_rfl) (by kernel_rfl)
instance : Body Tryz.prog 19 := Body.mk' Tryz.func19 (by kernel_rfl) (by kernel_rfl)
instance : Body Tryz.prog 20 := Body.mk' Tryz.func20 (by kernel_rfl) (by kernel_rfl)
instance : Body Tryz.prog 23 := Body.mk' Tryz.func23 (by kernel_rfl) (by kernel_rfl)
instance : Body Tryz.prog 24 := Body.mk' Tryz.func24 (by kernel_rfl) (by kernel_rfl)
instance : Body Tryz.prog 25 := Body.mk' Tryz.func25 (by kernel_rfl) (by kernel_rfl)
instance : Body Tryz.prog 26 := Body.mk' Tryz.func26 (by kernel_rfl) (by kernel_rfl)
instance : Body Tryz.prog 27 := Body.mk' Tryz.func27 (by kernel_rfl) (by kernel_rfl)
instance : Body Tryz.prog 33 := Body.mk' Tryz.func33 (by kernel_rfl) (by kernel_rfl)
instance : Body Tryz.prog 34 := Body.mk' Tryz.func34 (by kernel_rfl) (by kernel_rfl)
instance : Body Tryz.prog 35 := Body.mk' Tryz.func35 (by kernel_rfl) (by kernel_rfl)
instance : Body Tryz.prog 36 := Body.mk' Tryz.func36 (by kernel_rfl) (by kernel_rfl)
instance : Body Tryz.prog 37 := Body.mk' Tryz.func37 (by kernel_rfl) (by kernel_rfl)
instance : Body Tryz.prog 38 := Body.mk' Tryz.func38 (by kernel_rfl) (by kernel_rfl)
instance : Body Tryz.prog 39 := Body.mk' Tryz.func39 (by kernel_rfl) (by kernel_rfl)
instance : Body Tryz.prog 40 := Body.mk' Tryz.func40 (by kernel_rfl) (by kernel_rfl)
instance : Body Tryz.prog 41 := Body.mk' Tryz.func41 (by kernel_rfl) (by kernel_rfl)
instance : Body Tryz.prog 42 := Body.mk' Tryz.func42 (by kernel_rfl) (by kernel_rfl)
instance : Body Tryz.prog 43 := Body.mk' Tryz.func43 (by kernel_rfl) (by kernel_rfl)
instance : Body Tryz.prog 44 := Body.mk' Tryz.func44 (by kernel_rfl) (by kernel_rfl)
instance : Body Tryz.prog 45 := Body.mk' Tryz.func45 (by kernel_rfl) (by kernel_rfl)
instance : Body Tryz.prog 46 := Body.mk' Tryz.func46 (by kernel_rfl) (by kernel_rfl)
instance : Body Tryz.prog 47 := Body.mk' Tryz.func47 (by kernel_rfl) (by kernel_rfl)
instance : Body Tryz.prog 48 := Body.mk' Tryz.func48 (by kernel_rfl) (by kernel_rfl)
instance : Body Tryz.prog 49 := Body.mk' Tryz.func49 (by kernel_rfl) (by kernel_rfl)
instance : Body Tryz.prog 50 := Body.mk' Tryz.func50 (by kernel_rfl) (by kernel_rfl)
instance : Body Tryz.prog 51 := Body.mk' Tryz.func51 (by kernel_rfl) (by kernel_rfl)
instance : Body Tryz.prog 52 := Body.mk' Tryz.func52 (by kernel_rfl) (by kernel_rfl)
instance : Body Tryz.prog 53 := Body.mk' Tryz.func53 (by kernel_rfl) (by kernel_rfl)
instance : Body Tryz.prog 54 := Body.mk' Tryz.func54 (by kernel_rfl) (by kernel_rfl)
instance : Body Tryz.prog 55 := Body.mk' Tryz.func55 (by kernel_rfl) (by kernel_rfl)
instance : Body Tryz.prog 56 := Body.mk' Tryz.func56 (by kernel_rfl) (by kernel_rfl)
instance : Body Tryz.prog 57 := Body.mk' Tryz.func57 (by kernel_rfl) (by kernel_rfl)
instance : Body Tryz.prog 58 := Body.mk' Tryz.func58 (by kernel_rfl) (by kernel_rfl)
instance : Body Tryz.prog 59 := Body.mk' Tryz.func59 (by kernel_rfl) (by kernel_rfl)
instance : Body Tryz.prog 62 := Body.mk' Tryz.func62 (by kernel_rfl) (by kernel_rfl)
instance : Body Tryz.prog 63 := Body.mk' Tryz.func63 (by kernel_rfl) (by kernel_rfl)
instance : Body Tryz.prog 69 := Body.mk' Tryz.func69 (by kernel_rfl) (by kernel_rfl)
instance : Body Tryz.prog 71 := Body.mk' Tryz.func71 (by kernel_rfl) (by kernel_rfl)
instance : Body Tryz.prog 72 := Body.mk' Tryz.func72 (by kernel_rfl) (by kernel_rfl)
instance : Body Tryz.prog 73 := Body.mk' Tryz.func73 (by kernel_rfl) (by kernel_rfl)
instance : Body Tryz.prog 74 := Body.mk' Tryz.func74 (by kernel_rfl) (by kernel_rfl)
instance : Body Tryz.prog 75 := Body.mk' Tryz.func75 (by kernel_rfl) (by kernel_rfl)
instance : Body Tryz.prog 76 := Body.mk' Tryz.func76 (by kernel_rfl) (by kernel_rfl)
instance : Body Tryz.prog 77 := Body.mk' Tryz.func77 (by kernel_rfl) (by kernel_rfl)
instance : Body Tryz.prog 78 := Body.mk' Tryz.func78 (by kernel_rfl) (by kernel_rfl)
instance : Body Tryz.prog 79 := Body.mk' Tryz.func79 (by kernel_rfl) (by kernel_rfl)
instance : Body Tryz.prog 80 := Body.mk' Tryz.func80 (by kernel_rfl) (by kernel_rfl)
instance : Body Tryz.prog 81 := Body.mk' Tryz.func81 (by kernel_rfl) (by kernel_rfl)
instance : Body Tryz.prog 82 := Body.mk' Tryz.func82 (by kernel_rfl) (by kernel_rfl)
instance : Body Tryz.prog 83 := Body.mk' Tryz.func83 (by kernel_rfl) (by kernel_rfl)
instance : Body Tryz.prog 84 := Body.mk' Tryz.func84 (by kernel_rfl) (by kernel_rfl)
instance : Body Tryz.prog 85 := Body.mk' Tryz.func85 (by kernel_rfl) (by kernel_rfl)
instance : Body Tryz.prog 86 := Body.mk' Tryz.func86 (by kernel_rfl) (by kernel_rfl)
instance : Body Tryz.prog 87 := Body.mk' Tryz.func87 (by kernel_rfl) (by kernel_rfl)
instance : Body Tryz.prog 88 := Body.mk' Tryz.func88 (by kernel_rfl) (by kernel_rfl)
instance : Body Tryz.prog 89 := Body.mk' Tryz.func89 (by kernel_rfl) (by kernel_rfl)
instance : Body Tryz.prog 90 := Body.mk' Tryz.func90 (by kernel_rfl) (by kernel_rfl)
instance : Body Tryz.prog 91 := Body.mk' Tryz.func91 (by kernel_rfl) (by kernel_rfl)
instance : Body Tryz.prog 92 := Body.mk' Tryz.func92 (by kernel_rfl) (by kernel_rfl)
instance : Body Tryz.prog 93 := Body.mk' Tryz.func93 (by kernel_rfl) (by kernel_rfl)
instance : Body Tryz.prog 94 := Body.mk' Tryz.func94 (by kernel_rfl) (by kernel_rfl)
instance : Body Tryz.prog 95 := Body.mk' Tryz.func95 (by kernel_rfl) (by kernel_rfl)
instance : Body Tryz.prog 96 := Body.mk' Tryz.func96 (by kernel_rfl) (by kernel_rfl)
instance : Body Tryz.prog 97 := Body.mk' Tryz.func97 (by kernel_rfl) (by kernel_rfl)
instance : Body Tryz.prog 98 := Body.mk' Tryz.func98 (by kernel_rfl) (by kernel_rfl)
instance : Body Tryz.prog 99 := Body.mk' Tryz.func99 (by kernel_rfl) (by kernel_rfl)
instance : Body Tryz.prog 100 := Body.mk' Tryz.func100 (by kernel_rfl) (by kernel_rfl)
instance : Body Tryz.prog 101 := Body.mk' Tryz.func101 (by kernel_rfl) (by kernel_rfl)
instance : Body Tryz.prog 102 := Body.mk' Tryz.func102 (by kernel_rfl) (by kernel_rfl)
instance : Body Tryz.prog 103 := Body.mk' Tryz.func103 (by kernel_rfl) (by kernel_rfl)
instance : Body Tryz.prog 104 := Body.mk' Tryz.func104 (by kernel_rfl) (by kernel_rfl)
instance : Body Tryz.prog 105 := Body.mk' Tryz.func105 (by kernel_rfl) (by kernel_rfl)
instance : Body Tryz.prog 116 := Body.mk' Tryz.func116 (by kernel_rfl) (by kernel_rfl)
instance : Body Tryz.prog 118 := Body.mk' Tryz.func118 (by kernel_rfl) (by kernel_rfl)
instance : Body Tryz.prog 119 := Body.mk' Tryz.func119 (by kernel_rfl) (by kernel_rfl)
instance : Body Tryz.prog 120 := Body.mk' Tryz.func120 (by kernel_rfl) (by kernel_rfl)
instance : Body Tryz.prog 121 := Body.mk' Tryz.func121 (by kernel_rfl) (by kernel_rfl)
instance : Body Tryz.prog 122 := Body.mk' Tryz.func122 (by kernel_rfl) (by kernel_rfl)
instance : Body Tryz.prog 123 := Body.mk' Tryz.func123 (by kernel_rfl) (by kernel_rfl)
instance : Body Tryz.prog 124 := Body.mk' Tryz.func124 (by kernel_rfl) (by kernel_rfl)
instance : Body Tryz.prog 125 := Body.mk' Tryz.func125 (by kernel_rfl) (by kernel_rfl)
instance : Body Tryz.prog 126 := Body.mk' Tryz.func126 (by kernel_rfl) (by kernel_rfl)
instance : Body Tryz.prog 127 := Body.mk' Tryz.func127 (by kernel_rfl) (by kernel_rfl)
instance : Body Tryz.prog 128 := Body.mk' Tryz.func128 (by kernel_rfl) (by kernel_rfl)
instance : Body Tryz.prog 129 := Body.mk' Tryz.func129 (by kernel_rfl) (by kernel_rfl)
instance : Body Tryz.prog 130 := Body.mk' Tryz.func130 (by kernel_rfl) (by kernel_rfl)
instance : Body Tryz.prog 131 := Body.mk' Tryz.func131 (by kernel_rfl) (by kernel_rfl)
instance : Body Tryz.prog 132 := Body.mk' Tryz.func132 (by kernel_rfl) (by kernel_rfl)
instance : Body Tryz.prog 133 := Body.mk' Tryz.func133 (by kernel_rfl) (by kernel_rfl)
instance : Body Tryz.prog 134 := Body.mk' Tryz.func134 (by kernel_rfl) (by kernel_rfl)
instance : Body Tryz.prog 135 := Body.mk' Tryz.func135 (by kernel_rfl) (by kernel_rfl)
instance : Body Tryz.prog 136 := Body.mk' Tryz.func136 (by kernel_rfl) (by kernel_rfl)
instance : Body Tryz.prog 137 := Body.mk' Tryz.func137 (by kernel_rfl) (by kernel_rfl)
instance : Body Tryz.prog 138 := Body.mk' Tryz.func138 (by kernel_rfl) (by kernel_rfl)
instance : Body Tryz.prog 139 := Body.mk' Tryz.func139 (by kernel_rfl) (by kernel_rfl)
instance : Body Tryz.prog 140 := Body.mk' Tryz.func140 (by kernel_rfl) (by kernel_rfl)
instance : Body Tryz.prog 141 := Body.mk' Tryz.func141 (by kernel_rfl) (by kernel_rfl)
instance : Body Tryz.prog 142 := Body.mk' Tryz.func142 (by kernel_rfl) (by kernel_rfl)
instance : Body Tryz.prog 143 := Body.mk' Tryz.func143 (by kernel_rfl) (by kernel_rfl)
instance : Body Tryz.prog 144 := Body.mk' Tryz.func144 (by kernel_rfl) (by kernel_rfl)
instance : Body Tryz.prog 145 := Body.mk' Tryz.func145 (by kernel_rfl) (by kernel_rfl)
instance : Body Tryz.prog 146 := Body.mk' Tryz.func146 (by kernel_rfl) (by kernel_rfl)
instance : Body Tryz.prog 151 := Body.mk' Tryz.func151 (by kernel_rfl) (by kernel_rfl)
instance : Body Tryz.prog 152 := Body.mk' Tryz.func152 (by kernel_rfl) (by kernel_rfl)
instance : Body Tryz.prog 153 := Body.mk' Tryz.func153 (by kernel_rfl) (by kernel_rfl)
instance : Body Tryz.prog 154 := Body.mk' Tryz.func154 (by kernel_rfl) (by kernel_rfl)
instance : Body Tryz.prog 155 := Body.mk' Tryz.func155 (by kernel_rfl) (by kernel_rfl)
instance : Body Tryz.prog 156 := Body.mk' Tryz.func156 (by kernel_rfl) (by kernel_rfl)
instance : Body Tryz.prog 157 := Body.mk' Tryz.func157 (by kernel_rfl) (by kernel_rfl)
instance : Body Tryz.prog 158 := Body.mk' Tryz.func158 (by kernel_rfl) (by kernel_rfl)
instance : Body Tryz.prog 159 := Body.mk' Tryz.func159 (by kernel_rfl) (by kernel_rfl)
instance : Body Tryz.prog 160 := Body.mk' Tryz.func160 (by kernel_rfl) (by kernel_rfl)
instance : Body Tryz.prog 161 := Body.mk' Tryz.func161 (by kernel_rfl) (by kernel_rfl)
instance : Body Tryz.prog 162 := Body.mk' Tryz.func162 (by kernel_rfl) (by kernel_rfl)
instance : Body Tryz.prog 163 := Body.mk' Tryz.func163 (by kernel_rfl) (by kernel_rfl)
instance : Body Tryz.prog 164 := Body.mk' Tryz.func164 (by kernel_rfl) (by kernel_rfl)
instance : Body Tryz.prog 165 := Body.mk' Tryz.func165 (by kernel_rfl) (by kernel_rfl)
instance : Body Tryz.prog 166 := Body.mk' Tryz.func166 (by kernel_rfl) (by kernel_rfl)
instance : Body Tryz.prog 167 := Body.mk' Tryz.func167 (by kernel_rfl) (by kernel_rfl)
instance : Body Tryz.prog 168 := Body.mk' Tryz.func168 (by kernel_rfl) (by kernel_rfl)
instance : Body Tryz.prog 169 := Body.mk' Tryz.func169 (by kernel_rfl) (by kernel_rfl)
instance : Body Tryz.prog 170 := Body.mk' Tryz.func170 (by kernel_rfl) (by kernel_rfl)
instance : Body Tryz.prog 171 := Body.mk' Tryz.func171 (by kernel_rfl) (by kernel_rfl)
instance : Body Tryz.prog 172 := Body.mk' Tryz.func172 (by kernel_rfl) (by kernel_rfl)
instance : Body Tryz.prog 173 := Body.mk' Tryz.func173 (by kernel_rfl) (by kernel_rfl)
instance : Body Tryz.prog 174 := Body.mk' Tryz.func174 (by kernel_rfl) (by kernel_rfl)
instance : Body Tryz.prog 175 := Body.mk' Tryz.func175 (by kernel_rfl) (by kernel_rfl)
instance : Body Tryz.prog 176 := Body.mk' Tryz.func176 (by kernel_rfl) (by kernel_rfl)
instance : Body Tryz.prog 177 := Body.mk' Tryz.func177 (by kernel_rfl) (by kernel_rfl)
instance : Body Tryz.prog 178 := Body.mk' Tryz.func178 (by kernel_rfl) (by kernel_rfl)
instance : Body Tryz.prog 179 := Body.mk' Tryz.func179 (by kernel_rfl) (by kernel_rfl)
instance : Body Tryz.prog 180 := Body.mk' Tryz.func180 (by kernel_rfl) (by kernel_rfl)
instance : Body Tryz.prog 181 := Body.mk' Tryz.func181 (by kernel_rfl) (by kernel_rfl)
instance : Body Tryz.prog 187 := Body.mk' Tryz.func187 (by kernel_rfl) (by kernel_rfl)
instance : Body Tryz.prog 188 := Body.mk' Tryz.func188 (by kernel_rfl) (by kernel_rfl)
instance : Body Tryz.prog 189 := Body.mk' Tryz.func189 (by kernel_rfl) (by kernel_rfl)
instance : Body Tryz.prog 190 := Body.mk' Tryz.func190 (by kernel_rfl) (by kernel_rfl)
instance : Body Tryz.prog 191 := Body.mk' Tryz.func191 (by kernel_rfl) (by kernel_rfl)
instance : Body Tryz.prog 192 := Body.mk' Tryz.func192 (by kernel_rfl) (by kernel_rfl)
instance : Body Tryz.prog 193 := Body.mk' Tryz.func193 (by kernel_rfl) (by kernel_rfl)
instance : Body Tryz.prog 194 := Body.mk' Tryz.func194 (by kernel_rfl) (by kernel_rfl)
instance : Body Tryz.prog 195 := Body.mk' Tryz.func195 (by kernel_rfl) (by kernel_rfl)
instance : Body Tryz.prog 196 := Body.mk' Tryz.func196 (by kernel_rfl) (by kernel_rfl)
instance : Body Tryz.prog 197 := Body.mk' Tryz.func197 (by kernel_rfl) (by kernel_rfl)
instance : Body Tryz.prog 198 := Body.mk' Tryz.func198 (by kernel_rfl) (by kernel_rfl)
instance : Body Tryz.prog 199 := Body.mk' Tryz.func199 (by kernel_rfl) (by kernel_rfl)
instance : Body Tryz.prog 200 := Body.mk' Tryz.func200 (by kernel_rfl) (by kernel_rfl)
instance : Body Tryz.prog 201 := Body.mk' Tryz.func201 (by kernel_rfl) (by kernel_rfl)
instance : Body Tryz.prog 202 := Body.mk' Tryz.func202 (by kernel_rfl) (by kernel_rfl)
instance : Body Tryz.prog 203 := Body.mk' Tryz.func203 (by kernel_rfl) (by kernel_rfl)
instance : Body Tryz.prog 204 := Body.mk' Tryz.func204 (by kernel_rfl) (by kernel_rfl)
instance : Body Tryz.prog 205 := Body.mk' Tryz.func205 (by kernel_rfl) (by kernel_rfl)
instance : Body Tryz.prog 206 := Body.mk' Tryz.func206 (by kernel_rfl) (by kernel_rfl)
instance : Body Tryz.prog 207 := Body.mk' Tryz.func207 (by kernel_rfl) (by kernel_rfl)
instance : Body Tryz.prog 208 := Body.mk' Tryz.func208 (by kernel_rfl) (by kernel_rfl)
instance : Body Tryz.prog 209 := Body.mk' Tryz.func209 (by kernel_rfl) (by kernel_rfl)
instance : Body Tryz.prog 210 := Body.mk' Tryz.func210 (by kernel_rfl) (by kernel_rfl)
instance : Body Tryz.prog 216 := Body.mk' Tryz.func216 (by kernel_rfl) (by kernel_rfl)
instance : Body Tryz.prog 217 := Body.mk' Tryz.func217 (by kernel_rfl) (by kernel_rfl)
instance : Body Tryz.prog 218 := Body.mk' Tryz.func218 (by kernel_rfl) (by kernel_rfl)
instance : Body Tryz.prog 219 := Body.mk' Tryz.func219 (by kernel_rfl) (by kernel_rfl)
instance : Body Tryz.prog 220 := Body.mk' Tryz.func220 (by kernel_rfl) (by kernel_rfl)
instance : Body Tryz.prog 221 := Body.mk' Tryz.func221 (by kernel_rfl) (by kernel_rfl)
instance : Body Tryz.prog 223 := Body.mk' Tryz.func223 (by kernel_rfl) (by kernel_rfl)
instance : Body Tryz.prog 224 := Body.mk' Tryz.func224 (by kernel_rfl) (by kernel_rfl)
instance : Body Tryz.prog 225 := Body.mk' Tryz.func225 (by kernel_rfl) (by kernel_rfl)
instance : Body Tryz.prog 226 := Body.mk' Tryz.func226 (by kernel_rfl) (by kernel_rfl)
instance : Body Tryz.prog 227 := Body.mk' Tryz.func227 (by kernel_rfl) (by kernel_rfl)
instance : Body Tryz.prog 228 := Body.mk' Tryz.func228 (by kernel_rfl) (by kernel_rfl)
instance : Body Tryz.prog 229 := Body.mk' Tryz.func229 (by kernel_rfl) (by kernel_rfl)
instance : Body Tryz.prog 230 := Body.mk' Tryz.func230 (by kernel_rfl) (by kernel_rfl)
instance : Body Tryz.prog 231 := Body.mk' Tryz.func231 (by kernel_rfl) (by kernel_rfl)
instance : Body Tryz.prog 232 := Body.mk' Tryz.func232 (by kernel_rfl) (by kernel_rfl)
instance : Body Tryz.prog 233 := Body.mk' Tryz.func233 (by kernel_rfl) (by kernel_rfl)
instance : Body Tryz.prog 234 := Body.mk' Tryz.func234 (by kernel_rfl) (by kernel_rfl)
instance : Body Tryz.prog 238 := Body.mk' Tryz.func238 (by kernel_rfl) (by kernel_rfl)
instance : Body Tryz.prog 240 := Body.mk' Tryz.func240 (by kernel_rfl) (by kernel_rfl)
instance : Body Tryz.prog 241 := Body.mk' Tryz.func241 (by kernel_rfl) (by kernel_rfl)
instance : Body Tryz.prog 242 := Body.mk' Tryz.func242 (by kernel_rfl) (by kernel_rfl)
end Go.Proofs.YtgapnfaakdjpaaaGreatDoor
