/- The types of this translation, as instances. -/
import Derived.Test.YtaopfkmlmpimdaaProg
import Derived.Test.YtaopfkmlmpimdaaSy
namespace Go.SX
open Go.Proofs
instance : Und Try.prog 1 (.func #[] #[] false) := ⟨Try.underlying1⟩
instance : Inf Try.prog 1 .nilFunc 1 8 := Inf.of (by kernel_rfl)
instance : Und Try.prog 2 (.int .i64) := ⟨Try.underlying2⟩
instance : Inf Try.prog 2 (.int .i64 0) 1 8 := Inf.of (by kernel_rfl)
instance : Und Try.prog 3 (.int .i64) := ⟨Try.underlying3⟩
instance : Inf Try.prog 3 (.int .i64 0) 1 8 := Inf.of (by kernel_rfl)
instance : Und Try.prog 4 .bool := ⟨Try.underlying4⟩
instance : Inf Try.prog 4 (.bool false) 1 1 := Inf.of (by kernel_rfl)
instance : Und Try.prog 5 (.int .u8) := ⟨Try.underlying5⟩
instance : Inf Try.prog 5 (.int .u8 0) 1 1 := Inf.of (by kernel_rfl)
instance : Und Try.prog 6 (.int .u8) := ⟨Try.underlying6⟩
instance : Inf Try.prog 6 (.int .u8 0) 1 1 := Inf.of (by kernel_rfl)
instance : Und Try.prog 7 (.struct #[{ name := "x", type := 2, offset := 0, embedded := false, tag := "", pkgPath := "runtime", byteOffset := 0 }, { name := "y", type := 3, offset := 1, embedded := false, tag := "", pkgPath := "runtime", byteOffset := 8 }, { name := "signed", type := 4, offset := 2, embedded := false, tag := "", pkgPath := "runtime", byteOffset := 16 }, { name := "code", type := 6, offset := 3, embedded := false, tag := "", pkgPath := "runtime", byteOffset := 17 }]) := ⟨Try.underlying7⟩
instance : Inf Try.prog 7 (.agg #[(.int .i64 0), (.int .i64 0), (.bool false), (.int .u8 0)]) 4 24 := Inf.of (by kernel_rfl)
instance : Und Try.prog 8 (.struct #[{ name := "x", type := 2, offset := 0, embedded := false, tag := "", pkgPath := "runtime", byteOffset := 0 }, { name := "y", type := 3, offset := 1, embedded := false, tag := "", pkgPath := "runtime", byteOffset := 8 }, { name := "signed", type := 4, offset := 2, embedded := false, tag := "", pkgPath := "runtime", byteOffset := 16 }, { name := "code", type := 6, offset := 3, embedded := false, tag := "", pkgPath := "runtime", byteOffset := 17 }]) := ⟨Try.underlying8⟩
instance : Inf Try.prog 8 (.agg #[(.int .i64 0), (.int .i64 0), (.bool false), (.int .u8 0)]) 4 24 := Inf.of (by kernel_rfl)
instance : Und Try.prog 9 .string := ⟨Try.underlying9⟩
instance : Inf Try.prog 9 (.string ByteArray.empty) 1 16 := Inf.of (by kernel_rfl)
instance : Und Try.prog 10 .string := ⟨Try.underlying10⟩
instance : Inf Try.prog 10 (.string ByteArray.empty) 1 16 := Inf.of (by kernel_rfl)
instance : Und Try.prog 11 .string := ⟨Try.underlying11⟩
instance : Inf Try.prog 11 (.string ByteArray.empty) 1 16 := Inf.of (by kernel_rfl)
instance : Und Try.prog 12 (.int .u64) := ⟨Try.underlying12⟩
instance : Inf Try.prog 12 (.int .u64 0) 1 8 := Inf.of (by kernel_rfl)
instance : Und Try.prog 13 (.struct #[{ name := "msg", type := 9, offset := 0, embedded := false, tag := "", pkgPath := "runtime", byteOffset := 0 }, { name := "addr", type := 12, offset := 1, embedded := false, tag := "", pkgPath := "runtime", byteOffset := 16 }]) := ⟨Try.underlying13⟩
instance : Inf Try.prog 13 (.agg #[(.string ByteArray.empty), (.int .u64 0)]) 2 24 := Inf.of (by kernel_rfl)
instance : Und Try.prog 14 (.struct #[{ name := "msg", type := 9, offset := 0, embedded := false, tag := "", pkgPath := "runtime", byteOffset := 0 }, { name := "addr", type := 12, offset := 1, embedded := false, tag := "", pkgPath := "runtime", byteOffset := 16 }]) := ⟨Try.underlying14⟩
instance : Inf Try.prog 14 (.agg #[(.string ByteArray.empty), (.int .u64 0)]) 2 24 := Inf.of (by kernel_rfl)
instance : Und Try.prog 15 (.pointer 76) := ⟨Try.underlying15⟩
instance : Inf Try.prog 15 (.pointer none) 1 8 := Inf.of (by kernel_rfl)
instance : Und Try.prog 16 (.pointer 79) := ⟨Try.underlying16⟩
instance : Inf Try.prog 16 (.pointer none) 1 8 := Inf.of (by kernel_rfl)
instance : Und Try.prog 17 (.pointer 88) := ⟨Try.underlying17⟩
instance : Inf Try.prog 17 (.pointer none) 1 8 := Inf.of (by kernel_rfl)
instance : Und Try.prog 18 (.struct #[{ name := "typ", type := 17, offset := 0, embedded := false, tag := "", pkgPath := "internal/runtime/maps", byteOffset := 0 }]) := ⟨Try.underlying18⟩
instance : Inf Try.prog 18 (.agg #[(.pointer none)]) 1 8 := Inf.of (by kernel_rfl)
instance : Und Try.prog 19 (.struct #[{ name := "typ", type := 17, offset := 0, embedded := false, tag := "", pkgPath := "internal/runtime/maps", byteOffset := 0 }]) := ⟨Try.underlying19⟩
instance : Inf Try.prog 19 (.agg #[(.pointer none)]) 1 8 := Inf.of (by kernel_rfl)
instance : Inf Try.prog 20 .nilIface 1 16 := Inf.of (by kernel_rfl)
instance : Und Try.prog 21 (.int .i32) := ⟨Try.underlying21⟩
instance : Inf Try.prog 21 (.int .i32 0) 1 4 := Inf.of (by kernel_rfl)
instance : Und Try.prog 22 (.slice 29) := ⟨Try.underlying22⟩
instance : Inf Try.prog 22 (.slice none 0 0) 1 24 := Inf.of (by kernel_rfl)
instance : Und Try.prog 23 (.pointer 59) := ⟨Try.underlying23⟩
instance : Inf Try.prog 23 (.pointer none) 1 8 := Inf.of (by kernel_rfl)
instance : Und Try.prog 24 (.func #[] #[23] false) := ⟨Try.underlying24⟩
instance : Inf Try.prog 24 .nilFunc 1 8 := Inf.of (by kernel_rfl)
instance : Und Try.prog 25 (.pointer 61) := ⟨Try.underlying25⟩
instance : Inf Try.prog 25 (.pointer none) 1 8 := Inf.of (by kernel_rfl)
instance : Und Try.prog 26 (.func #[] #[25] false) := ⟨Try.underlying26⟩
instance : Inf Try.prog 26 .nilFunc 1 8 := Inf.of (by kernel_rfl)
instance : Und Try.prog 27 (.slice 5) := ⟨Try.underlying27⟩
instance : Inf Try.prog 27 (.slice none 0 0) 1 24 := Inf.of (by kernel_rfl)
instance : Und Try.prog 28 (.struct #[{ name := "Kind", type := 3, offset := 0, embedded := false, tag := "", pkgPath := "", byteOffset := 0 }, { name := "Width", type := 3, offset := 1, embedded := false, tag := "", pkgPath := "", byteOffset := 8 }, { name := "N", type := 3, offset := 2, embedded := false, tag := "", pkgPath := "", byteOffset := 16 }, { name := "B", type := 27, offset := 3, embedded := false, tag := "", pkgPath := "", byteOffset := 24 }]) := ⟨Try.underlying28⟩
instance : Inf Try.prog 28 (.agg #[(.int .i64 0), (.int .i64 0), (.int .i64 0), (.slice none 0 0)]) 4 48 := Inf.of (by kernel_rfl)
instance : Und Try.prog 29 (.struct #[{ name := "Kind", type := 3, offset := 0, embedded := false, tag := "", pkgPath := "", byteOffset := 0 }, { name := "Width", type := 3, offset := 1, embedded := false, tag := "", pkgPath := "", byteOffset := 8 }, { name := "N", type := 3, offset := 2, embedded := false, tag := "", pkgPath := "", byteOffset := 16 }, { name := "B", type := 27, offset := 3, embedded := false, tag := "", pkgPath := "", byteOffset := 24 }]) := ⟨Try.underlying29⟩
instance : Inf Try.prog 29 (.agg #[(.int .i64 0), (.int .i64 0), (.int .i64 0), (.slice none 0 0)]) 4 48 := Inf.of (by kernel_rfl)
instance : Und Try.prog 30 (.func #[27] #[27] false) := ⟨Try.underlying30⟩
instance : Inf Try.prog 30 .nilFunc 1 8 := Inf.of (by kernel_rfl)
instance : Und Try.prog 31 (.func #[3, 3] #[3] false) := ⟨Try.underlying31⟩
instance : Inf Try.prog 31 .nilFunc 1 8 := Inf.of (by kernel_rfl)
instance : Und Try.prog 32 (.func #[3, 3] #[23] false) := ⟨Try.underlying32⟩
instance : Inf Try.prog 32 .nilFunc 1 8 := Inf.of (by kernel_rfl)
instance : Und Try.prog 33 (.func #[3, 3] #[25] false) := ⟨Try.underlying33⟩
instance : Inf Try.prog 33 .nilFunc 1 8 := Inf.of (by kernel_rfl)
instance : Und Try.prog 34 (.func #[3] #[23] false) := ⟨Try.underlying34⟩
instance : Inf Try.prog 34 .nilFunc 1 8 := Inf.of (by kernel_rfl)
instance : Und Try.prog 35 (.func #[3] #[25] false) := ⟨Try.underlying35⟩
instance : Inf Try.prog 35 .nilFunc 1 8 := Inf.of (by kernel_rfl)
instance : Und Try.prog 36 (.func #[27] #[23] false) := ⟨Try.underlying36⟩
instance : Inf Try.prog 36 .nilFunc 1 8 := Inf.of (by kernel_rfl)
instance : Und Try.prog 37 (.func #[27] #[25] false) := ⟨Try.underlying37⟩
instance : Inf Try.prog 37 .nilFunc 1 8 := Inf.of (by kernel_rfl)
instance : Und Try.prog 38 (.int .i64) := ⟨Try.underlying38⟩
instance : Inf Try.prog 38 (.int .i64 0) 1 8 := Inf.of (by kernel_rfl)
instance : Und Try.prog 40 (.func #[] #[27, 38] false) := ⟨Try.underlying40⟩
instance : Inf Try.prog 40 .nilFunc 1 8 := Inf.of (by kernel_rfl)
instance : Und Try.prog 41 (.func #[27, 27] #[4] false) := ⟨Try.underlying41⟩
instance : Inf Try.prog 41 .nilFunc 1 8 := Inf.of (by kernel_rfl)
instance : Und Try.prog 42 (.func #[] #[4] false) := ⟨Try.underlying42⟩
instance : Inf Try.prog 42 .nilFunc 1 8 := Inf.of (by kernel_rfl)
instance : Und Try.prog 43 (.func #[22] #[4] false) := ⟨Try.underlying43⟩
instance : Inf Try.prog 43 .nilFunc 1 8 := Inf.of (by kernel_rfl)
instance : Und Try.prog 44 (.func #[3] #[27] false) := ⟨Try.underlying44⟩
instance : Inf Try.prog 44 .nilFunc 1 8 := Inf.of (by kernel_rfl)
instance : Und Try.prog 45 (.func #[3, 3] #[4] false) := ⟨Try.underlying45⟩
instance : Inf Try.prog 45 .nilFunc 1 8 := Inf.of (by kernel_rfl)
instance : Und Try.prog 46 (.pointer 67) := ⟨Try.underlying46⟩
instance : Inf Try.prog 46 (.pointer none) 1 8 := Inf.of (by kernel_rfl)
instance : Und Try.prog 47 (.func #[27] #[46] false) := ⟨Try.underlying47⟩
instance : Inf Try.prog 47 .nilFunc 1 8 := Inf.of (by kernel_rfl)
instance : Und Try.prog 48 (.func #[3] #[3] false) := ⟨Try.underlying48⟩
instance : Inf Try.prog 48 .nilFunc 1 8 := Inf.of (by kernel_rfl)
instance : Und Try.prog 49 (.func #[] #[38] false) := ⟨Try.underlying49⟩
instance : Inf Try.prog 49 .nilFunc 1 8 := Inf.of (by kernel_rfl)
instance : Und Try.prog 50 (.func #[] #[3] false) := ⟨Try.underlying50⟩
instance : Inf Try.prog 50 .nilFunc 1 8 := Inf.of (by kernel_rfl)
instance : Und Try.prog 51 (.func #[27] #[4] false) := ⟨Try.underlying51⟩
instance : Inf Try.prog 51 .nilFunc 1 8 := Inf.of (by kernel_rfl)
instance : Und Try.prog 52 (.pointer 69) := ⟨Try.underlying52⟩
instance : Inf Try.prog 52 (.pointer none) 1 8 := Inf.of (by kernel_rfl)
instance : Und Try.prog 53 (.func #[27] #[52] false) := ⟨Try.underlying53⟩
instance : Inf Try.prog 53 .nilFunc 1 8 := Inf.of (by kernel_rfl)
instance : Und Try.prog 54 (.func #[27, 22] #[4] false) := ⟨Try.underlying54⟩
instance : Inf Try.prog 54 .nilFunc 1 8 := Inf.of (by kernel_rfl)
instance : Und Try.prog 55 (.slice 3) := ⟨Try.underlying55⟩
instance : Inf Try.prog 55 (.slice none 0 0) 1 24 := Inf.of (by kernel_rfl)
instance : Und Try.prog 56 (.func #[55, 27] #[4] false) := ⟨Try.underlying56⟩
instance : Inf Try.prog 56 .nilFunc 1 8 := Inf.of (by kernel_rfl)
instance : Und Try.prog 57 (.func #[27, 3, 55] #[4] false) := ⟨Try.underlying57⟩
instance : Inf Try.prog 57 .nilFunc 1 8 := Inf.of (by kernel_rfl)
instance : Und Try.prog 58 (.struct #[{ name := "b", type := 27, offset := 0, embedded := false, tag := "", pkgPath := "sealchain/num", byteOffset := 0 }, { name := "e", type := 38, offset := 1, embedded := false, tag := "", pkgPath := "sealchain/num", byteOffset := 24 }]) := ⟨Try.underlying58⟩
instance : Inf Try.prog 58 (.agg #[(.slice none 0 0), (.int .i64 0)]) 2 32 := Inf.of (by kernel_rfl)
instance : Und Try.prog 59 (.struct #[{ name := "b", type := 27, offset := 0, embedded := false, tag := "", pkgPath := "sealchain/num", byteOffset := 0 }, { name := "e", type := 38, offset := 1, embedded := false, tag := "", pkgPath := "sealchain/num", byteOffset := 24 }]) := ⟨Try.underlying59⟩
instance : Inf Try.prog 59 (.agg #[(.slice none 0 0), (.int .i64 0)]) 2 32 := Inf.of (by kernel_rfl)
instance : Und Try.prog 60 (.struct #[{ name := "B", type := 27, offset := 0, embedded := false, tag := "", pkgPath := "", byteOffset := 0 }, { name := "E", type := 38, offset := 1, embedded := false, tag := "", pkgPath := "", byteOffset := 24 }]) := ⟨Try.underlying60⟩
instance : Inf Try.prog 60 (.agg #[(.slice none 0 0), (.int .i64 0)]) 2 32 := Inf.of (by kernel_rfl)
instance : Und Try.prog 61 (.struct #[{ name := "B", type := 27, offset := 0, embedded := false, tag := "", pkgPath := "", byteOffset := 0 }, { name := "E", type := 38, offset := 1, embedded := false, tag := "", pkgPath := "", byteOffset := 24 }]) := ⟨Try.underlying61⟩
instance : Inf Try.prog 61 (.agg #[(.slice none 0 0), (.int .i64 0)]) 2 32 := Inf.of (by kernel_rfl)
instance : Und Try.prog 62 (.func #[3] #[4] false) := ⟨Try.underlying62⟩
instance : Inf Try.prog 62 .nilFunc 1 8 := Inf.of (by kernel_rfl)
instance : Und Try.prog 63 (.func #[38, 27] #[23] true) := ⟨Try.underlying63⟩
instance : Inf Try.prog 63 .nilFunc 1 8 := Inf.of (by kernel_rfl)
instance : Und Try.prog 64 (.int .u64) := ⟨Try.underlying64⟩
instance : Inf Try.prog 64 (.int .u64 0) 1 8 := Inf.of (by kernel_rfl)
instance : Und Try.prog 65 (.func #[27] #[] false) := ⟨Try.underlying65⟩
instance : Inf Try.prog 65 .nilFunc 1 8 := Inf.of (by kernel_rfl)
instance : Und Try.prog 66 (.func #[23] #[38] false) := ⟨Try.underlying66⟩
instance : Inf Try.prog 66 .nilFunc 1 8 := Inf.of (by kernel_rfl)
instance : Und Try.prog 67 (.struct #[{ name := "b", type := 27, offset := 0, embedded := false, tag := "", pkgPath := "sealchain/num", byteOffset := 0 }, { name := "e", type := 38, offset := 1, embedded := false, tag := "", pkgPath := "sealchain/num", byteOffset := 24 }]) := ⟨Try.underlying67⟩
instance : Inf Try.prog 67 (.agg #[(.slice none 0 0), (.int .i64 0)]) 2 32 := Inf.of (by kernel_rfl)
instance : Und Try.prog 68 (.func #[38] #[3] false) := ⟨Try.underlying68⟩
instance : Inf Try.prog 68 .nilFunc 1 8 := Inf.of (by kernel_rfl)
instance : Und Try.prog 69 (.struct #[{ name := "B", type := 27, offset := 0, embedded := false, tag := "", pkgPath := "", byteOffset := 0 }, { name := "E", type := 38, offset := 1, embedded := false, tag := "", pkgPath := "", byteOffset := 24 }]) := ⟨Try.underlying69⟩
instance : Inf Try.prog 69 (.agg #[(.slice none 0 0), (.int .i64 0)]) 2 32 := Inf.of (by kernel_rfl)
instance : Und Try.prog 70 (.int .u64) := ⟨Try.underlying70⟩
instance : Inf Try.prog 70 (.int .u64 0) 1 8 := Inf.of (by kernel_rfl)
instance : Und Try.prog 71 (.func #[38] #[] false) := ⟨Try.underlying71⟩
instance : Inf Try.prog 71 .nilFunc 1 8 := Inf.of (by kernel_rfl)
instance : Und Try.prog 72 (.func #[73] #[38] true) := ⟨Try.underlying72⟩
instance : Inf Try.prog 72 .nilFunc 1 8 := Inf.of (by kernel_rfl)
instance : Und Try.prog 73 (.slice 38) := ⟨Try.underlying73⟩
instance : Inf Try.prog 73 (.slice none 0 0) 1 24 := Inf.of (by kernel_rfl)
instance : Und Try.prog 74 (.func #[] #[9] false) := ⟨Try.underlying74⟩
instance : Inf Try.prog 74 .nilFunc 1 8 := Inf.of (by kernel_rfl)
instance : Und Try.prog 75 (.struct #[{ name := "_interface", type := 17, offset := 0, embedded := false, tag := "", pkgPath := "runtime", byteOffset := 0 }, { name := "concrete", type := 17, offset := 1, embedded := false, tag := "", pkgPath := "runtime", byteOffset := 8 }, { name := "asserted", type := 17, offset := 2, embedded := false, tag := "", pkgPath := "runtime", byteOffset := 16 }, { name := "missingMethod", type := 9, offset := 3, embedded := false, tag := "", pkgPath := "runtime", byteOffset := 24 }]) := ⟨Try.underlying75⟩
instance : Inf Try.prog 75 (.agg #[(.pointer none), (.pointer none), (.pointer none), (.string ByteArray.empty)]) 4 40 := Inf.of (by kernel_rfl)
instance : Und Try.prog 76 (.struct #[{ name := "_interface", type := 17, offset := 0, embedded := false, tag := "", pkgPath := "runtime", byteOffset := 0 }, { name := "concrete", type := 17, offset := 1, embedded := false, tag := "", pkgPath := "runtime", byteOffset := 8 }, { name := "asserted", type := 17, offset := 2, embedded := false, tag := "", pkgPath := "runtime", byteOffset := 16 }, { name := "missingMethod", type := 9, offset := 3, embedded := false, tag := "", pkgPath := "runtime", byteOffset := 24 }]) := ⟨Try.underlying76⟩
instance : Inf Try.prog 76 (.agg #[(.pointer none), (.pointer none), (.pointer none), (.string ByteArray.empty)]) 4 40 := Inf.of (by kernel_rfl)
instance : Und Try.prog 77 (.array 0 16) := ⟨Try.underlying77⟩
instance : Inf Try.prog 77 (.agg #[]) 0 0 := Inf.of (by kernel_rfl)
instance : Und Try.prog 78 (.struct #[{ name := "_", type := 77, offset := 0, embedded := false, tag := "", pkgPath := "runtime", byteOffset := 0 }]) := ⟨Try.underlying78⟩
instance : Inf Try.prog 78 (.agg #[]) 0 0 := Inf.of (by kernel_rfl)
instance : Und Try.prog 79 (.struct #[{ name := "_", type := 77, offset := 0, embedded := false, tag := "", pkgPath := "runtime", byteOffset := 0 }]) := ⟨Try.underlying79⟩
instance : Inf Try.prog 79 (.agg #[]) 0 0 := Inf.of (by kernel_rfl)
instance : Und Try.prog 80 (.int .u32) := ⟨Try.underlying80⟩
instance : Inf Try.prog 80 (.int .u32 0) 1 4 := Inf.of (by kernel_rfl)
instance : Und Try.prog 81 (.int .u8) := ⟨Try.underlying81⟩
instance : Inf Try.prog 81 (.int .u8 0) 1 1 := Inf.of (by kernel_rfl)
instance : Und Try.prog 82 (.int .u8) := ⟨Try.underlying82⟩
instance : Inf Try.prog 82 (.int .u8 0) 1 1 := Inf.of (by kernel_rfl)
instance : Und Try.prog 83 (.func #[89, 89] #[4] false) := ⟨Try.underlying83⟩
instance : Inf Try.prog 83 .nilFunc 1 8 := Inf.of (by kernel_rfl)
instance : Und Try.prog 84 (.pointer 5) := ⟨Try.underlying84⟩
instance : Inf Try.prog 84 (.pointer none) 1 8 := Inf.of (by kernel_rfl)
instance : Und Try.prog 85 (.int .i32) := ⟨Try.underlying85⟩
instance : Inf Try.prog 85 (.int .i32 0) 1 4 := Inf.of (by kernel_rfl)
instance : Und Try.prog 86 (.int .i32) := ⟨Try.underlying86⟩
instance : Inf Try.prog 86 (.int .i32 0) 1 4 := Inf.of (by kernel_rfl)
instance : Und Try.prog 87 (.struct #[{ name := "Size_", type := 12, offset := 0, embedded := false, tag := "", pkgPath := "", byteOffset := 0 }, { name := "PtrBytes", type := 12, offset := 1, embedded := false, tag := "", pkgPath := "", byteOffset := 8 }, { name := "Hash", type := 80, offset := 2, embedded := false, tag := "", pkgPath := "", byteOffset := 16 }, { name := "TFlag", type := 81, offset := 3, embedded := false, tag := "", pkgPath := "", byteOffset := 20 }, { name := "Align_", type := 5, offset := 4, embedded := false, tag := "", pkgPath := "", byteOffset := 21 }, { name := "FieldAlign_", type := 5, offset := 5, embedded := false, tag := "", pkgPath := "", byteOffset := 22 }, { name := "Kind_", type := 82, offset := 6, embedded := false, tag := "", pkgPath := "", byteOffset := 23 }, { name := "Equal", type := 83, offset := 7, embedded := false, tag := "", pkgPath := "", byteOffset := 24 }, { name := "GCData", type := 84, offset := 8, embedded := false, tag := "", pkgPath := "", byteOffset := 32 }, { name := "Str", type := 85, offset := 9, embedded := false, tag := "", pkgPath := "", byteOffset := 40 }, { name := "PtrToThis", type := 86, offset := 10, embedded := false, tag := "", pkgPath := "", byteOffset := 44 }]) := ⟨Try.underlying87⟩
instance : Inf Try.prog 87 (.agg #[(.int .u64 0), (.int .u64 0), (.int .u32 0), (.int .u8 0), (.int .u8 0), (.int .u8 0), (.int .u8 0), .nilFunc, (.pointer none), (.int .i32 0), (.int .i32 0)]) 11 48 := Inf.of (by kernel_rfl)
instance : Und Try.prog 88 (.struct #[{ name := "Size_", type := 12, offset := 0, embedded := false, tag := "", pkgPath := "", byteOffset := 0 }, { name := "PtrBytes", type := 12, offset := 1, embedded := false, tag := "", pkgPath := "", byteOffset := 8 }, { name := "Hash", type := 80, offset := 2, embedded := false, tag := "", pkgPath := "", byteOffset := 16 }, { name := "TFlag", type := 81, offset := 3, embedded := false, tag := "", pkgPath := "", byteOffset := 20 }, { name := "Align_", type := 5, offset := 4, embedded := false, tag := "", pkgPath := "", byteOffset := 21 }, { name := "FieldAlign_", type := 5, offset := 5, embedded := false, tag := "", pkgPath := "", byteOffset := 22 }, { name := "Kind_", type := 82, offset := 6, embedded := false, tag := "", pkgPath := "", byteOffset := 23 }, { name := "Equal", type := 83, offset := 7, embedded := false, tag := "", pkgPath := "", byteOffset := 24 }, { name := "GCData", type := 84, offset := 8, embedded := false, tag := "", pkgPath := "", byteOffset := 32 }, { name := "Str", type := 85, offset := 9, embedded := false, tag := "", pkgPath := "", byteOffset := 40 }, { name := "PtrToThis", type := 86, offset := 10, embedded := false, tag := "", pkgPath := "", byteOffset := 44 }]) := ⟨Try.underlying88⟩
instance : Inf Try.prog 88 (.agg #[(.int .u64 0), (.int .u64 0), (.int .u32 0), (.int .u8 0), (.int .u8 0), (.int .u8 0), (.int .u8 0), .nilFunc, (.pointer none), (.int .i32 0), (.int .i32 0)]) 11 48 := Inf.of (by kernel_rfl)
instance : Und Try.prog 89 .unsafePointer := ⟨Try.underlying89⟩
instance : Inf Try.prog 89 (.pointer none) 1 8 := Inf.of (by kernel_rfl)
set_option maxRecDepth 100000 in
abbrev Trytt : TT := [(1, (.func #[] #[] false), some (.nilFunc, 1, 8)),
  (2, (.int .i64), some ((.int .i64 0), 1, 8)),
  (3, (.int .i64), some ((.int .i64 0), 1, 8)),
  (4, .bool, some ((.bool false), 1, 1)),
  (5, (.int .u8), some ((.int .u8 0), 1, 1)),
  (6, (.int .u8), some ((.int .u8 0), 1, 1)),
  (7, (.struct #[{ name := "x", type := 2, offset := 0, embedded := false, tag := "", pkgPath := "runtime", byteOffset := 0 }, { name := "y", type := 3, offset := 1, embedded := false, tag := "", pkgPath := "runtime", byteOffset := 8 }, { name := "signed", type := 4, offset := 2, embedded := false, tag := "", pkgPath := "runtime", byteOffset := 16 }, { name := "code", type := 6, offset := 3, embedded := false, tag := "", pkgPath := "runtime", byteOffset := 17 }]), some ((.agg #[(.int .i64 0), (.int .i64 0), (.bool false), (.int .u8 0)]), 4, 24)),
  (8, (.struct #[{ name := "x", type := 2, offset := 0, embedded := false, tag := "", pkgPath := "runtime", byteOffset := 0 }, { name := "y", type := 3, offset := 1, embedded := false, tag := "", pkgPath := "runtime", byteOffset := 8 }, { name := "signed", type := 4, offset := 2, embedded := false, tag := "", pkgPath := "runtime", byteOffset := 16 }, { name := "code", type := 6, offset := 3, embedded := false, tag := "", pkgPath := "runtime", byteOffset := 17 }]), some ((.agg #[(.int .i64 0), (.int .i64 0), (.bool false), (.int .u8 0)]), 4, 24)),
  (9, .string, some ((.string ByteArray.empty), 1, 16)),
  (10, .string, some ((.string ByteArray.empty), 1, 16)),
  (11, .string, some ((.string ByteArray.empty), 1, 16)),
  (12, (.int .u64), some ((.int .u64 0), 1, 8)),
  (13, (.struct #[{ name := "msg", type := 9, offset := 0, embedded := false, tag := "", pkgPath := "runtime", byteOffset := 0 }, { name := "addr", type := 12, offset := 1, embedded := false, tag := "", pkgPath := "runtime", byteOffset := 16 }]), some ((.agg #[(.string ByteArray.empty), (.int .u64 0)]), 2, 24)),
  (14, (.struct #[{ name := "msg", type := 9, offset := 0, embedded := false, tag := "", pkgPath := "runtime", byteOffset := 0 }, { name := "addr", type := 12, offset := 1, embedded := false, tag := "", pkgPath := "runtime", byteOffset := 16 }]), some ((.agg #[(.string ByteArray.empty), (.int .u64 0)]), 2, 24)),
  (15, (.pointer 76), some ((.pointer none), 1, 8)),
  (16, (.pointer 79), some ((.pointer none), 1, 8)),
  (17, (.pointer 88), some ((.pointer none), 1, 8)),
  (18, (.struct #[{ name := "typ", type := 17, offset := 0, embedded := false, tag := "", pkgPath := "internal/runtime/maps", byteOffset := 0 }]), some ((.agg #[(.pointer none)]), 1, 8)),
  (19, (.struct #[{ name := "typ", type := 17, offset := 0, embedded := false, tag := "", pkgPath := "internal/runtime/maps", byteOffset := 0 }]), some ((.agg #[(.pointer none)]), 1, 8)),
  (21, (.int .i32), some ((.int .i32 0), 1, 4)),
  (22, (.slice 29), some ((.slice none 0 0), 1, 24)),
  (23, (.pointer 59), some ((.pointer none), 1, 8)),
  (24, (.func #[] #[23] false), some (.nilFunc, 1, 8)),
  (25, (.pointer 61), some ((.pointer none), 1, 8)),
  (26, (.func #[] #[25] false), some (.nilFunc, 1, 8)),
  (27, (.slice 5), some ((.slice none 0 0), 1, 24)),
  (28, (.struct #[{ name := "Kind", type := 3, offset := 0, embedded := false, tag := "", pkgPath := "", byteOffset := 0 }, { name := "Width", type := 3, offset := 1, embedded := false, tag := "", pkgPath := "", byteOffset := 8 }, { name := "N", type := 3, offset := 2, embedded := false, tag := "", pkgPath := "", byteOffset := 16 }, { name := "B", type := 27, offset := 3, embedded := false, tag := "", pkgPath := "", byteOffset := 24 }]), some ((.agg #[(.int .i64 0), (.int .i64 0), (.int .i64 0), (.slice none 0 0)]), 4, 48)),
  (29, (.struct #[{ name := "Kind", type := 3, offset := 0, embedded := false, tag := "", pkgPath := "", byteOffset := 0 }, { name := "Width", type := 3, offset := 1, embedded := false, tag := "", pkgPath := "", byteOffset := 8 }, { name := "N", type := 3, offset := 2, embedded := false, tag := "", pkgPath := "", byteOffset := 16 }, { name := "B", type := 27, offset := 3, embedded := false, tag := "", pkgPath := "", byteOffset := 24 }]), some ((.agg #[(.int .i64 0), (.int .i64 0), (.int .i64 0), (.slice none 0 0)]), 4, 48)),
  (30, (.func #[27] #[27] false), some (.nilFunc, 1, 8)),
  (31, (.func #[3, 3] #[3] false), some (.nilFunc, 1, 8)),
  (32, (.func #[3, 3] #[23] false), some (.nilFunc, 1, 8)),
  (33, (.func #[3, 3] #[25] false), some (.nilFunc, 1, 8)),
  (34, (.func #[3] #[23] false), some (.nilFunc, 1, 8)),
  (35, (.func #[3] #[25] false), some (.nilFunc, 1, 8)),
  (36, (.func #[27] #[23] false), some (.nilFunc, 1, 8)),
  (37, (.func #[27] #[25] false), some (.nilFunc, 1, 8)),
  (38, (.int .i64), some ((.int .i64 0), 1, 8)),
  (40, (.func #[] #[27, 38] false), some (.nilFunc, 1, 8)),
  (41, (.func #[27, 27] #[4] false), some (.nilFunc, 1, 8)),
  (42, (.func #[] #[4] false), some (.nilFunc, 1, 8)),
  (43, (.func #[22] #[4] false), some (.nilFunc, 1, 8)),
  (44, (.func #[3] #[27] false), some (.nilFunc, 1, 8)),
  (45, (.func #[3, 3] #[4] false), some (.nilFunc, 1, 8)),
  (46, (.pointer 67), some ((.pointer none), 1, 8)),
  (47, (.func #[27] #[46] false), some (.nilFunc, 1, 8)),
  (48, (.func #[3] #[3] false), some (.nilFunc, 1, 8)),
  (49, (.func #[] #[38] false), some (.nilFunc, 1, 8)),
  (50, (.func #[] #[3] false), some (.nilFunc, 1, 8)),
  (51, (.func #[27] #[4] false), some (.nilFunc, 1, 8)),
  (52, (.pointer 69), some ((.pointer none), 1, 8)),
  (53, (.func #[27] #[52] false), some (.nilFunc, 1, 8)),
  (54, (.func #[27, 22] #[4] false), some (.nilFunc, 1, 8)),
  (55, (.slice 3), some ((.slice none 0 0), 1, 24)),
  (56, (.func #[55, 27] #[4] false), some (.nilFunc, 1, 8)),
  (57, (.func #[27, 3, 55] #[4] false), some (.nilFunc, 1, 8)),
  (58, (.struct #[{ name := "b", type := 27, offset := 0, embedded := false, tag := "", pkgPath := "sealchain/num", byteOffset := 0 }, { name := "e", type := 38, offset := 1, embedded := false, tag := "", pkgPath := "sealchain/num", byteOffset := 24 }]), some ((.agg #[(.slice none 0 0), (.int .i64 0)]), 2, 32)),
  (59, (.struct #[{ name := "b", type := 27, offset := 0, embedded := false, tag := "", pkgPath := "sealchain/num", byteOffset := 0 }, { name := "e", type := 38, offset := 1, embedded := false, tag := "", pkgPath := "sealchain/num", byteOffset := 24 }]), some ((.agg #[(.slice none 0 0), (.int .i64 0)]), 2, 32)),
  (60, (.struct #[{ name := "B", type := 27, offset := 0, embedded := false, tag := "", pkgPath := "", byteOffset := 0 }, { name := "E", type := 38, offset := 1, embedded := false, tag := "", pkgPath := "", byteOffset := 24 }]), some ((.agg #[(.slice none 0 0), (.int .i64 0)]), 2, 32)),
  (61, (.struct #[{ name := "B", type := 27, offset := 0, embedded := false, tag := "", pkgPath := "", byteOffset := 0 }, { name := "E", type := 38, offset := 1, embedded := false, tag := "", pkgPath := "", byteOffset := 24 }]), some ((.agg #[(.slice none 0 0), (.int .i64 0)]), 2, 32)),
  (62, (.func #[3] #[4] false), some (.nilFunc, 1, 8)),
  (63, (.func #[38, 27] #[23] true), some (.nilFunc, 1, 8)),
  (64, (.int .u64), some ((.int .u64 0), 1, 8)),
  (65, (.func #[27] #[] false), some (.nilFunc, 1, 8)),
  (66, (.func #[23] #[38] false), some (.nilFunc, 1, 8)),
  (67, (.struct #[{ name := "b", type := 27, offset := 0, embedded := false, tag := "", pkgPath := "sealchain/num", byteOffset := 0 }, { name := "e", type := 38, offset := 1, embedded := false, tag := "", pkgPath := "sealchain/num", byteOffset := 24 }]), some ((.agg #[(.slice none 0 0), (.int .i64 0)]), 2, 32)),
  (68, (.func #[38] #[3] false), some (.nilFunc, 1, 8)),
  (69, (.struct #[{ name := "B", type := 27, offset := 0, embedded := false, tag := "", pkgPath := "", byteOffset := 0 }, { name := "E", type := 38, offset := 1, embedded := false, tag := "", pkgPath := "", byteOffset := 24 }]), some ((.agg #[(.slice none 0 0), (.int .i64 0)]), 2, 32)),
  (70, (.int .u64), some ((.int .u64 0), 1, 8)),
  (71, (.func #[38] #[] false), some (.nilFunc, 1, 8)),
  (72, (.func #[73] #[38] true), some (.nilFunc, 1, 8)),
  (73, (.slice 38), some ((.slice none 0 0), 1, 24)),
  (74, (.func #[] #[9] false), some (.nilFunc, 1, 8)),
  (75, (.struct #[{ name := "_interface", type := 17, offset := 0, embedded := false, tag := "", pkgPath := "runtime", byteOffset := 0 }, { name := "concrete", type := 17, offset := 1, embedded := false, tag := "", pkgPath := "runtime", byteOffset := 8 }, { name := "asserted", type := 17, offset := 2, embedded := false, tag := "", pkgPath := "runtime", byteOffset := 16 }, { name := "missingMethod", type := 9, offset := 3, embedded := false, tag := "", pkgPath := "runtime", byteOffset := 24 }]), some ((.agg #[(.pointer none), (.pointer none), (.pointer none), (.string ByteArray.empty)]), 4, 40)),
  (76, (.struct #[{ name := "_interface", type := 17, offset := 0, embedded := false, tag := "", pkgPath := "runtime", byteOffset := 0 }, { name := "concrete", type := 17, offset := 1, embedded := false, tag := "", pkgPath := "runtime", byteOffset := 8 }, { name := "asserted", type := 17, offset := 2, embedded := false, tag := "", pkgPath := "runtime", byteOffset := 16 }, { name := "missingMethod", type := 9, offset := 3, embedded := false, tag := "", pkgPath := "runtime", byteOffset := 24 }]), some ((.agg #[(.pointer none), (.pointer none), (.pointer none), (.string ByteArray.empty)]), 4, 40)),
  (77, (.array 0 16), some ((.agg #[]), 0, 0)),
  (78, (.struct #[{ name := "_", type := 77, offset := 0, embedded := false, tag := "", pkgPath := "runtime", byteOffset := 0 }]), some ((.agg #[]), 0, 0)),
  (79, (.struct #[{ name := "_", type := 77, offset := 0, embedded := false, tag := "", pkgPath := "runtime", byteOffset := 0 }]), some ((.agg #[]), 0, 0)),
  (80, (.int .u32), some ((.int .u32 0), 1, 4)),
  (81, (.int .u8), some ((.int .u8 0), 1, 1)),
  (82, (.int .u8), some ((.int .u8 0), 1, 1)),
  (83, (.func #[89, 89] #[4] false), some (.nilFunc, 1, 8)),
  (84, (.pointer 5), some ((.pointer none), 1, 8)),
  (85, (.int .i32), some ((.int .i32 0), 1, 4)),
  (86, (.int .i32), some ((.int .i32 0), 1, 4)),
  (87, (.struct #[{ name := "Size_", type := 12, offset := 0, embedded := false, tag := "", pkgPath := "", byteOffset := 0 }, { name := "PtrBytes", type := 12, offset := 1, embedded := false, tag := "", pkgPath := "", byteOffset := 8 }, { name := "Hash", type := 80, offset := 2, embedded := false, tag := "", pkgPath := "", byteOffset := 16 }, { name := "TFlag", type := 81, offset := 3, embedded := false, tag := "", pkgPath := "", byteOffset := 20 }, { name := "Align_", type := 5, offset := 4, embedded := false, tag := "", pkgPath := "", byteOffset := 21 }, { name := "FieldAlign_", type := 5, offset := 5, embedded := false, tag := "", pkgPath := "", byteOffset := 22 }, { name := "Kind_", type := 82, offset := 6, embedded := false, tag := "", pkgPath := "", byteOffset := 23 }, { name := "Equal", type := 83, offset := 7, embedded := false, tag := "", pkgPath := "", byteOffset := 24 }, { name := "GCData", type := 84, offset := 8, embedded := false, tag := "", pkgPath := "", byteOffset := 32 }, { name := "Str", type := 85, offset := 9, embedded := false, tag := "", pkgPath := "", byteOffset := 40 }, { name := "PtrToThis", type := 86, offset := 10, embedded := false, tag := "", pkgPath := "", byteOffset := 44 }]), some ((.agg #[(.int .u64 0), (.int .u64 0), (.int .u32 0), (.int .u8 0), (.int .u8 0), (.int .u8 0), (.int .u8 0), .nilFunc, (.pointer none), (.int .i32 0), (.int .i32 0)]), 11, 48)),
  (88, (.struct #[{ name := "Size_", type := 12, offset := 0, embedded := false, tag := "", pkgPath := "", byteOffset := 0 }, { name := "PtrBytes", type := 12, offset := 1, embedded := false, tag := "", pkgPath := "", byteOffset := 8 }, { name := "Hash", type := 80, offset := 2, embedded := false, tag := "", pkgPath := "", byteOffset := 16 }, { name := "TFlag", type := 81, offset := 3, embedded := false, tag := "", pkgPath := "", byteOffset := 20 }, { name := "Align_", type := 5, offset := 4, embedded := false, tag := "", pkgPath := "", byteOffset := 21 }, { name := "FieldAlign_", type := 5, offset := 5, embedded := false, tag := "", pkgPath := "", byteOffset := 22 }, { name := "Kind_", type := 82, offset := 6, embedded := false, tag := "", pkgPath := "", byteOffset := 23 }, { name := "Equal", type := 83, offset := 7, embedded := false, tag := "", pkgPath := "", byteOffset := 24 }, { name := "GCData", type := 84, offset := 8, embedded := false, tag := "", pkgPath := "", byteOffset := 32 }, { name := "Str", type := 85, offset := 9, embedded := false, tag := "", pkgPath := "", byteOffset := 40 }, { name := "PtrToThis", type := 86, offset := 10, embedded := false, tag := "", pkgPath := "", byteOffset := 44 }]), some ((.agg #[(.int .u64 0), (.int .u64 0), (.int .u32 0), (.int .u8 0), (.int .u8 0), (.int .u8 0), (.int .u8 0), .nilFunc, (.pointer none), (.int .i32 0), (.int .i32 0)]), 11, 48)),
  (89, .unsafePointer, some ((.pointer none), 1, 8))]
set_option maxRecDepth 100000 in
instance : Tys Try.prog := ⟨Trytt,
  ⟨⟨inferInstance, (inferInstance : Inf Try.prog 1 .nilFunc 1 8)⟩,
  ⟨⟨inferInstance, (inferInstance : Inf Try.prog 2 (.int .i64 0) 1 8)⟩,
  ⟨⟨inferInstance, (inferInstance : Inf Try.prog 3 (.int .i64 0) 1 8)⟩,
  ⟨⟨inferInstance, (inferInstance : Inf Try.prog 4 (.bool false) 1 1)⟩,
  ⟨⟨inferInstance, (inferInstance : Inf Try.prog 5 (.int .u8 0) 1 1)⟩,
  ⟨⟨inferInstance, (inferInstance : Inf Try.prog 6 (.int .u8 0) 1 1)⟩,
  ⟨⟨inferInstance, (inferInstance : Inf Try.prog 7 (.agg #[(.int .i64 0), (.int .i64 0), (.bool false), (.int .u8 0)]) 4 24)⟩,
  ⟨⟨inferInstance, (inferInstance : Inf Try.prog 8 (.agg #[(.int .i64 0), (.int .i64 0), (.bool false), (.int .u8 0)]) 4 24)⟩,
  ⟨⟨inferInstance, (inferInstance : Inf Try.prog 9 (.string ByteArray.empty) 1 16)⟩,
  ⟨⟨inferInstance, (inferInstance : Inf Try.prog 10 (.string ByteArray.empty) 1 16)⟩,
  ⟨⟨inferInstance, (inferInstance : Inf Try.prog 11 (.string ByteArray.empty) 1 16)⟩,
  ⟨⟨inferInstance, (inferInstance : Inf Try.prog 12 (.int .u64 0) 1 8)⟩,
  ⟨⟨inferInstance, (inferInstance : Inf Try.prog 13 (.agg #[(.string ByteArray.empty), (.int .u64 0)]) 2 24)⟩,
  ⟨⟨inferInstance, (inferInstance : Inf Try.prog 14 (.agg #[(.string ByteArray.empty), (.int .u64 0)]) 2 24)⟩,
  ⟨⟨inferInstance, (inferInstance : Inf Try.prog 15 (.pointer none) 1 8)⟩,
  ⟨⟨inferInstance, (inferInstance : Inf Try.prog 16 (.pointer none) 1 8)⟩,
  ⟨⟨inferInstance, (inferInstance : Inf Try.prog 17 (.pointer none) 1 8)⟩,
  ⟨⟨inferInstance, (inferInstance : Inf Try.prog 18 (.agg #[(.pointer none)]) 1 8)⟩,
  ⟨⟨inferInstance, (inferInstance : Inf Try.prog 19 (.agg #[(.pointer none)]) 1 8)⟩,
  ⟨⟨inferInstance, (inferInstance : Inf Try.prog 21 (.int .i32 0) 1 4)⟩,
  ⟨⟨inferInstance, (inferInstance : Inf Try.prog 22 (.slice none 0 0) 1 24)⟩,
  ⟨⟨inferInstance, (inferInstance : Inf Try.prog 23 (.pointer none) 1 8)⟩,
  ⟨⟨inferInstance, (inferInstance : Inf Try.prog 24 .nilFunc 1 8)⟩,
  ⟨⟨inferInstance, (inferInstance : Inf Try.prog 25 (.pointer none) 1 8)⟩,
  ⟨⟨inferInstance, (inferInstance : Inf Try.prog 26 .nilFunc 1 8)⟩,
  ⟨⟨inferInstance, (inferInstance : Inf Try.prog 27 (.slice none 0 0) 1 24)⟩,
  ⟨⟨inferInstance, (inferInstance : Inf Try.prog 28 (.agg #[(.int .i64 0), (.int .i64 0), (.int .i64 0), (.slice none 0 0)]) 4 48)⟩,
  ⟨⟨inferInstance, (inferInstance : Inf Try.prog 29 (.agg #[(.int .i64 0), (.int .i64 0), (.int .i64 0), (.slice none 0 0)]) 4 48)⟩,
  ⟨⟨inferInstance, (inferInstance : Inf Try.prog 30 .nilFunc 1 8)⟩,
  ⟨⟨inferInstance, (inferInstance : Inf Try.prog 31 .nilFunc 1 8)⟩,
  ⟨⟨inferInstance, (inferInstance : Inf Try.prog 32 .nilFunc 1 8)⟩,
  ⟨⟨inferInstance, (inferInstance : Inf Try.prog 33 .nilFunc 1 8)⟩,
  ⟨⟨inferInstance, (inferInstance : Inf Try.prog 34 .nilFunc 1 8)⟩,
  ⟨⟨inferInstance, (inferInstance : Inf Try.prog 35 .nilFunc 1 8)⟩,
  ⟨⟨inferInstance, (inferInstance : Inf Try.prog 36 .nilFunc 1 8)⟩,
  ⟨⟨inferInstance, (inferInstance : Inf Try.prog 37 .nilFunc 1 8)⟩,
  ⟨⟨inferInstance, (inferInstance : Inf Try.prog 38 (.int .i64 0) 1 8)⟩,
  ⟨⟨inferInstance, (inferInstance : Inf Try.prog 40 .nilFunc 1 8)⟩,
  ⟨⟨inferInstance, (inferInstance : Inf Try.prog 41 .nilFunc 1 8)⟩,
  ⟨⟨inferInstance, (inferInstance : Inf Try.prog 42 .nilFunc 1 8)⟩,
  ⟨⟨inferInstance, (inferInstance : Inf Try.prog 43 .nilFunc 1 8)⟩,
  ⟨⟨inferInstance, (inferInstance : Inf Try.prog 44 .nilFunc 1 8)⟩,
  ⟨⟨inferInstance, (inferInstance : Inf Try.prog 45 .nilFunc 1 8)⟩,
  ⟨⟨inferInstance, (inferInstance : Inf Try.prog 46 (.pointer none) 1 8)⟩,
  ⟨⟨inferInstance, (inferInstance : Inf Try.prog 47 .nilFunc 1 8)⟩,
  ⟨⟨inferInstance, (inferInstance : Inf Try.prog 48 .nilFunc 1 8)⟩,
  ⟨⟨inferInstance, (inferInstance : Inf Try.prog 49 .nilFunc 1 8)⟩,
  ⟨⟨inferInstance, (inferInstance : Inf Try.prog 50 .nilFunc 1 8)⟩,
  ⟨⟨inferInstance, (inferInstance : Inf Try.prog 51 .nilFunc 1 8)⟩,
  ⟨⟨inferInstance, (inferInstance : Inf Try.prog 52 (.pointer none) 1 8)⟩,
  ⟨⟨inferInstance, (inferInstance : Inf Try.prog 53 .nilFunc 1 8)⟩,
  ⟨⟨inferInstance, (inferInstance : Inf Try.prog 54 .nilFunc 1 8)⟩,
  ⟨⟨inferInstance, (inferInstance : Inf Try.prog 55 (.slice none 0 0) 1 24)⟩,
  ⟨⟨inferInstance, (inferInstance : Inf Try.prog 56 .nilFunc 1 8)⟩,
  ⟨⟨inferInstance, (inferInstance : Inf Try.prog 57 .nilFunc 1 8)⟩,
  ⟨⟨inferInstance, (inferInstance : Inf Try.prog 58 (.agg #[(.slice none 0 0), (.int .i64 0)]) 2 32)⟩,
  ⟨⟨inferInstance, (inferInstance : Inf Try.prog 59 (.agg #[(.slice none 0 0), (.int .i64 0)]) 2 32)⟩,
  ⟨⟨inferInstance, (inferInstance : Inf Try.prog 60 (.agg #[(.slice none 0 0), (.int .i64 0)]) 2 32)⟩,
  ⟨⟨inferInstance, (inferInstance : Inf Try.prog 61 (.agg #[(.slice none 0 0), (.int .i64 0)]) 2 32)⟩,
  ⟨⟨inferInstance, (inferInstance : Inf Try.prog 62 .nilFunc 1 8)⟩,
  ⟨⟨inferInstance, (inferInstance : Inf Try.prog 63 .nilFunc 1 8)⟩,
  ⟨⟨inferInstance, (inferInstance : Inf Try.prog 64 (.int .u64 0) 1 8)⟩,
  ⟨⟨inferInstance, (inferInstance : Inf Try.prog 65 .nilFunc 1 8)⟩,
  ⟨⟨inferInstance, (inferInstance : Inf Try.prog 66 .nilFunc 1 8)⟩,
  ⟨⟨inferInstance, (inferInstance : Inf Try.prog 67 (.agg #[(.slice none 0 0), (.int .i64 0)]) 2 32)⟩,
  ⟨⟨inferInstance, (inferInstance : Inf Try.prog 68 .nilFunc 1 8)⟩,
  ⟨⟨inferInstance, (inferInstance : Inf Try.prog 69 (.agg #[(.slice none 0 0), (.int .i64 0)]) 2 32)⟩,
  ⟨⟨inferInstance, (inferInstance : Inf Try.prog 70 (.int .u64 0) 1 8)⟩,
  ⟨⟨inferInstance, (inferInstance : Inf Try.prog 71 .nilFunc 1 8)⟩,
  ⟨⟨inferInstance, (inferInstance : Inf Try.prog 72 .nilFunc 1 8)⟩,
  ⟨⟨inferInstance, (inferInstance : Inf Try.prog 73 (.slice none 0 0) 1 24)⟩,
  ⟨⟨inferInstance, (inferInstance : Inf Try.prog 74 .nilFunc 1 8)⟩,
  ⟨⟨inferInstance, (inferInstance : Inf Try.prog 75 (.agg #[(.pointer none), (.pointer none), (.pointer none), (.string ByteArray.empty)]) 4 40)⟩,
  ⟨⟨inferInstance, (inferInstance : Inf Try.prog 76 (.agg #[(.pointer none), (.pointer none), (.pointer none), (.string ByteArray.empty)]) 4 40)⟩,
  ⟨⟨inferInstance, (inferInstance : Inf Try.prog 77 (.agg #[]) 0 0)⟩,
  ⟨⟨inferInstance, (inferInstance : Inf Try.prog 78 (.agg #[]) 0 0)⟩,
  ⟨⟨inferInstance, (inferInstance : Inf Try.prog 79 (.agg #[]) 0 0)⟩,
  ⟨⟨inferInstance, (inferInstance : Inf Try.prog 80 (.int .u32 0) 1 4)⟩,
  ⟨⟨inferInstance, (inferInstance : Inf Try.prog 81 (.int .u8 0) 1 1)⟩,
  ⟨⟨inferInstance, (inferInstance : Inf Try.prog 82 (.int .u8 0) 1 1)⟩,
  ⟨⟨inferInstance, (inferInstance : Inf Try.prog 83 .nilFunc 1 8)⟩,
  ⟨⟨inferInstance, (inferInstance : Inf Try.prog 84 (.pointer none) 1 8)⟩,
  ⟨⟨inferInstance, (inferInstance : Inf Try.prog 85 (.int .i32 0) 1 4)⟩,
  ⟨⟨inferInstance, (inferInstance : Inf Try.prog 86 (.int .i32 0) 1 4)⟩,
  ⟨⟨inferInstance, (inferInstance : Inf Try.prog 87 (.agg #[(.int .u64 0), (.int .u64 0), (.int .u32 0), (.int .u8 0), (.int .u8 0), (.int .u8 0), (.int .u8 0), .nilFunc, (.pointer none), (.int .i32 0), (.int .i32 0)]) 11 48)⟩,
  ⟨⟨inferInstance, (inferInstance : Inf Try.prog 88 (.agg #[(.int .u64 0), (.int .u64 0), (.int .u32 0), (.int .u8 0), (.int .u8 0), (.int .u8 0), (.int .u8 0), .nilFunc, (.pointer none), (.int .i32 0), (.int .i32 0)]) 11 48)⟩,
  ⟨⟨inferInstance, (inferInstance : Inf Try.prog 89 (.pointer none) 1 8)⟩, trivial⟩⟩⟩⟩⟩⟩⟩⟩⟩⟩⟩⟩⟩⟩⟩⟩⟩⟩⟩⟩⟩⟩⟩⟩⟩⟩⟩⟩⟩⟩⟩⟩⟩⟩⟩⟩⟩⟩⟩⟩⟩⟩⟩⟩⟩⟩⟩⟩⟩⟩⟩⟩⟩⟩⟩⟩⟩⟩⟩⟩⟩⟩⟩⟩⟩⟩⟩⟩⟩⟩⟩⟩⟩⟩⟩⟩⟩⟩⟩⟩⟩⟩⟩⟩⟩⟩⟩⟩
instance : Fun Try.prog 2 := ⟨_, _, Try.func2, rfl, by kernel_rfl⟩
instance : Fun Try.prog 3 := ⟨_, _, Try.func3, rfl, by kernel_rfl⟩
instance : Fun Try.prog 4 := ⟨_, _, Try.func4, rfl, by kernel_rfl⟩
instance : Fun Try.prog 5 := ⟨_, _, Try.func5, rfl, by kernel_rfl⟩
instance : Fun Try.prog 6 := ⟨_, _, Try.func6, rfl, by kernel_rfl⟩
instance : Fun Try.prog 7 := ⟨_, _, Try.func7, rfl, by kernel_rfl⟩
instance : Fun Try.prog 8 := ⟨_, _, Try.func8, rfl, by kernel_rfl⟩
instance : Fun Try.prog 9 := ⟨_, _, Try.func9, rfl, by kernel_rfl⟩
instance : Fun Try.prog 10 := ⟨_, _, Try.func10, rfl, by kernel_rfl⟩
instance : Fun Try.prog 11 := ⟨_, _, Try.func11, rfl, by kernel_rfl⟩
instance : Fun Try.prog 12 := ⟨_, _, Try.func12, rfl, by kernel_rfl⟩
instance : Fun Try.prog 13 := ⟨_, _, Try.func13, rfl, by kernel_rfl⟩
instance : Fun Try.prog 14 := ⟨_, _, Try.func14, rfl, by kernel_rfl⟩
instance : Fun Try.prog 15 := ⟨_, _, Try.func15, rfl, by kernel_rfl⟩
instance : Fun Try.prog 16 := ⟨_, _, Try.func16, rfl, by kernel_rfl⟩
instance : Fun Try.prog 17 := ⟨_, _, Try.func17, rfl, by kernel_rfl⟩
instance : Fun Try.prog 18 := ⟨_, _, Try.func18, rfl, by kernel_rfl⟩
instance : Fun Try.prog 19 := ⟨_, _, Try.func19, rfl, by kernel_rfl⟩
instance : Fun Try.prog 20 := ⟨_, _, Try.func20, rfl, by kernel_rfl⟩
instance : Fun Try.prog 21 := ⟨_, _, Try.func21, rfl, by kernel_rfl⟩
instance : Fun Try.prog 22 := ⟨_, _, Try.func22, rfl, by kernel_rfl⟩
instance : Fun Try.prog 23 := ⟨_, _, Try.func23, rfl, by kernel_rfl⟩
instance : Fun Try.prog 24 := ⟨_, _, Try.func24, rfl, by kernel_rfl⟩
instance : Fun Try.prog 25 := ⟨_, _, Try.func25, rfl, by kernel_rfl⟩
instance : Fun Try.prog 26 := ⟨_, _, Try.func26, rfl, by kernel_rfl⟩
instance : Fun Try.prog 27 := ⟨_, _, Try.func27, rfl, by kernel_rfl⟩
instance : Fun Try.prog 28 := ⟨_, _, Try.func28, rfl, by kernel_rfl⟩
instance : Fun Try.prog 29 := ⟨_, _, Try.func29, rfl, by kernel_rfl⟩
instance : Fun Try.prog 30 := ⟨_, _, Try.func30, rfl, by kernel_rfl⟩
instance : Fun Try.prog 31 := ⟨_, _, Try.func31, rfl, by kernel_rfl⟩
instance : Fun Try.prog 32 := ⟨_, _, Try.func32, rfl, by kernel_rfl⟩
instance : Fun Try.prog 33 := ⟨_, _, Try.func33, rfl, by kernel_rfl⟩
instance : Fun Try.prog 34 := ⟨_, _, Try.func34, rfl, by kernel_rfl⟩
instance : Fun Try.prog 35 := ⟨_, _, Try.func35, rfl, by kernel_rfl⟩
instance : Fun Try.prog 36 := ⟨_, _, Try.func36, rfl, by kernel_rfl⟩
instance : Fun Try.prog 37 := ⟨_, _, Try.func37, rfl, by kernel_rfl⟩
instance : Fun Try.prog 38 := ⟨_, _, Try.func38, rfl, by kernel_rfl⟩
instance : Fun Try.prog 39 := ⟨_, _, Try.func39, rfl, by kernel_rfl⟩
instance : Fun Try.prog 40 := ⟨_, _, Try.func40, rfl, by kernel_rfl⟩
instance : Fun Try.prog 41 := ⟨_, _, Try.func41, rfl, by kernel_rfl⟩
instance : Fun Try.prog 42 := ⟨_, _, Try.func42, rfl, by kernel_rfl⟩
instance : Fun Try.prog 43 := ⟨_, _, Try.func43, rfl, by kernel_rfl⟩
instance : Fun Try.prog 44 := ⟨_, _, Try.func44, rfl, by kernel_rfl⟩
instance : Fun Try.prog 45 := ⟨_, _, Try.func45, rfl, by kernel_rfl⟩
instance : Fun Try.prog 46 := ⟨_, _, Try.func46, rfl, by kernel_rfl⟩
instance : Fun Try.prog 47 := ⟨_, _, Try.func47, rfl, by kernel_rfl⟩
instance : Fun Try.prog 48 := ⟨_, _, Try.func48, rfl, by kernel_rfl⟩
instance : Fun Try.prog 49 := ⟨_, _, Try.func49, rfl, by kernel_rfl⟩
instance : Fun Try.prog 50 := ⟨_, _, Try.func50, rfl, by kernel_rfl⟩
instance : Fun Try.prog 51 := ⟨_, _, Try.func51, rfl, by kernel_rfl⟩
instance : Fun Try.prog 52 := ⟨_, _, Try.func52, rfl, by kernel_rfl⟩
instance : Mix Try.prog := ⟨by kernel_rfl⟩
end Go.SX
