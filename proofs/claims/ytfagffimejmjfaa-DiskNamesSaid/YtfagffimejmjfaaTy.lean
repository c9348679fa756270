/- The types of this translation, as instances. -/
import Derived.Test.YtfagffimejmjfaaProg
import Derived.Test.YtfagffimejmjfaaSy
namespace Go.SX
open Go.Proofs
instance : Und Try.prog 1 (.func #[] #[] false) := ⟨Try.underlying1⟩
instance : Inf Try.prog 1 .nilFunc 1 8 := Inf.of (by kernel_rfl)
instance : Und Try.prog 2 (.int .i64) := ⟨Try.underlying2⟩
instance : Inf Try.prog 2 (.int .i64 0) 1 8 := Inf.of (by kernel_rfl)
instance : Und Try.prog 3 (.int .i64) := ⟨Try.underlying3⟩
instance : Inf Try.prog 3 (.int .i64 0) 1 8 := Inf.of (by kernel_rfl)
instance : Und Try.prog 4 .bool := ⟨Try.underlying4⟩
instance : Inf Try.prog 4 (.bool false) 1 1 := Inf.of (by kernel_rfl)
instance : Und Try.prog 5 (.int .u8) := ⟨Try.underlying5⟩
instance : Inf Try.prog 5 (.int .u8 0) 1 1 := Inf.of (by kernel_rfl)
instance : Und Try.prog 6 (.int .u8) := ⟨Try.underlying6⟩
instance : Inf Try.prog 6 (.int .u8 0) 1 1 := Inf.of (by kernel_rfl)
instance : Und Try.prog 7 (.struct #[{ name := "x", type := 2, offset := 0, embedded := false, tag := "", pkgPath := "runtime", byteOffset := 0 }, { name := "y", type := 3, offset := 1, embedded := false, tag := "", pkgPath := "runtime", byteOffset := 8 }, { name := "signed", type := 4, offset := 2, embedded := false, tag := "", pkgPath := "runtime", byteOffset := 16 }, { name := "code", type := 6, offset := 3, embedded := false, tag := "", pkgPath := "runtime", byteOffset := 17 }]) := ⟨Try.underlying7⟩
instance : Inf Try.prog 7 (.agg #[(.int .i64 0), (.int .i64 0), (.bool false), (.int .u8 0)]) 4 24 := Inf.of (by kernel_rfl)
instance : Und Try.prog 8 (.struct #[{ name := "x", type := 2, offset := 0, embedded := false, tag := "", pkgPath := "runtime", byteOffset := 0 }, { name := "y", type := 3, offset := 1, embedded := false, tag := "", pkgPath := "runtime", byteOffset := 8 }, { name := "signed", type := 4, offset := 2, embedded := false, tag := "", pkgPath := "runtime", byteOffset := 16 }, { name := "code", type := 6, offset := 3, embedded := false, tag := "", pkgPath := "runtime", byteOffset := 17 }]) := ⟨Try.underlying8⟩
instance : Inf Try.prog 8 (.agg #[(.int .i64 0), (.int .i64 0), (.bool false), (.int .u8 0)]) 4 24 := Inf.of (by kernel_rfl)
instance : Und Try.prog 9 .string := ⟨Try.underlying9⟩
instance : Inf Try.prog 9 (.string ByteArray.empty) 1 16 := Inf.of (by kernel_rfl)
instance : Und Try.prog 10 .string := ⟨Try.underlying10⟩
instance : Inf Try.prog 10 (.string ByteArray.empty) 1 16 := Inf.of (by kernel_rfl)
instance : Und Try.prog 11 .string := ⟨Try.underlying11⟩
instance : Inf Try.prog 11 (.string ByteArray.empty) 1 16 := Inf.of (by kernel_rfl)
instance : Und Try.prog 12 (.int .u64) := ⟨Try.underlying12⟩
instance : Inf Try.prog 12 (.int .u64 0) 1 8 := Inf.of (by kernel_rfl)
instance : Und Try.prog 13 (.struct #[{ name := "msg", type := 9, offset := 0, embedded := false, tag := "", pkgPath := "runtime", byteOffset := 0 }, { name := "addr", type := 12, offset := 1, embedded := false, tag := "", pkgPath := "runtime", byteOffset := 16 }]) := ⟨Try.underlying13⟩
instance : Inf Try.prog 13 (.agg #[(.string ByteArray.empty), (.int .u64 0)]) 2 24 := Inf.of (by kernel_rfl)
instance : Und Try.prog 14 (.struct #[{ name := "msg", type := 9, offset := 0, embedded := false, tag := "", pkgPath := "runtime", byteOffset := 0 }, { name := "addr", type := 12, offset := 1, embedded := false, tag := "", pkgPath := "runtime", byteOffset := 16 }]) := ⟨Try.underlying14⟩
instance : Inf Try.prog 14 (.agg #[(.string ByteArray.empty), (.int .u64 0)]) 2 24 := Inf.of (by kernel_rfl)
instance : Und Try.prog 15 (.pointer 55) := ⟨Try.underlying15⟩
instance : Inf Try.prog 15 (.pointer none) 1 8 := Inf.of (by kernel_rfl)
instance : Und Try.prog 16 (.pointer 58) := ⟨Try.underlying16⟩
instance : Inf Try.prog 16 (.pointer none) 1 8 := Inf.of (by kernel_rfl)
instance : Und Try.prog 17 (.pointer 67) := ⟨Try.underlying17⟩
instance : Inf Try.prog 17 (.pointer none) 1 8 := Inf.of (by kernel_rfl)
instance : Und Try.prog 18 (.struct #[{ name := "typ", type := 17, offset := 0, embedded := false, tag := "", pkgPath := "internal/runtime/maps", byteOffset := 0 }]) := ⟨Try.underlying18⟩
instance : Inf Try.prog 18 (.agg #[(.pointer none)]) 1 8 := Inf.of (by kernel_rfl)
instance : Und Try.prog 19 (.struct #[{ name := "typ", type := 17, offset := 0, embedded := false, tag := "", pkgPath := "internal/runtime/maps", byteOffset := 0 }]) := ⟨Try.underlying19⟩
instance : Inf Try.prog 19 (.agg #[(.pointer none)]) 1 8 := Inf.of (by kernel_rfl)
instance : Inf Try.prog 20 .nilIface 1 16 := Inf.of (by kernel_rfl)
instance : Und Try.prog 21 (.int .i32) := ⟨Try.underlying21⟩
instance : Inf Try.prog 21 (.int .i32 0) 1 4 := Inf.of (by kernel_rfl)
instance : Und Try.prog 22 (.slice 5) := ⟨Try.underlying22⟩
instance : Inf Try.prog 22 (.slice none 0 0) 1 24 := Inf.of (by kernel_rfl)
instance : Und Try.prog 23 (.array 2 3) := ⟨Try.underlying23⟩
instance : Inf Try.prog 23 (.agg #[(.int .i64 0), (.int .i64 0)]) 2 16 := Inf.of (by kernel_rfl)
instance : Und Try.prog 24 (.pointer 49) := ⟨Try.underlying24⟩
instance : Inf Try.prog 24 (.pointer none) 1 8 := Inf.of (by kernel_rfl)
instance : Und Try.prog 25 (.func #[] #[24] false) := ⟨Try.underlying25⟩
instance : Inf Try.prog 25 .nilFunc 1 8 := Inf.of (by kernel_rfl)
instance : Und Try.prog 26 (.int .i64) := ⟨Try.underlying26⟩
instance : Inf Try.prog 26 (.int .i64 0) 1 8 := Inf.of (by kernel_rfl)
instance : Und Try.prog 27 (.func #[22] #[26] false) := ⟨Try.underlying27⟩
instance : Inf Try.prog 27 .nilFunc 1 8 := Inf.of (by kernel_rfl)
instance : Und Try.prog 28 (.func #[] #[26] false) := ⟨Try.underlying28⟩
instance : Inf Try.prog 28 .nilFunc 1 8 := Inf.of (by kernel_rfl)
instance : Und Try.prog 29 (.func #[3, 3] #[3] false) := ⟨Try.underlying29⟩
instance : Inf Try.prog 29 .nilFunc 1 8 := Inf.of (by kernel_rfl)
instance : Und Try.prog 30 (.func #[3] #[26] false) := ⟨Try.underlying30⟩
instance : Inf Try.prog 30 .nilFunc 1 8 := Inf.of (by kernel_rfl)
instance : Und Try.prog 31 (.func #[22, 22] #[4] false) := ⟨Try.underlying31⟩
instance : Inf Try.prog 31 .nilFunc 1 8 := Inf.of (by kernel_rfl)
instance : Und Try.prog 32 (.func #[] #[22] false) := ⟨Try.underlying32⟩
instance : Inf Try.prog 32 .nilFunc 1 8 := Inf.of (by kernel_rfl)
instance : Und Try.prog 33 (.func #[] #[4] false) := ⟨Try.underlying33⟩
instance : Inf Try.prog 33 .nilFunc 1 8 := Inf.of (by kernel_rfl)
instance : Und Try.prog 34 (.func #[] #[3] false) := ⟨Try.underlying34⟩
instance : Inf Try.prog 34 .nilFunc 1 8 := Inf.of (by kernel_rfl)
instance : Und Try.prog 35 (.func #[22, 22, 23] #[4] false) := ⟨Try.underlying35⟩
instance : Inf Try.prog 35 .nilFunc 1 8 := Inf.of (by kernel_rfl)
instance : Und Try.prog 36 (.slice 38) := ⟨Try.underlying36⟩
instance : Inf Try.prog 36 (.slice none 0 0) 1 24 := Inf.of (by kernel_rfl)
instance : Und Try.prog 37 (.struct #[{ name := "Kind", type := 3, offset := 0, embedded := false, tag := "", pkgPath := "", byteOffset := 0 }, { name := "N", type := 3, offset := 1, embedded := false, tag := "", pkgPath := "", byteOffset := 8 }, { name := "Raw", type := 4, offset := 2, embedded := false, tag := "", pkgPath := "", byteOffset := 16 }, { name := "B", type := 22, offset := 3, embedded := false, tag := "", pkgPath := "", byteOffset := 24 }]) := ⟨Try.underlying37⟩
instance : Inf Try.prog 37 (.agg #[(.int .i64 0), (.int .i64 0), (.bool false), (.slice none 0 0)]) 4 48 := Inf.of (by kernel_rfl)
instance : Und Try.prog 38 (.struct #[{ name := "Kind", type := 3, offset := 0, embedded := false, tag := "", pkgPath := "", byteOffset := 0 }, { name := "N", type := 3, offset := 1, embedded := false, tag := "", pkgPath := "", byteOffset := 8 }, { name := "Raw", type := 4, offset := 2, embedded := false, tag := "", pkgPath := "", byteOffset := 16 }, { name := "B", type := 22, offset := 3, embedded := false, tag := "", pkgPath := "", byteOffset := 24 }]) := ⟨Try.underlying38⟩
instance : Inf Try.prog 38 (.agg #[(.int .i64 0), (.int .i64 0), (.bool false), (.slice none 0 0)]) 4 48 := Inf.of (by kernel_rfl)
instance : Und Try.prog 39 (.func #[22] #[22] false) := ⟨Try.underlying39⟩
instance : Inf Try.prog 39 .nilFunc 1 8 := Inf.of (by kernel_rfl)
instance : Und Try.prog 40 (.func #[36] #[4] false) := ⟨Try.underlying40⟩
instance : Inf Try.prog 40 .nilFunc 1 8 := Inf.of (by kernel_rfl)
instance : Und Try.prog 41 (.slice 22) := ⟨Try.underlying41⟩
instance : Inf Try.prog 41 (.slice none 0 0) 1 24 := Inf.of (by kernel_rfl)
instance : Und Try.prog 42 (.func #[] #[41] false) := ⟨Try.underlying42⟩
instance : Inf Try.prog 42 .nilFunc 1 8 := Inf.of (by kernel_rfl)
instance : Und Try.prog 43 (.pointer 52) := ⟨Try.underlying43⟩
instance : Inf Try.prog 43 (.pointer none) 1 8 := Inf.of (by kernel_rfl)
instance : Und Try.prog 44 (.func #[] #[43] false) := ⟨Try.underlying44⟩
instance : Inf Try.prog 44 .nilFunc 1 8 := Inf.of (by kernel_rfl)
instance : Und Try.prog 45 (.func #[24, 43, 38] #[4] false) := ⟨Try.underlying45⟩
instance : Inf Try.prog 45 .nilFunc 1 8 := Inf.of (by kernel_rfl)
instance : Und Try.prog 46 (.func #[24, 43] #[4] false) := ⟨Try.underlying46⟩
instance : Inf Try.prog 46 .nilFunc 1 8 := Inf.of (by kernel_rfl)
instance : Und Try.prog 47 (.func #[24] #[4] false) := ⟨Try.underlying47⟩
instance : Inf Try.prog 47 .nilFunc 1 8 := Inf.of (by kernel_rfl)
instance : Und Try.prog 48 (.struct #[{ name := "b", type := 22, offset := 0, embedded := false, tag := "", pkgPath := "sealchain/disk", byteOffset := 0 }, { name := "synced", type := 3, offset := 1, embedded := false, tag := "", pkgPath := "sealchain/disk", byteOffset := 24 }, { name := "dead", type := 4, offset := 2, embedded := false, tag := "", pkgPath := "sealchain/disk", byteOffset := 32 }, { name := "holds", type := 47, offset := 3, embedded := false, tag := "", pkgPath := "sealchain/disk", byteOffset := 40 }, { name := "trace", type := 41, offset := 4, embedded := false, tag := "", pkgPath := "sealchain/disk", byteOffset := 48 }]) := ⟨Try.underlying48⟩
instance : Inf Try.prog 48 (.agg #[(.slice none 0 0), (.int .i64 0), (.bool false), .nilFunc, (.slice none 0 0)]) 5 72 := Inf.of (by kernel_rfl)
instance : Und Try.prog 49 (.struct #[{ name := "b", type := 22, offset := 0, embedded := false, tag := "", pkgPath := "sealchain/disk", byteOffset := 0 }, { name := "synced", type := 3, offset := 1, embedded := false, tag := "", pkgPath := "sealchain/disk", byteOffset := 24 }, { name := "dead", type := 4, offset := 2, embedded := false, tag := "", pkgPath := "sealchain/disk", byteOffset := 32 }, { name := "holds", type := 47, offset := 3, embedded := false, tag := "", pkgPath := "sealchain/disk", byteOffset := 40 }, { name := "trace", type := 41, offset := 4, embedded := false, tag := "", pkgPath := "sealchain/disk", byteOffset := 48 }]) := ⟨Try.underlying49⟩
instance : Inf Try.prog 49 (.agg #[(.slice none 0 0), (.int .i64 0), (.bool false), .nilFunc, (.slice none 0 0)]) 5 72 := Inf.of (by kernel_rfl)
instance : Und Try.prog 50 (.func #[3] #[] false) := ⟨Try.underlying50⟩
instance : Inf Try.prog 50 .nilFunc 1 8 := Inf.of (by kernel_rfl)
instance : Und Try.prog 51 (.struct #[{ name := "B", type := 22, offset := 0, embedded := false, tag := "", pkgPath := "", byteOffset := 0 }, { name := "N", type := 3, offset := 1, embedded := false, tag := "", pkgPath := "", byteOffset := 24 }, { name := "Gone", type := 4, offset := 2, embedded := false, tag := "", pkgPath := "", byteOffset := 32 }, { name := "Armed", type := 3, offset := 3, embedded := false, tag := "", pkgPath := "", byteOffset := 40 }, { name := "T", type := 41, offset := 4, embedded := false, tag := "", pkgPath := "", byteOffset := 48 }]) := ⟨Try.underlying51⟩
instance : Inf Try.prog 51 (.agg #[(.slice none 0 0), (.int .i64 0), (.bool false), (.int .i64 0), (.slice none 0 0)]) 5 72 := Inf.of (by kernel_rfl)
instance : Und Try.prog 52 (.struct #[{ name := "B", type := 22, offset := 0, embedded := false, tag := "", pkgPath := "", byteOffset := 0 }, { name := "N", type := 3, offset := 1, embedded := false, tag := "", pkgPath := "", byteOffset := 24 }, { name := "Gone", type := 4, offset := 2, embedded := false, tag := "", pkgPath := "", byteOffset := 32 }, { name := "Armed", type := 3, offset := 3, embedded := false, tag := "", pkgPath := "", byteOffset := 40 }, { name := "T", type := 41, offset := 4, embedded := false, tag := "", pkgPath := "", byteOffset := 48 }]) := ⟨Try.underlying52⟩
instance : Inf Try.prog 52 (.agg #[(.slice none 0 0), (.int .i64 0), (.bool false), (.int .i64 0), (.slice none 0 0)]) 5 72 := Inf.of (by kernel_rfl)
instance : Und Try.prog 53 (.func #[] #[9] false) := ⟨Try.underlying53⟩
instance : Inf Try.prog 53 .nilFunc 1 8 := Inf.of (by kernel_rfl)
instance : Und Try.prog 54 (.struct #[{ name := "_interface", type := 17, offset := 0, embedded := false, tag := "", pkgPath := "runtime", byteOffset := 0 }, { name := "concrete", type := 17, offset := 1, embedded := false, tag := "", pkgPath := "runtime", byteOffset := 8 }, { name := "asserted", type := 17, offset := 2, embedded := false, tag := "", pkgPath := "runtime", byteOffset := 16 }, { name := "missingMethod", type := 9, offset := 3, embedded := false, tag := "", pkgPath := "runtime", byteOffset := 24 }]) := ⟨Try.underlying54⟩
instance : Inf Try.prog 54 (.agg #[(.pointer none), (.pointer none), (.pointer none), (.string ByteArray.empty)]) 4 40 := Inf.of (by kernel_rfl)
instance : Und Try.prog 55 (.struct #[{ name := "_interface", type := 17, offset := 0, embedded := false, tag := "", pkgPath := "runtime", byteOffset := 0 }, { name := "concrete", type := 17, offset := 1, embedded := false, tag := "", pkgPath := "runtime", byteOffset := 8 }, { name := "asserted", type := 17, offset := 2, embedded := false, tag := "", pkgPath := "runtime", byteOffset := 16 }, { name := "missingMethod", type := 9, offset := 3, embedded := false, tag := "", pkgPath := "runtime", byteOffset := 24 }]) := ⟨Try.underlying55⟩
instance : Inf Try.prog 55 (.agg #[(.pointer none), (.pointer none), (.pointer none), (.string ByteArray.empty)]) 4 40 := Inf.of (by kernel_rfl)
instance : Und Try.prog 56 (.array 0 16) := ⟨Try.underlying56⟩
instance : Inf Try.prog 56 (.agg #[]) 0 0 := Inf.of (by kernel_rfl)
instance : Und Try.prog 57 (.struct #[{ name := "_", type := 56, offset := 0, embedded := false, tag := "", pkgPath := "runtime", byteOffset := 0 }]) := ⟨Try.underlying57⟩
instance : Inf Try.prog 57 (.agg #[]) 0 0 := Inf.of (by kernel_rfl)
instance : Und Try.prog 58 (.struct #[{ name := "_", type := 56, offset := 0, embedded := false, tag := "", pkgPath := "runtime", byteOffset := 0 }]) := ⟨Try.underlying58⟩
instance : Inf Try.prog 58 (.agg #[]) 0 0 := Inf.of (by kernel_rfl)
instance : Und Try.prog 59 (.int .u32) := ⟨Try.underlying59⟩
instance : Inf Try.prog 59 (.int .u32 0) 1 4 := Inf.of (by kernel_rfl)
instance : Und Try.prog 60 (.int .u8) := ⟨Try.underlying60⟩
instance : Inf Try.prog 60 (.int .u8 0) 1 1 := Inf.of (by kernel_rfl)
instance : Und Try.prog 61 (.int .u8) := ⟨Try.underlying61⟩
instance : Inf Try.prog 61 (.int .u8 0) 1 1 := Inf.of (by kernel_rfl)
instance : Und Try.prog 62 (.func #[68, 68] #[4] false) := ⟨Try.underlying62⟩
instance : Inf Try.prog 62 .nilFunc 1 8 := Inf.of (by kernel_rfl)
instance : Und Try.prog 63 (.pointer 5) := ⟨Try.underlying63⟩
instance : Inf Try.prog 63 (.pointer none) 1 8 := Inf.of (by kernel_rfl)
instance : Und Try.prog 64 (.int .i32) := ⟨Try.underlying64⟩
instance : Inf Try.prog 64 (.int .i32 0) 1 4 := Inf.of (by kernel_rfl)
instance : Und Try.prog 65 (.int .i32) := ⟨Try.underlying65⟩
instance : Inf Try.prog 65 (.int .i32 0) 1 4 := Inf.of (by kernel_rfl)
instance : Und Try.prog 66 (.struct #[{ name := "Size_", type := 12, offset := 0, embedded := false, tag := "", pkgPath := "", byteOffset := 0 }, { name := "PtrBytes", type := 12, offset := 1, embedded := false, tag := "", pkgPath := "", byteOffset := 8 }, { name := "Hash", type := 59, offset := 2, embedded := false, tag := "", pkgPath := "", byteOffset := 16 }, { name := "TFlag", type := 60, offset := 3, embedded := false, tag := "", pkgPath := "", byteOffset := 20 }, { name := "Align_", type := 5, offset := 4, embedded := false, tag := "", pkgPath := "", byteOffset := 21 }, { name := "FieldAlign_", type := 5, offset := 5, embedded := false, tag := "", pkgPath := "", byteOffset := 22 }, { name := "Kind_", type := 61, offset := 6, embedded := false, tag := "", pkgPath := "", byteOffset := 23 }, { name := "Equal", type := 62, offset := 7, embedded := false, tag := "", pkgPath := "", byteOffset := 24 }, { name := "GCData", type := 63, offset := 8, embedded := false, tag := "", pkgPath := "", byteOffset := 32 }, { name := "Str", type := 64, offset := 9, embedded := false, tag := "", pkgPath := "", byteOffset := 40 }, { name := "PtrToThis", type := 65, offset := 10, embedded := false, tag := "", pkgPath := "", byteOffset := 44 }]) := ⟨Try.underlying66⟩
instance : Inf Try.prog 66 (.agg #[(.int .u64 0), (.int .u64 0), (.int .u32 0), (.int .u8 0), (.int .u8 0), (.int .u8 0), (.int .u8 0), .nilFunc, (.pointer none), (.int .i32 0), (.int .i32 0)]) 11 48 := Inf.of (by kernel_rfl)
instance : Und Try.prog 67 (.struct #[{ name := "Size_", type := 12, offset := 0, embedded := false, tag := "", pkgPath := "", byteOffset := 0 }, { name := "PtrBytes", type := 12, offset := 1, embedded := false, tag := "", pkgPath := "", byteOffset := 8 }, { name := "Hash", type := 59, offset := 2, embedded := false, tag := "", pkgPath := "", byteOffset := 16 }, { name := "TFlag", type := 60, offset := 3, embedded := false, tag := "", pkgPath := "", byteOffset := 20 }, { name := "Align_", type := 5, offset := 4, embedded := false, tag := "", pkgPath := "", byteOffset := 21 }, { name := "FieldAlign_", type := 5, offset := 5, embedded := false, tag := "", pkgPath := "", byteOffset := 22 }, { name := "Kind_", type := 61, offset := 6, embedded := false, tag := "", pkgPath := "", byteOffset := 23 }, { name := "Equal", type := 62, offset := 7, embedded := false, tag := "", pkgPath := "", byteOffset := 24 }, { name := "GCData", type := 63, offset := 8, embedded := false, tag := "", pkgPath := "", byteOffset := 32 }, { name := "Str", type := 64, offset := 9, embedded := false, tag := "", pkgPath := "", byteOffset := 40 }, { name := "PtrToThis", type := 65, offset := 10, embedded := false, tag := "", pkgPath := "", byteOffset := 44 }]) := ⟨Try.underlying67⟩
instance : Inf Try.prog 67 (.agg #[(.int .u64 0), (.int .u64 0), (.int .u32 0), (.int .u8 0), (.int .u8 0), (.int .u8 0), (.int .u8 0), .nilFunc, (.pointer none), (.int .i32 0), (.int .i32 0)]) 11 48 := Inf.of (by kernel_rfl)
instance : Und Try.prog 68 .unsafePointer := ⟨Try.underlying68⟩
instance : Inf Try.prog 68 (.pointer none) 1 8 := Inf.of (by kernel_rfl)
set_option maxRecDepth 100000 in
abbrev Trytt : TT := [(1, (.func #[] #[] false), some (.nilFunc, 1, 8)),
  (2, (.int .i64), some ((.int .i64 0), 1, 8)),
  (3, (.int .i64), some ((.int .i64 0), 1, 8)),
  (4, .bool, some ((.bool false), 1, 1)),
  (5, (.int .u8), some ((.int .u8 0), 1, 1)),
  (6, (.int .u8), some ((.int .u8 0), 1, 1)),
  (7, (.struct #[{ name := "x", type := 2, offset := 0, embedded := false, tag := "", pkgPath := "runtime", byteOffset := 0 }, { name := "y", type := 3, offset := 1, embedded := false, tag := "", pkgPath := "runtime", byteOffset := 8 }, { name := "signed", type := 4, offset := 2, embedded := false, tag := "", pkgPath := "runtime", byteOffset := 16 }, { name := "code", type := 6, offset := 3, embedded := false, tag := "", pkgPath := "runtime", byteOffset := 17 }]), some ((.agg #[(.int .i64 0), (.int .i64 0), (.bool false), (.int .u8 0)]), 4, 24)),
  (8, (.struct #[{ name := "x", type := 2, offset := 0, embedded := false, tag := "", pkgPath := "runtime", byteOffset := 0 }, { name := "y", type := 3, offset := 1, embedded := false, tag := "", pkgPath := "runtime", byteOffset := 8 }, { name := "signed", type := 4, offset := 2, embedded := false, tag := "", pkgPath := "runtime", byteOffset := 16 }, { name := "code", type := 6, offset := 3, embedded := false, tag := "", pkgPath := "runtime", byteOffset := 17 }]), some ((.agg #[(.int .i64 0), (.int .i64 0), (.bool false), (.int .u8 0)]), 4, 24)),
  (9, .string, some ((.string ByteArray.empty), 1, 16)),
  (10, .string, some ((.string ByteArray.empty), 1, 16)),
  (11, .string, some ((.string ByteArray.empty), 1, 16)),
  (12, (.int .u64), some ((.int .u64 0), 1, 8)),
  (13, (.struct #[{ name := "msg", type := 9, offset := 0, embedded := false, tag := "", pkgPath := "runtime", byteOffset := 0 }, { name := "addr", type := 12, offset := 1, embedded := false, tag := "", pkgPath := "runtime", byteOffset := 16 }]), some ((.agg #[(.string ByteArray.empty), (.int .u64 0)]), 2, 24)),
  (14, (.struct #[{ name := "msg", type := 9, offset := 0, embedded := false, tag := "", pkgPath := "runtime", byteOffset := 0 }, { name := "addr", type := 12, offset := 1, embedded := false, tag := "", pkgPath := "runtime", byteOffset := 16 }]), some ((.agg #[(.string ByteArray.empty), (.int .u64 0)]), 2, 24)),
  (15, (.pointer 55), some ((.pointer none), 1, 8)),
  (16, (.pointer 58), some ((.pointer none), 1, 8)),
  (17, (.pointer 67), some ((.pointer none), 1, 8)),
  (18, (.struct #[{ name := "typ", type := 17, offset := 0, embedded := false, tag := "", pkgPath := "internal/runtime/maps", byteOffset := 0 }]), some ((.agg #[(.pointer none)]), 1, 8)),
  (19, (.struct #[{ name := "typ", type := 17, offset := 0, embedded := false, tag := "", pkgPath := "internal/runtime/maps", byteOffset := 0 }]), some ((.agg #[(.pointer none)]), 1, 8)),
  (21, (.int .i32), some ((.int .i32 0), 1, 4)),
  (22, (.slice 5), some ((.slice none 0 0), 1, 24)),
  (23, (.array 2 3), some ((.agg #[(.int .i64 0), (.int .i64 0)]), 2, 16)),
  (24, (.pointer 49), some ((.pointer none), 1, 8)),
  (25, (.func #[] #[24] false), some (.nilFunc, 1, 8)),
  (26, (.int .i64), some ((.int .i64 0), 1, 8)),
  (27, (.func #[22] #[26] false), some (.nilFunc, 1, 8)),
  (28, (.func #[] #[26] false), some (.nilFunc, 1, 8)),
  (29, (.func #[3, 3] #[3] false), some (.nilFunc, 1, 8)),
  (30, (.func #[3] #[26] false), some (.nilFunc, 1, 8)),
  (31, (.func #[22, 22] #[4] false), some (.nilFunc, 1, 8)),
  (32, (.func #[] #[22] false), some (.nilFunc, 1, 8)),
  (33, (.func #[] #[4] false), some (.nilFunc, 1, 8)),
  (34, (.func #[] #[3] false), some (.nilFunc, 1, 8)),
  (35, (.func #[22, 22, 23] #[4] false), some (.nilFunc, 1, 8)),
  (36, (.slice 38), some ((.slice none 0 0), 1, 24)),
  (37, (.struct #[{ name := "Kind", type := 3, offset := 0, embedded := false, tag := "", pkgPath := "", byteOffset := 0 }, { name := "N", type := 3, offset := 1, embedded := false, tag := "", pkgPath := "", byteOffset := 8 }, { name := "Raw", type := 4, offset := 2, embedded := false, tag := "", pkgPath := "", byteOffset := 16 }, { name := "B", type := 22, offset := 3, embedded := false, tag := "", pkgPath := "", byteOffset := 24 }]), some ((.agg #[(.int .i64 0), (.int .i64 0), (.bool false), (.slice none 0 0)]), 4, 48)),
  (38, (.struct #[{ name := "Kind", type := 3, offset := 0, embedded := false, tag := "", pkgPath := "", byteOffset := 0 }, { name := "N", type := 3, offset := 1, embedded := false, tag := "", pkgPath := "", byteOffset := 8 }, { name := "Raw", type := 4, offset := 2, embedded := false, tag := "", pkgPath := "", byteOffset := 16 }, { name := "B", type := 22, offset := 3, embedded := false, tag := "", pkgPath := "", byteOffset := 24 }]), some ((.agg #[(.int .i64 0), (.int .i64 0), (.bool false), (.slice none 0 0)]), 4, 48)),
  (39, (.func #[22] #[22] false), some (.nilFunc, 1, 8)),
  (40, (.func #[36] #[4] false), some (.nilFunc, 1, 8)),
  (41, (.slice 22), some ((.slice none 0 0), 1, 24)),
  (42, (.func #[] #[41] false), some (.nilFunc, 1, 8)),
  (43, (.pointer 52), some ((.pointer none), 1, 8)),
  (44, (.func #[] #[43] false), some (.nilFunc, 1, 8)),
  (45, (.func #[24, 43, 38] #[4] false), some (.nilFunc, 1, 8)),
  (46, (.func #[24, 43] #[4] false), some (.nilFunc, 1, 8)),
  (47, (.func #[24] #[4] false), some (.nilFunc, 1, 8)),
  (48, (.struct #[{ name := "b", type := 22, offset := 0, embedded := false, tag := "", pkgPath := "sealchain/disk", byteOffset := 0 }, { name := "synced", type := 3, offset := 1, embedded := false, tag := "", pkgPath := "sealchain/disk", byteOffset := 24 }, { name := "dead", type := 4, offset := 2, embedded := false, tag := "", pkgPath := "sealchain/disk", byteOffset := 32 }, { name := "holds", type := 47, offset := 3, embedded := false, tag := "", pkgPath := "sealchain/disk", byteOffset := 40 }, { name := "trace", type := 41, offset := 4, embedded := false, tag := "", pkgPath := "sealchain/disk", byteOffset := 48 }]), some ((.agg #[(.slice none 0 0), (.int .i64 0), (.bool false), .nilFunc, (.slice none 0 0)]), 5, 72)),
  (49, (.struct #[{ name := "b", type := 22, offset := 0, embedded := false, tag := "", pkgPath := "sealchain/disk", byteOffset := 0 }, { name := "synced", type := 3, offset := 1, embedded := false, tag := "", pkgPath := "sealchain/disk", byteOffset := 24 }, { name := "dead", type := 4, offset := 2, embedded := false, tag := "", pkgPath := "sealchain/disk", byteOffset := 32 }, { name := "holds", type := 47, offset := 3, embedded := false, tag := "", pkgPath := "sealchain/disk", byteOffset := 40 }, { name := "trace", type := 41, offset := 4, embedded := false, tag := "", pkgPath := "sealchain/disk", byteOffset := 48 }]), some ((.agg #[(.slice none 0 0), (.int .i64 0), (.bool false), .nilFunc, (.slice none 0 0)]), 5, 72)),
  (50, (.func #[3] #[] false), some (.nilFunc, 1, 8)),
  (51, (.struct #[{ name := "B", type := 22, offset := 0, embedded := false, tag := "", pkgPath := "", byteOffset := 0 }, { name := "N", type := 3, offset := 1, embedded := false, tag := "", pkgPath := "", byteOffset := 24 }, { name := "Gone", type := 4, offset := 2, embedded := false, tag := "", pkgPath := "", byteOffset := 32 }, { name := "Armed", type := 3, offset := 3, embedded := false, tag := "", pkgPath := "", byteOffset := 40 }, { name := "T", type := 41, offset := 4, embedded := false, tag := "", pkgPath := "", byteOffset := 48 }]), some ((.agg #[(.slice none 0 0), (.int .i64 0), (.bool false), (.int .i64 0), (.slice none 0 0)]), 5, 72)),
  (52, (.struct #[{ name := "B", type := 22, offset := 0, embedded := false, tag := "", pkgPath := "", byteOffset := 0 }, { name := "N", type := 3, offset := 1, embedded := false, tag := "", pkgPath := "", byteOffset := 24 }, { name := "Gone", type := 4, offset := 2, embedded := false, tag := "", pkgPath := "", byteOffset := 32 }, { name := "Armed", type := 3, offset := 3, embedded := false, tag := "", pkgPath := "", byteOffset := 40 }, { name := "T", type := 41, offset := 4, embedded := false, tag := "", pkgPath := "", byteOffset := 48 }]), some ((.agg #[(.slice none 0 0), (.int .i64 0), (.bool false), (.int .i64 0), (.slice none 0 0)]), 5, 72)),
  (53, (.func #[] #[9] false), some (.nilFunc, 1, 8)),
  (54, (.struct #[{ name := "_interface", type := 17, offset := 0, embedded := false, tag := "", pkgPath := "runtime", byteOffset := 0 }, { name := "concrete", type := 17, offset := 1, embedded := false, tag := "", pkgPath := "runtime", byteOffset := 8 }, { name := "asserted", type := 17, offset := 2, embedded := false, tag := "", pkgPath := "runtime", byteOffset := 16 }, { name := "missingMethod", type := 9, offset := 3, embedded := false, tag := "", pkgPath := "runtime", byteOffset := 24 }]), some ((.agg #[(.pointer none), (.pointer none), (.pointer none), (.string ByteArray.empty)]), 4, 40)),
  (55, (.struct #[{ name := "_interface", type := 17, offset := 0, embedded := false, tag := "", pkgPath := "runtime", byteOffset := 0 }, { name := "concrete", type := 17, offset := 1, embedded := false, tag := "", pkgPath := "runtime", byteOffset := 8 }, { name := "asserted", type := 17, offset := 2, embedded := false, tag := "", pkgPath := "runtime", byteOffset := 16 }, { name := "missingMethod", type := 9, offset := 3, embedded := false, tag := "", pkgPath := "runtime", byteOffset := 24 }]), some ((.agg #[(.pointer none), (.pointer none), (.pointer none), (.string ByteArray.empty)]), 4, 40)),
  (56, (.array 0 16), some ((.agg #[]), 0, 0)),
  (57, (.struct #[{ name := "_", type := 56, offset := 0, embedded := false, tag := "", pkgPath := "runtime", byteOffset := 0 }]), some ((.agg #[]), 0, 0)),
  (58, (.struct #[{ name := "_", type := 56, offset := 0, embedded := false, tag := "", pkgPath := "runtime", byteOffset := 0 }]), some ((.agg #[]), 0, 0)),
  (59, (.int .u32), some ((.int .u32 0), 1, 4)),
  (60, (.int .u8), some ((.int .u8 0), 1, 1)),
  (61, (.int .u8), some ((.int .u8 0), 1, 1)),
  (62, (.func #[68, 68] #[4] false), some (.nilFunc, 1, 8)),
  (63, (.pointer 5), some ((.pointer none), 1, 8)),
  (64, (.int .i32), some ((.int .i32 0), 1, 4)),
  (65, (.int .i32), some ((.int .i32 0), 1, 4)),
  (66, (.struct #[{ name := "Size_", type := 12, offset := 0, embedded := false, tag := "", pkgPath := "", byteOffset := 0 }, { name := "PtrBytes", type := 12, offset := 1, embedded := false, tag := "", pkgPath := "", byteOffset := 8 }, { name := "Hash", type := 59, offset := 2, embedded := false, tag := "", pkgPath := "", byteOffset := 16 }, { name := "TFlag", type := 60, offset := 3, embedded := false, tag := "", pkgPath := "", byteOffset := 20 }, { name := "Align_", type := 5, offset := 4, embedded := false, tag := "", pkgPath := "", byteOffset := 21 }, { name := "FieldAlign_", type := 5, offset := 5, embedded := false, tag := "", pkgPath := "", byteOffset := 22 }, { name := "Kind_", type := 61, offset := 6, embedded := false, tag := "", pkgPath := "", byteOffset := 23 }, { name := "Equal", type := 62, offset := 7, embedded := false, tag := "", pkgPath := "", byteOffset := 24 }, { name := "GCData", type := 63, offset := 8, embedded := false, tag := "", pkgPath := "", byteOffset := 32 }, { name := "Str", type := 64, offset := 9, embedded := false, tag := "", pkgPath := "", byteOffset := 40 }, { name := "PtrToThis", type := 65, offset := 10, embedded := false, tag := "", pkgPath := "", byteOffset := 44 }]), some ((.agg #[(.int .u64 0), (.int .u64 0), (.int .u32 0), (.int .u8 0), (.int .u8 0), (.int .u8 0), (.int .u8 0), .nilFunc, (.pointer none), (.int .i32 0), (.int .i32 0)]), 11, 48)),
  (67, (.struct #[{ name := "Size_", type := 12, offset := 0, embedded := false, tag := "", pkgPath := "", byteOffset := 0 }, { name := "PtrBytes", type := 12, offset := 1, embedded := false, tag := "", pkgPath := "", byteOffset := 8 }, { name := "Hash", type := 59, offset := 2, embedded := false, tag := "", pkgPath := "", byteOffset := 16 }, { name := "TFlag", type := 60, offset := 3, embedded := false, tag := "", pkgPath := "", byteOffset := 20 }, { name := "Align_", type := 5, offset := 4, embedded := false, tag := "", pkgPath := "", byteOffset := 21 }, { name := "FieldAlign_", type := 5, offset := 5, embedded := false, tag := "", pkgPath := "", byteOffset := 22 }, { name := "Kind_", type := 61, offset := 6, embedded := false, tag := "", pkgPath := "", byteOffset := 23 }, { name := "Equal", type := 62, offset := 7, embedded := false, tag := "", pkgPath := "", byteOffset := 24 }, { name := "GCData", type := 63, offset := 8, embedded := false, tag := "", pkgPath := "", byteOffset := 32 }, { name := "Str", type := 64, offset := 9, embedded := false, tag := "", pkgPath := "", byteOffset := 40 }, { name := "PtrToThis", type := 65, offset := 10, embedded := false, tag := "", pkgPath := "", byteOffset := 44 }]), some ((.agg #[(.int .u64 0), (.int .u64 0), (.int .u32 0), (.int .u8 0), (.int .u8 0), (.int .u8 0), (.int .u8 0), .nilFunc, (.pointer none), (.int .i32 0), (.int .i32 0)]), 11, 48)),
  (68, .unsafePointer, some ((.pointer none), 1, 8))]
set_option maxRecDepth 100000 in
instance : Tys Try.prog := ⟨Trytt,
  ⟨⟨inferInstance, (inferInstance : Inf Try.prog 1 .nilFunc 1 8)⟩,
  ⟨⟨inferInstance, (inferInstance : Inf Try.prog 2 (.int .i64 0) 1 8)⟩,
  ⟨⟨inferInstance, (inferInstance : Inf Try.prog 3 (.int .i64 0) 1 8)⟩,
  ⟨⟨inferInstance, (inferInstance : Inf Try.prog 4 (.bool false) 1 1)⟩,
  ⟨⟨inferInstance, (inferInstance : Inf Try.prog 5 (.int .u8 0) 1 1)⟩,
  ⟨⟨inferInstance, (inferInstance : Inf Try.prog 6 (.int .u8 0) 1 1)⟩,
  ⟨⟨inferInstance, (inferInstance : Inf Try.prog 7 (.agg #[(.int .i64 0), (.int .i64 0), (.bool false), (.int .u8 0)]) 4 24)⟩,
  ⟨⟨inferInstance, (inferInstance : Inf Try.prog 8 (.agg #[(.int .i64 0), (.int .i64 0), (.bool false), (.int .u8 0)]) 4 24)⟩,
  ⟨⟨inferInstance, (inferInstance : Inf Try.prog 9 (.string ByteArray.empty) 1 16)⟩,
  ⟨⟨inferInstance, (inferInstance : Inf Try.prog 10 (.string ByteArray.empty) 1 16)⟩,
  ⟨⟨inferInstance, (inferInstance : Inf Try.prog 11 (.string ByteArray.empty) 1 16)⟩,
  ⟨⟨inferInstance, (inferInstance : Inf Try.prog 12 (.int .u64 0) 1 8)⟩,
  ⟨⟨inferInstance, (inferInstance : Inf Try.prog 13 (.agg #[(.string ByteArray.empty), (.int .u64 0)]) 2 24)⟩,
  ⟨⟨inferInstance, (inferInstance : Inf Try.prog 14 (.agg #[(.string ByteArray.empty), (.int .u64 0)]) 2 24)⟩,
  ⟨⟨inferInstance, (inferInstance : Inf Try.prog 15 (.pointer none) 1 8)⟩,
  ⟨⟨inferInstance, (inferInstance : Inf Try.prog 16 (.pointer none) 1 8)⟩,
  ⟨⟨inferInstance, (inferInstance : Inf Try.prog 17 (.pointer none) 1 8)⟩,
  ⟨⟨inferInstance, (inferInstance : Inf Try.prog 18 (.agg #[(.pointer none)]) 1 8)⟩,
  ⟨⟨inferInstance, (inferInstance : Inf Try.prog 19 (.agg #[(.pointer none)]) 1 8)⟩,
  ⟨⟨inferInstance, (inferInstance : Inf Try.prog 21 (.int .i32 0) 1 4)⟩,
  ⟨⟨inferInstance, (inferInstance : Inf Try.prog 22 (.slice none 0 0) 1 24)⟩,
  ⟨⟨inferInstance, (inferInstance : Inf Try.prog 23 (.agg #[(.int .i64 0), (.int .i64 0)]) 2 16)⟩,
  ⟨⟨inferInstance, (inferInstance : Inf Try.prog 24 (.pointer none) 1 8)⟩,
  ⟨⟨inferInstance, (inferInstance : Inf Try.prog 25 .nilFunc 1 8)⟩,
  ⟨⟨inferInstance, (inferInstance : Inf Try.prog 26 (.int .i64 0) 1 8)⟩,
  ⟨⟨inferInstance, (inferInstance : Inf Try.prog 27 .nilFunc 1 8)⟩,
  ⟨⟨inferInstance, (inferInstance : Inf Try.prog 28 .nilFunc 1 8)⟩,
  ⟨⟨inferInstance, (inferInstance : Inf Try.prog 29 .nilFunc 1 8)⟩,
  ⟨⟨inferInstance, (inferInstance : Inf Try.prog 30 .nilFunc 1 8)⟩,
  ⟨⟨inferInstance, (inferInstance : Inf Try.prog 31 .nilFunc 1 8)⟩,
  ⟨⟨inferInstance, (inferInstance : Inf Try.prog 32 .nilFunc 1 8)⟩,
  ⟨⟨inferInstance, (inferInstance : Inf Try.prog 33 .nilFunc 1 8)⟩,
  ⟨⟨inferInstance, (inferInstance : Inf Try.prog 34 .nilFunc 1 8)⟩,
  ⟨⟨inferInstance, (inferInstance : Inf Try.prog 35 .nilFunc 1 8)⟩,
  ⟨⟨inferInstance, (inferInstance : Inf Try.prog 36 (.slice none 0 0) 1 24)⟩,
  ⟨⟨inferInstance, (inferInstance : Inf Try.prog 37 (.agg #[(.int .i64 0), (.int .i64 0), (.bool false), (.slice none 0 0)]) 4 48)⟩,
  ⟨⟨inferInstance, (inferInstance : Inf Try.prog 38 (.agg #[(.int .i64 0), (.int .i64 0), (.bool false), (.slice none 0 0)]) 4 48)⟩,
  ⟨⟨inferInstance, (inferInstance : Inf Try.prog 39 .nilFunc 1 8)⟩,
  ⟨⟨inferInstance, (inferInstance : Inf Try.prog 40 .nilFunc 1 8)⟩,
  ⟨⟨inferInstance, (inferInstance : Inf Try.prog 41 (.slice none 0 0) 1 24)⟩,
  ⟨⟨inferInstance, (inferInstance : Inf Try.prog 42 .nilFunc 1 8)⟩,
  ⟨⟨inferInstance, (inferInstance : Inf Try.prog 43 (.pointer none) 1 8)⟩,
  ⟨⟨inferInstance, (inferInstance : Inf Try.prog 44 .nilFunc 1 8)⟩,
  ⟨⟨inferInstance, (inferInstance : Inf Try.prog 45 .nilFunc 1 8)⟩,
  ⟨⟨inferInstance, (inferInstance : Inf Try.prog 46 .nilFunc 1 8)⟩,
  ⟨⟨inferInstance, (inferInstance : Inf Try.prog 47 .nilFunc 1 8)⟩,
  ⟨⟨inferInstance, (inferInstance : Inf Try.prog 48 (.agg #[(.slice none 0 0), (.int .i64 0), (.bool false), .nilFunc, (.slice none 0 0)]) 5 72)⟩,
  ⟨⟨inferInstance, (inferInstance : Inf Try.prog 49 (.agg #[(.slice none 0 0), (.int .i64 0), (.bool false), .nilFunc, (.slice none 0 0)]) 5 72)⟩,
  ⟨⟨inferInstance, (inferInstance : Inf Try.prog 50 .nilFunc 1 8)⟩,
  ⟨⟨inferInstance, (inferInstance : Inf Try.prog 51 (.agg #[(.slice none 0 0), (.int .i64 0), (.bool false), (.int .i64 0), (.slice none 0 0)]) 5 72)⟩,
  ⟨⟨inferInstance, (inferInstance : Inf Try.prog 52 (.agg #[(.slice none 0 0), (.int .i64 0), (.bool false), (.int .i64 0), (.slice none 0 0)]) 5 72)⟩,
  ⟨⟨inferInstance, (inferInstance : Inf Try.prog 53 .nilFunc 1 8)⟩,
  ⟨⟨inferInstance, (inferInstance : Inf Try.prog 54 (.agg #[(.pointer none), (.pointer none), (.pointer none), (.string ByteArray.empty)]) 4 40)⟩,
  ⟨⟨inferInstance, (inferInstance : Inf Try.prog 55 (.agg #[(.pointer none), (.pointer none), (.pointer none), (.string ByteArray.empty)]) 4 40)⟩,
  ⟨⟨inferInstance, (inferInstance : Inf Try.prog 56 (.agg #[]) 0 0)⟩,
  ⟨⟨inferInstance, (inferInstance : Inf Try.prog 57 (.agg #[]) 0 0)⟩,
  ⟨⟨inferInstance, (inferInstance : Inf Try.prog 58 (.agg #[]) 0 0)⟩,
  ⟨⟨inferInstance, (inferInstance : Inf Try.prog 59 (.int .u32 0) 1 4)⟩,
  ⟨⟨inferInstance, (inferInstance : Inf Try.prog 60 (.int .u8 0) 1 1)⟩,
  ⟨⟨inferInstance, (inferInstance : Inf Try.prog 61 (.int .u8 0) 1 1)⟩,
  ⟨⟨inferInstance, (inferInstance : Inf Try.prog 62 .nilFunc 1 8)⟩,
  ⟨⟨inferInstance, (inferInstance : Inf Try.prog 63 (.pointer none) 1 8)⟩,
  ⟨⟨inferInstance, (inferInstance : Inf Try.prog 64 (.int .i32 0) 1 4)⟩,
  ⟨⟨inferInstance, (inferInstance : Inf Try.prog 65 (.int .i32 0) 1 4)⟩,
  ⟨⟨inferInstance, (inferInstance : Inf Try.prog 66 (.agg #[(.int .u64 0), (.int .u64 0), (.int .u32 0), (.int .u8 0), (.int .u8 0), (.int .u8 0), (.int .u8 0), .nilFunc, (.pointer none), (.int .i32 0), (.int .i32 0)]) 11 48)⟩,
  ⟨⟨inferInstance, (inferInstance : Inf Try.prog 67 (.agg #[(.int .u64 0), (.int .u64 0), (.int .u32 0), (.int .u8 0), (.int .u8 0), (.int .u8 0), (.int .u8 0), .nilFunc, (.pointer none), (.int .i32 0), (.int .i32 0)]) 11 48)⟩,
  ⟨⟨inferInstance, (inferInstance : Inf Try.prog 68 (.pointer none) 1 8)⟩, trivial⟩⟩⟩⟩⟩⟩⟩⟩⟩⟩⟩⟩⟩⟩⟩⟩⟩⟩⟩⟩⟩⟩⟩⟩⟩⟩⟩⟩⟩⟩⟩⟩⟩⟩⟩⟩⟩⟩⟩⟩⟩⟩⟩⟩⟩⟩⟩⟩⟩⟩⟩⟩⟩⟩⟩⟩⟩⟩⟩⟩⟩⟩⟩⟩⟩⟩⟩⟩
instance : Fun Try.prog 2 := ⟨_, _, Try.func2, rfl, by kernel_rfl⟩
instance : Fun Try.prog 3 := ⟨_, _, Try.func3, rfl, by kernel_rfl⟩
instance : Fun Try.prog 4 := ⟨_, _, Try.func4, rfl, by kernel_rfl⟩
instance : Fun Try.prog 5 := ⟨_, _, Try.func5, rfl, by kernel_rfl⟩
instance : Fun Try.prog 6 := ⟨_, _, Try.func6, rfl, by kernel_rfl⟩
instance : Fun Try.prog 7 := ⟨_, _, Try.func7, rfl, by kernel_rfl⟩
instance : Fun Try.prog 8 := ⟨_, _, Try.func8, rfl, by kernel_rfl⟩
instance : Fun Try.prog 9 := ⟨_, _, Try.func9, rfl, by kernel_rfl⟩
instance : Fun Try.prog 10 := ⟨_, _, Try.func10, rfl, by kernel_rfl⟩
instance : Fun Try.prog 11 := ⟨_, _, Try.func11, rfl, by kernel_rfl⟩
instance : Fun Try.prog 12 := ⟨_, _, Try.func12, rfl, by kernel_rfl⟩
instance : Fun Try.prog 13 := ⟨_, _, Try.func13, rfl, by kernel_rfl⟩
instance : Fun Try.prog 14 := ⟨_, _, Try.func14, rfl, by kernel_rfl⟩
instance : Fun Try.prog 15 := ⟨_, _, Try.func15, rfl, by kernel_rfl⟩
instance : Fun Try.prog 16 := ⟨_, _, Try.func16, rfl, by kernel_rfl⟩
instance : Fun Try.prog 17 := ⟨_, _, Try.func17, rfl, by kernel_rfl⟩
instance : Fun Try.prog 18 := ⟨_, _, Try.func18, rfl, by kernel_rfl⟩
instance : Fun Try.prog 19 := ⟨_, _, Try.func19, rfl, by kernel_rfl⟩
instance : Fun Try.prog 20 := ⟨_, _, Try.func20, rfl, by kernel_rfl⟩
instance : Fun Try.prog 21 := ⟨_, _, Try.func21, rfl, by kernel_rfl⟩
instance : Fun Try.prog 22 := ⟨_, _, Try.func22, rfl, by kernel_rfl⟩
instance : Fun Try.prog 23 := ⟨_, _, Try.func23, rfl, by kernel_rfl⟩
instance : Fun Try.prog 24 := ⟨_, _, Try.func24, rfl, by kernel_rfl⟩
instance : Fun Try.prog 25 := ⟨_, _, Try.func25, rfl, by kernel_rfl⟩
instance : Fun Try.prog 26 := ⟨_, _, Try.func26, rfl, by kernel_rfl⟩
instance : Fun Try.prog 27 := ⟨_, _, Try.func27, rfl, by kernel_rfl⟩
instance : Fun Try.prog 28 := ⟨_, _, Try.func28, rfl, by kernel_rfl⟩
instance : Fun Try.prog 29 := ⟨_, _, Try.func29, rfl, by kernel_rfl⟩
instance : Fun Try.prog 30 := ⟨_, _, Try.func30, rfl, by kernel_rfl⟩
instance : Fun Try.prog 31 := ⟨_, _, Try.func31, rfl, by kernel_rfl⟩
instance : Fun Try.prog 32 := ⟨_, _, Try.func32, rfl, by kernel_rfl⟩
instance : Fun Try.prog 33 := ⟨_, _, Try.func33, rfl, by kernel_rfl⟩
instance : Fun Try.prog 34 := ⟨_, _, Try.func34, rfl, by kernel_rfl⟩
instance : Fun Try.prog 35 := ⟨_, _, Try.func35, rfl, by kernel_rfl⟩
instance : Fun Try.prog 36 := ⟨_, _, Try.func36, rfl, by kernel_rfl⟩
instance : Fun Try.prog 37 := ⟨_, _, Try.func37, rfl, by kernel_rfl⟩
instance : Fun Try.prog 38 := ⟨_, _, Try.func38, rfl, by kernel_rfl⟩
instance : Fun Try.prog 39 := ⟨_, _, Try.func39, rfl, by kernel_rfl⟩
instance : Fun Try.prog 40 := ⟨_, _, Try.func40, rfl, by kernel_rfl⟩
instance : Fun Try.prog 41 := ⟨_, _, Try.func41, rfl, by kernel_rfl⟩
instance : Fun Try.prog 42 := ⟨_, _, Try.func42, rfl, by kernel_rfl⟩
instance : Fun Try.prog 43 := ⟨_, _, Try.func43, rfl, by kernel_rfl⟩
instance : Mix Try.prog := ⟨by kernel_rfl⟩
end Go.SX
