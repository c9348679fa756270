/- The types of this translation, as instances. -/
import Derived.Test.YtogkfinbfoglcaaProg
import Derived.Test.YtogkfinbfoglcaaSy
namespace Go.SX
open Go.Proofs
instance : Und Try.prog 1 (.func #[] #[] false) := ⟨Try.underlying1⟩
instance : Inf Try.prog 1 .nilFunc 1 8 := Inf.of (by kernel_rfl)
instance : Und Try.prog 2 (.int .i64) := ⟨Try.underlying2⟩
instance : Inf Try.prog 2 (.int .i64 0) 1 8 := Inf.of (by kernel_rfl)
instance : Und Try.prog 3 (.int .i64) := ⟨Try.underlying3⟩
instance : Inf Try.prog 3 (.int .i64 0) 1 8 := Inf.of (by kernel_rfl)
instance : Und Try.prog 4 .bool := ⟨Try.underlying4⟩
instance : Inf Try.prog 4 (.bool false) 1 1 := Inf.of (by kernel_rfl)
instance : Und Try.prog 5 (.int .u8) := ⟨Try.underlying5⟩
instance : Inf Try.prog 5 (.int .u8 0) 1 1 := Inf.of (by kernel_rfl)
instance : Und Try.prog 6 (.int .u8) := ⟨Try.underlying6⟩
instance : Inf Try.prog 6 (.int .u8 0) 1 1 := Inf.of (by kernel_rfl)
instance : Und Try.prog 7 (.struct #[{ name := "x", type := 2, offset := 0, embedded := false, tag := "", pkgPath := "runtime", byteOffset := 0 }, { name := "y", type := 3, offset := 1, embedded := false, tag := "", pkgPath := "runtime", byteOffset := 8 }, { name := "signed", type := 4, offset := 2, embedded := false, tag := "", pkgPath := "runtime", byteOffset := 16 }, { name := "code", type := 6, offset := 3, embedded := false, tag := "", pkgPath := "runtime", byteOffset := 17 }]) := ⟨Try.underlying7⟩
instance : Inf Try.prog 7 (.agg #[(.int .i64 0), (.int .i64 0), (.bool false), (.int .u8 0)]) 4 24 := Inf.of (by kernel_rfl)
instance : Und Try.prog 8 (.struct #[{ name := "x", type := 2, offset := 0, embedded := false, tag := "", pkgPath := "runtime", byteOffset := 0 }, { name := "y", type := 3, offset := 1, embedded := false, tag := "", pkgPath := "runtime", byteOffset := 8 }, { name := "signed", type := 4, offset := 2, embedded := false, tag := "", pkgPath := "runtime", byteOffset := 16 }, { name := "code", type := 6, offset := 3, embedded := false, tag := "", pkgPath := "runtime", byteOffset := 17 }]) := ⟨Try.underlying8⟩
instance : Inf Try.prog 8 (.agg #[(.int .i64 0), (.int .i64 0), (.bool false), (.int .u8 0)]) 4 24 := Inf.of (by kernel_rfl)
instance : Und Try.prog 9 .string := ⟨Try.underlying9⟩
instance : Inf Try.prog 9 (.string ByteArray.empty) 1 16 := Inf.of (by kernel_rfl)
instance : Und Try.prog 10 .string := ⟨Try.underlying10⟩
instance : Inf Try.prog 10 (.string ByteArray.empty) 1 16 := Inf.of (by kernel_rfl)
instance : Und Try.prog 11 .string := ⟨Try.underlying11⟩
instance : Inf Try.prog 11 (.string ByteArray.empty) 1 16 := Inf.of (by kernel_rfl)
instance : Und Try.prog 12 (.int .u64) := ⟨Try.underlying12⟩
instance : Inf Try.prog 12 (.int .u64 0) 1 8 := Inf.of (by kernel_rfl)
instance : Und Try.prog 13 (.struct #[{ name := "msg", type := 9, offset := 0, embedded := false, tag := "", pkgPath := "runtime", byteOffset := 0 }, { name := "addr", type := 12, offset := 1, embedded := false, tag := "", pkgPath := "runtime", byteOffset := 16 }]) := ⟨Try.underlying13⟩
instance : Inf Try.prog 13 (.agg #[(.string ByteArray.empty), (.int .u64 0)]) 2 24 := Inf.of (by kernel_rfl)
instance : Und Try.prog 14 (.struct #[{ name := "msg", type := 9, offset := 0, embedded := false, tag := "", pkgPath := "runtime", byteOffset := 0 }, { name := "addr", type := 12, offset := 1, embedded := false, tag := "", pkgPath := "runtime", byteOffset := 16 }]) := ⟨Try.underlying14⟩
instance : Inf Try.prog 14 (.agg #[(.string ByteArray.empty), (.int .u64 0)]) 2 24 := Inf.of (by kernel_rfl)
instance : Und Try.prog 15 (.pointer 68) := ⟨Try.underlying15⟩
instance : Inf Try.prog 15 (.pointer none) 1 8 := Inf.of (by kernel_rfl)
instance : Und Try.prog 16 (.pointer 71) := ⟨Try.underlying16⟩
instance : Inf Try.prog 16 (.pointer none) 1 8 := Inf.of (by kernel_rfl)
instance : Und Try.prog 17 (.pointer 80) := ⟨Try.underlying17⟩
instance : Inf Try.prog 17 (.pointer none) 1 8 := Inf.of (by kernel_rfl)
instance : Und Try.prog 18 (.struct #[{ name := "typ", type := 17, offset := 0, embedded := false, tag := "", pkgPath := "internal/runtime/maps", byteOffset := 0 }]) := ⟨Try.underlying18⟩
instance : Inf Try.prog 18 (.agg #[(.pointer none)]) 1 8 := Inf.of (by kernel_rfl)
instance : Und Try.prog 19 (.struct #[{ name := "typ", type := 17, offset := 0, embedded := false, tag := "", pkgPath := "internal/runtime/maps", byteOffset := 0 }]) := ⟨Try.underlying19⟩
instance : Inf Try.prog 19 (.agg #[(.pointer none)]) 1 8 := Inf.of (by kernel_rfl)
instance : Inf Try.prog 20 .nilIface 1 16 := Inf.of (by kernel_rfl)
instance : Und Try.prog 21 (.int .i32) := ⟨Try.underlying21⟩
instance : Inf Try.prog 21 (.int .i32 0) 1 4 := Inf.of (by kernel_rfl)
instance : Und Try.prog 22 (.array 32 5) := ⟨Try.underlying22⟩
instance : Inf Try.prog 22 (.agg #[(.int .u8 0), (.int .u8 0), (.int .u8 0), (.int .u8 0), (.int .u8 0), (.int .u8 0), (.int .u8 0), (.int .u8 0), (.int .u8 0), (.int .u8 0), (.int .u8 0), (.int .u8 0), (.int .u8 0), (.int .u8 0), (.int .u8 0), (.int .u8 0), (.int .u8 0), (.int .u8 0), (.int .u8 0), (.int .u8 0), (.int .u8 0), (.int .u8 0), (.int .u8 0), (.int .u8 0), (.int .u8 0), (.int .u8 0), (.int .u8 0), (.int .u8 0), (.int .u8 0), (.int .u8 0), (.int .u8 0), (.int .u8 0)]) 32 32 := Inf.of (by kernel_rfl)
instance : Und Try.prog 23 (.array 32 5) := ⟨Try.underlying23⟩
instance : Inf Try.prog 23 (.agg #[(.int .u8 0), (.int .u8 0), (.int .u8 0), (.int .u8 0), (.int .u8 0), (.int .u8 0), (.int .u8 0), (.int .u8 0), (.int .u8 0), (.int .u8 0), (.int .u8 0), (.int .u8 0), (.int .u8 0), (.int .u8 0), (.int .u8 0), (.int .u8 0), (.int .u8 0), (.int .u8 0), (.int .u8 0), (.int .u8 0), (.int .u8 0), (.int .u8 0), (.int .u8 0), (.int .u8 0), (.int .u8 0), (.int .u8 0), (.int .u8 0), (.int .u8 0), (.int .u8 0), (.int .u8 0), (.int .u8 0), (.int .u8 0)]) 32 32 := Inf.of (by kernel_rfl)
instance : Und Try.prog 24 (.struct #[{ name := "Rotate", type := 4, offset := 0, embedded := false, tag := "", pkgPath := "", byteOffset := 0 }, { name := "Cursor", type := 23, offset := 1, embedded := false, tag := "", pkgPath := "", byteOffset := 1 }, { name := "Patience", type := 3, offset := 33, embedded := false, tag := "", pkgPath := "", byteOffset := 40 }]) := ⟨Try.underlying24⟩
instance : Inf Try.prog 24 (.agg #[(.bool false), (.int .u8 0), (.int .u8 0), (.int .u8 0), (.int .u8 0), (.int .u8 0), (.int .u8 0), (.int .u8 0), (.int .u8 0), (.int .u8 0), (.int .u8 0), (.int .u8 0), (.int .u8 0), (.int .u8 0), (.int .u8 0), (.int .u8 0), (.int .u8 0), (.int .u8 0), (.int .u8 0), (.int .u8 0), (.int .u8 0), (.int .u8 0), (.int .u8 0), (.int .u8 0), (.int .u8 0), (.int .u8 0), (.int .u8 0), (.int .u8 0), (.int .u8 0), (.int .u8 0), (.int .u8 0), (.int .u8 0), (.int .u8 0), (.int .i64 0)]) 34 48 := Inf.of (by kernel_rfl)
instance : Und Try.prog 25 (.struct #[{ name := "Rotate", type := 4, offset := 0, embedded := false, tag := "", pkgPath := "", byteOffset := 0 }, { name := "Cursor", type := 23, offset := 1, embedded := false, tag := "", pkgPath := "", byteOffset := 1 }, { name := "Patience", type := 3, offset := 33, embedded := false, tag := "", pkgPath := "", byteOffset := 40 }]) := ⟨Try.underlying25⟩
instance : Inf Try.prog 25 (.agg #[(.bool false), (.int .u8 0), (.int .u8 0), (.int .u8 0), (.int .u8 0), (.int .u8 0), (.int .u8 0), (.int .u8 0), (.int .u8 0), (.int .u8 0), (.int .u8 0), (.int .u8 0), (.int .u8 0), (.int .u8 0), (.int .u8 0), (.int .u8 0), (.int .u8 0), (.int .u8 0), (.int .u8 0), (.int .u8 0), (.int .u8 0), (.int .u8 0), (.int .u8 0), (.int .u8 0), (.int .u8 0), (.int .u8 0), (.int .u8 0), (.int .u8 0), (.int .u8 0), (.int .u8 0), (.int .u8 0), (.int .u8 0), (.int .u8 0), (.int .i64 0)]) 34 48 := Inf.of (by kernel_rfl)
instance : Und Try.prog 26 (.slice 38) := ⟨Try.underlying26⟩
instance : Inf Try.prog 26 (.slice none 0 0) 1 24 := Inf.of (by kernel_rfl)
instance : Und Try.prog 27 (.pointer 57) := ⟨Try.underlying27⟩
instance : Inf Try.prog 27 (.pointer none) 1 8 := Inf.of (by kernel_rfl)
instance : Und Try.prog 28 (.int .i64) := ⟨Try.underlying28⟩
instance : Inf Try.prog 28 (.int .i64 0) 1 8 := Inf.of (by kernel_rfl)
instance : Und Try.prog 30 (.func #[4, 23, 3] #[27, 28] false) := ⟨Try.underlying30⟩
instance : Inf Try.prog 30 .nilFunc 1 8 := Inf.of (by kernel_rfl)
instance : Und Try.prog 31 (.pointer 59) := ⟨Try.underlying31⟩
instance : Inf Try.prog 31 (.pointer none) 1 8 := Inf.of (by kernel_rfl)
instance : Und Try.prog 33 (.func #[4, 23, 3] #[31, 28] false) := ⟨Try.underlying33⟩
instance : Inf Try.prog 33 .nilFunc 1 8 := Inf.of (by kernel_rfl)
instance : Und Try.prog 34 (.slice 5) := ⟨Try.underlying34⟩
instance : Inf Try.prog 34 (.slice none 0 0) 1 24 := Inf.of (by kernel_rfl)
instance : Und Try.prog 35 (.struct #[{ name := "Code", type := 28, offset := 0, embedded := false, tag := "", pkgPath := "", byteOffset := 0 }, { name := "Value", type := 34, offset := 1, embedded := false, tag := "", pkgPath := "", byteOffset := 8 }, { name := "Tomb", type := 4, offset := 2, embedded := false, tag := "", pkgPath := "", byteOffset := 32 }, { name := "Version", type := 3, offset := 3, embedded := false, tag := "", pkgPath := "", byteOffset := 40 }, { name := "First", type := 3, offset := 4, embedded := false, tag := "", pkgPath := "", byteOffset := 48 }, { name := "Last", type := 3, offset := 5, embedded := false, tag := "", pkgPath := "", byteOffset := 56 }]) := ⟨Try.underlying35⟩
instance : Inf Try.prog 35 (.agg #[(.int .i64 0), (.slice none 0 0), (.bool false), (.int .i64 0), (.int .i64 0), (.int .i64 0)]) 6 64 := Inf.of (by kernel_rfl)
instance : Und Try.prog 36 (.struct #[{ name := "Code", type := 28, offset := 0, embedded := false, tag := "", pkgPath := "", byteOffset := 0 }, { name := "Value", type := 34, offset := 1, embedded := false, tag := "", pkgPath := "", byteOffset := 8 }, { name := "Tomb", type := 4, offset := 2, embedded := false, tag := "", pkgPath := "", byteOffset := 32 }, { name := "Version", type := 3, offset := 3, embedded := false, tag := "", pkgPath := "", byteOffset := 40 }, { name := "First", type := 3, offset := 4, embedded := false, tag := "", pkgPath := "", byteOffset := 48 }, { name := "Last", type := 3, offset := 5, embedded := false, tag := "", pkgPath := "", byteOffset := 56 }]) := ⟨Try.underlying36⟩
instance : Inf Try.prog 36 (.agg #[(.int .i64 0), (.slice none 0 0), (.bool false), (.int .i64 0), (.int .i64 0), (.int .i64 0)]) 6 64 := Inf.of (by kernel_rfl)
instance : Und Try.prog 37 (.struct #[{ name := "Next", type := 4, offset := 0, embedded := false, tag := "", pkgPath := "", byteOffset := 0 }, { name := "G", type := 36, offset := 1, embedded := false, tag := "", pkgPath := "", byteOffset := 8 }]) := ⟨Try.underlying37⟩
instance : Inf Try.prog 37 (.agg #[(.bool false), (.int .i64 0), (.slice none 0 0), (.bool false), (.int .i64 0), (.int .i64 0), (.int .i64 0)]) 7 72 := Inf.of (by kernel_rfl)
instance : Und Try.prog 38 (.struct #[{ name := "Next", type := 4, offset := 0, embedded := false, tag := "", pkgPath := "", byteOffset := 0 }, { name := "G", type := 36, offset := 1, embedded := false, tag := "", pkgPath := "", byteOffset := 8 }]) := ⟨Try.underlying38⟩
instance : Inf Try.prog 38 (.agg #[(.bool false), (.int .i64 0), (.slice none 0 0), (.bool false), (.int .i64 0), (.int .i64 0), (.int .i64 0)]) 7 72 := Inf.of (by kernel_rfl)
instance : Und Try.prog 39 (.struct #[{ name := "Kind", type := 3, offset := 0, embedded := false, tag := "", pkgPath := "", byteOffset := 0 }, { name := "Key", type := 34, offset := 1, embedded := false, tag := "", pkgPath := "", byteOffset := 8 }, { name := "Value", type := 34, offset := 2, embedded := false, tag := "", pkgPath := "", byteOffset := 32 }, { name := "Want", type := 3, offset := 3, embedded := false, tag := "", pkgPath := "", byteOffset := 56 }]) := ⟨Try.underlying39⟩
instance : Inf Try.prog 39 (.agg #[(.int .i64 0), (.slice none 0 0), (.slice none 0 0), (.int .i64 0)]) 4 64 := Inf.of (by kernel_rfl)
instance : Und Try.prog 40 (.struct #[{ name := "Kind", type := 3, offset := 0, embedded := false, tag := "", pkgPath := "", byteOffset := 0 }, { name := "Key", type := 34, offset := 1, embedded := false, tag := "", pkgPath := "", byteOffset := 8 }, { name := "Value", type := 34, offset := 2, embedded := false, tag := "", pkgPath := "", byteOffset := 32 }, { name := "Want", type := 3, offset := 3, embedded := false, tag := "", pkgPath := "", byteOffset := 56 }]) := ⟨Try.underlying40⟩
instance : Inf Try.prog 40 (.agg #[(.int .i64 0), (.slice none 0 0), (.slice none 0 0), (.int .i64 0)]) 4 64 := Inf.of (by kernel_rfl)
instance : Und Try.prog 42 (.func #[] #[40, 28] false) := ⟨Try.underlying42⟩
instance : Inf Try.prog 42 .nilFunc 1 8 := Inf.of (by kernel_rfl)
instance : Und Try.prog 43 (.func #[36] #[28] false) := ⟨Try.underlying43⟩
instance : Inf Try.prog 43 .nilFunc 1 8 := Inf.of (by kernel_rfl)
instance : Und Try.prog 44 (.func #[27, 31] #[4] false) := ⟨Try.underlying44⟩
instance : Inf Try.prog 44 .nilFunc 1 8 := Inf.of (by kernel_rfl)
instance : Und Try.prog 45 (.func #[] #[4] false) := ⟨Try.underlying45⟩
instance : Inf Try.prog 45 .nilFunc 1 8 := Inf.of (by kernel_rfl)
instance : Und Try.prog 46 (.func #[25, 26] #[4] false) := ⟨Try.underlying46⟩
instance : Inf Try.prog 46 .nilFunc 1 8 := Inf.of (by kernel_rfl)
instance : Und Try.prog 47 (.slice 3) := ⟨Try.underlying47⟩
instance : Inf Try.prog 47 (.slice none 0 0) 1 24 := Inf.of (by kernel_rfl)
instance : Und Try.prog 48 (.slice 28) := ⟨Try.underlying48⟩
instance : Inf Try.prog 48 (.slice none 0 0) 1 24 := Inf.of (by kernel_rfl)
instance : Und Try.prog 49 (.func #[3, 3] #[3] false) := ⟨Try.underlying49⟩
instance : Inf Try.prog 49 .nilFunc 1 8 := Inf.of (by kernel_rfl)
instance : Und Try.prog 50 (.func #[27, 3, 36] #[4] false) := ⟨Try.underlying50⟩
instance : Inf Try.prog 50 .nilFunc 1 8 := Inf.of (by kernel_rfl)
instance : Und Try.prog 51 (.func #[] #[3] false) := ⟨Try.underlying51⟩
instance : Inf Try.prog 51 .nilFunc 1 8 := Inf.of (by kernel_rfl)
instance : Und Try.prog 52 (.func #[27, 3, 28] #[4] false) := ⟨Try.underlying52⟩
instance : Inf Try.prog 52 .nilFunc 1 8 := Inf.of (by kernel_rfl)
instance : Und Try.prog 53 (.func #[] #[28] false) := ⟨Try.underlying53⟩
instance : Inf Try.prog 53 .nilFunc 1 8 := Inf.of (by kernel_rfl)
instance : Und Try.prog 54 (.func #[4, 4, 47] #[4] false) := ⟨Try.underlying54⟩
instance : Inf Try.prog 54 .nilFunc 1 8 := Inf.of (by kernel_rfl)
instance : Und Try.prog 55 (.func #[3, 47] #[4] false) := ⟨Try.underlying55⟩
instance : Inf Try.prog 55 .nilFunc 1 8 := Inf.of (by kernel_rfl)
instance : Und Try.prog 56 (.struct #[{ name := "phase", type := 3, offset := 0, embedded := false, tag := "", pkgPath := "sealchain/sweep", byteOffset := 0 }, { name := "on", type := 3, offset := 1, embedded := false, tag := "", pkgPath := "sealchain/sweep", byteOffset := 8 }, { name := "patience", type := 3, offset := 2, embedded := false, tag := "", pkgPath := "sealchain/sweep", byteOffset := 16 }, { name := "late", type := 3, offset := 3, embedded := false, tag := "", pkgPath := "sealchain/sweep", byteOffset := 24 }, { name := "seen", type := 3, offset := 4, embedded := false, tag := "", pkgPath := "sealchain/sweep", byteOffset := 32 }, { name := "sealed", type := 3, offset := 5, embedded := false, tag := "", pkgPath := "sealchain/sweep", byteOffset := 40 }, { name := "waits", type := 4, offset := 6, embedded := false, tag := "", pkgPath := "sealchain/sweep", byteOffset := 48 }, { name := "why", type := 28, offset := 7, embedded := false, tag := "", pkgPath := "sealchain/sweep", byteOffset := 56 }, { name := "made", type := 4, offset := 8, embedded := false, tag := "", pkgPath := "sealchain/sweep", byteOffset := 64 }]) := ⟨Try.underlying56⟩
instance : Inf Try.prog 56 (.agg #[(.int .i64 0), (.int .i64 0), (.int .i64 0), (.int .i64 0), (.int .i64 0), (.int .i64 0), (.bool false), (.int .i64 0), (.bool false)]) 9 72 := Inf.of (by kernel_rfl)
instance : Und Try.prog 57 (.struct #[{ name := "phase", type := 3, offset := 0, embedded := false, tag := "", pkgPath := "sealchain/sweep", byteOffset := 0 }, { name := "on", type := 3, offset := 1, embedded := false, tag := "", pkgPath := "sealchain/sweep", byteOffset := 8 }, { name := "patience", type := 3, offset := 2, embedded := false, tag := "", pkgPath := "sealchain/sweep", byteOffset := 16 }, { name := "late", type := 3, offset := 3, embedded := false, tag := "", pkgPath := "sealchain/sweep", byteOffset := 24 }, { name := "seen", type := 3, offset := 4, embedded := false, tag := "", pkgPath := "sealchain/sweep", byteOffset := 32 }, { name := "sealed", type := 3, offset := 5, embedded := false, tag := "", pkgPath := "sealchain/sweep", byteOffset := 40 }, { name := "waits", type := 4, offset := 6, embedded := false, tag := "", pkgPath := "sealchain/sweep", byteOffset := 48 }, { name := "why", type := 28, offset := 7, embedded := false, tag := "", pkgPath := "sealchain/sweep", byteOffset := 56 }, { name := "made", type := 4, offset := 8, embedded := false, tag := "", pkgPath := "sealchain/sweep", byteOffset := 64 }]) := ⟨Try.underlying57⟩
instance : Inf Try.prog 57 (.agg #[(.int .i64 0), (.int .i64 0), (.int .i64 0), (.int .i64 0), (.int .i64 0), (.int .i64 0), (.bool false), (.int .i64 0), (.bool false)]) 9 72 := Inf.of (by kernel_rfl)
instance : Und Try.prog 58 (.struct #[{ name := "P", type := 3, offset := 0, embedded := false, tag := "", pkgPath := "", byteOffset := 0 }, { name := "On", type := 3, offset := 1, embedded := false, tag := "", pkgPath := "", byteOffset := 8 }, { name := "Patience", type := 3, offset := 2, embedded := false, tag := "", pkgPath := "", byteOffset := 16 }, { name := "Late", type := 3, offset := 3, embedded := false, tag := "", pkgPath := "", byteOffset := 24 }, { name := "Many", type := 3, offset := 4, embedded := false, tag := "", pkgPath := "", byteOffset := 32 }, { name := "New", type := 3, offset := 5, embedded := false, tag := "", pkgPath := "", byteOffset := 40 }, { name := "Wait", type := 4, offset := 6, embedded := false, tag := "", pkgPath := "", byteOffset := 48 }, { name := "E", type := 28, offset := 7, embedded := false, tag := "", pkgPath := "", byteOffset := 56 }]) := ⟨Try.underlying58⟩
instance : Inf Try.prog 58 (.agg #[(.int .i64 0), (.int .i64 0), (.int .i64 0), (.int .i64 0), (.int .i64 0), (.int .i64 0), (.bool false), (.int .i64 0)]) 8 64 := Inf.of (by kernel_rfl)
instance : Und Try.prog 59 (.struct #[{ name := "P", type := 3, offset := 0, embedded := false, tag := "", pkgPath := "", byteOffset := 0 }, { name := "On", type := 3, offset := 1, embedded := false, tag := "", pkgPath := "", byteOffset := 8 }, { name := "Patience", type := 3, offset := 2, embedded := false, tag := "", pkgPath := "", byteOffset := 16 }, { name := "Late", type := 3, offset := 3, embedded := false, tag := "", pkgPath := "", byteOffset := 24 }, { name := "Many", type := 3, offset := 4, embedded := false, tag := "", pkgPath := "", byteOffset := 32 }, { name := "New", type := 3, offset := 5, embedded := false, tag := "", pkgPath := "", byteOffset := 40 }, { name := "Wait", type := 4, offset := 6, embedded := false, tag := "", pkgPath := "", byteOffset := 48 }, { name := "E", type := 28, offset := 7, embedded := false, tag := "", pkgPath := "", byteOffset := 56 }]) := ⟨Try.underlying59⟩
instance : Inf Try.prog 59 (.agg #[(.int .i64 0), (.int .i64 0), (.int .i64 0), (.int .i64 0), (.int .i64 0), (.int .i64 0), (.bool false), (.int .i64 0)]) 8 64 := Inf.of (by kernel_rfl)
instance : Und Try.prog 60 (.func #[27, 36] #[4] false) := ⟨Try.underlying60⟩
instance : Inf Try.prog 60 .nilFunc 1 8 := Inf.of (by kernel_rfl)
instance : Und Try.prog 61 (.struct #[{ name := "kind", type := 3, offset := 0, embedded := false, tag := "", pkgPath := "sealchain/sweep", byteOffset := 0 }, { name := "took", type := 60, offset := 1, embedded := false, tag := "", pkgPath := "sealchain/sweep", byteOffset := 8 }]) := ⟨Try.underlying61⟩
instance : Inf Try.prog 61 (.agg #[(.int .i64 0), .nilFunc]) 2 16 := Inf.of (by kernel_rfl)
instance : Und Try.prog 62 (.struct #[{ name := "kind", type := 3, offset := 0, embedded := false, tag := "", pkgPath := "sealchain/sweep", byteOffset := 0 }, { name := "took", type := 60, offset := 1, embedded := false, tag := "", pkgPath := "sealchain/sweep", byteOffset := 8 }]) := ⟨Try.underlying62⟩
instance : Inf Try.prog 62 (.agg #[(.int .i64 0), .nilFunc]) 2 16 := Inf.of (by kernel_rfl)
instance : Und Try.prog 63 (.array 6 62) := ⟨Try.underlying63⟩
instance : Inf Try.prog 63 (.agg #[(.int .i64 0), .nilFunc, (.int .i64 0), .nilFunc, (.int .i64 0), .nilFunc, (.int .i64 0), .nilFunc, (.int .i64 0), .nilFunc, (.int .i64 0), .nilFunc]) 12 96 := Inf.of (by kernel_rfl)
instance : Und Try.prog 64 (.func #[] #[63] false) := ⟨Try.underlying64⟩
instance : Inf Try.prog 64 .nilFunc 1 8 := Inf.of (by kernel_rfl)
instance : Und Try.prog 65 (.func #[28] #[] false) := ⟨Try.underlying65⟩
instance : Inf Try.prog 65 .nilFunc 1 8 := Inf.of (by kernel_rfl)
instance : Und Try.prog 66 (.func #[] #[9] false) := ⟨Try.underlying66⟩
instance : Inf Try.prog 66 .nilFunc 1 8 := Inf.of (by kernel_rfl)
instance : Und Try.prog 67 (.struct #[{ name := "_interface", type := 17, offset := 0, embedded := false, tag := "", pkgPath := "runtime", byteOffset := 0 }, { name := "concrete", type := 17, offset := 1, embedded := false, tag := "", pkgPath := "runtime", byteOffset := 8 }, { name := "asserted", type := 17, offset := 2, embedded := false, tag := "", pkgPath := "runtime", byteOffset := 16 }, { name := "missingMethod", type := 9, offset := 3, embedded := false, tag := "", pkgPath := "runtime", byteOffset := 24 }]) := ⟨Try.underlying67⟩
instance : Inf Try.prog 67 (.agg #[(.pointer none), (.pointer none), (.pointer none), (.string ByteArray.empty)]) 4 40 := Inf.of (by kernel_rfl)
instance : Und Try.prog 68 (.struct #[{ name := "_interface", type := 17, offset := 0, embedded := false, tag := "", pkgPath := "runtime", byteOffset := 0 }, { name := "concrete", type := 17, offset := 1, embedded := false, tag := "", pkgPath := "runtime", byteOffset := 8 }, { name := "asserted", type := 17, offset := 2, embedded := false, tag := "", pkgPath := "runtime", byteOffset := 16 }, { name := "missingMethod", type := 9, offset := 3, embedded := false, tag := "", pkgPath := "runtime", byteOffset := 24 }]) := ⟨Try.underlying68⟩
instance : Inf Try.prog 68 (.agg #[(.pointer none), (.pointer none), (.pointer none), (.string ByteArray.empty)]) 4 40 := Inf.of (by kernel_rfl)
instance : Und Try.prog 69 (.array 0 16) := ⟨Try.underlying69⟩
instance : Inf Try.prog 69 (.agg #[]) 0 0 := Inf.of (by kernel_rfl)
instance : Und Try.prog 70 (.struct #[{ name := "_", type := 69, offset := 0, embedded := false, tag := "", pkgPath := "runtime", byteOffset := 0 }]) := ⟨Try.underlying70⟩
instance : Inf Try.prog 70 (.agg #[]) 0 0 := Inf.of (by kernel_rfl)
instance : Und Try.prog 71 (.struct #[{ name := "_", type := 69, offset := 0, embedded := false, tag := "", pkgPath := "runtime", byteOffset := 0 }]) := ⟨Try.underlying71⟩
instance : Inf Try.prog 71 (.agg #[]) 0 0 := Inf.of (by kernel_rfl)
instance : Und Try.prog 72 (.int .u32) := ⟨Try.underlying72⟩
instance : Inf Try.prog 72 (.int .u32 0) 1 4 := Inf.of (by kernel_rfl)
instance : Und Try.prog 73 (.int .u8) := ⟨Try.underlying73⟩
instance : Inf Try.prog 73 (.int .u8 0) 1 1 := Inf.of (by kernel_rfl)
instance : Und Try.prog 74 (.int .u8) := ⟨Try.underlying74⟩
instance : Inf Try.prog 74 (.int .u8 0) 1 1 := Inf.of (by kernel_rfl)
instance : Und Try.prog 75 (.func #[81, 81] #[4] false) := ⟨Try.underlying75⟩
instance : Inf Try.prog 75 .nilFunc 1 8 := Inf.of (by kernel_rfl)
instance : Und Try.prog 76 (.pointer 5) := ⟨Try.underlying76⟩
instance : Inf Try.prog 76 (.pointer none) 1 8 := Inf.of (by kernel_rfl)
instance : Und Try.prog 77 (.int .i32) := ⟨Try.underlying77⟩
instance : Inf Try.prog 77 (.int .i32 0) 1 4 := Inf.of (by kernel_rfl)
instance : Und Try.prog 78 (.int .i32) := ⟨Try.underlying78⟩
instance : Inf Try.prog 78 (.int .i32 0) 1 4 := Inf.of (by kernel_rfl)
instance : Und Try.prog 79 (.struct #[{ name := "Size_", type := 12, offset := 0, embedded := false, tag := "", pkgPath := "", byteOffset := 0 }, { name := "PtrBytes", type := 12, offset := 1, embedded := false, tag := "", pkgPath := "", byteOffset := 8 }, { name := "Hash", type := 72, offset := 2, embedded := false, tag := "", pkgPath := "", byteOffset := 16 }, { name := "TFlag", type := 73, offset := 3, embedded := false, tag := "", pkgPath := "", byteOffset := 20 }, { name := "Align_", type := 5, offset := 4, embedded := false, tag := "", pkgPath := "", byteOffset := 21 }, { name := "FieldAlign_", type := 5, offset := 5, embedded := false, tag := "", pkgPath := "", byteOffset := 22 }, { name := "Kind_", type := 74, offset := 6, embedded := false, tag := "", pkgPath := "", byteOffset := 23 }, { name := "Equal", type := 75, offset := 7, embedded := false, tag := "", pkgPath := "", byteOffset := 24 }, { name := "GCData", type := 76, offset := 8, embedded := false, tag := "", pkgPath := "", byteOffset := 32 }, { name := "Str", type := 77, offset := 9, embedded := false, tag := "", pkgPath := "", byteOffset := 40 }, { name := "PtrToThis", type := 78, offset := 10, embedded := false, tag := "", pkgPath := "", byteOffset := 44 }]) := ⟨Try.underlying79⟩
instance : Inf Try.prog 79 (.agg #[(.int .u64 0), (.int .u64 0), (.int .u32 0), (.int .u8 0), (.int .u8 0), (.int .u8 0), (.int .u8 0), .nilFunc, (.pointer none), (.int .i32 0), (.int .i32 0)]) 11 48 := Inf.of (by kernel_rfl)
instance : Und Try.prog 80 (.struct #[{ name := "Size_", type := 12, offset := 0, embedded := false, tag := "", pkgPath := "", byteOffset := 0 }, { name := "PtrBytes", type := 12, offset := 1, embedded := false, tag := "", pkgPath := "", byteOffset := 8 }, { name := "Hash", type := 72, offset := 2, embedded := false, tag := "", pkgPath := "", byteOffset := 16 }, { name := "TFlag", type := 73, offset := 3, embedded := false, tag := "", pkgPath := "", byteOffset := 20 }, { name := "Align_", type := 5, offset := 4, embedded := false, tag := "", pkgPath := "", byteOffset := 21 }, { name := "FieldAlign_", type := 5, offset := 5, embedded := false, tag := "", pkgPath := "", byteOffset := 22 }, { name := "Kind_", type := 74, offset := 6, embedded := false, tag := "", pkgPath := "", byteOffset := 23 }, { name := "Equal", type := 75, offset := 7, embedded := false, tag := "", pkgPath := "", byteOffset := 24 }, { name := "GCData", type := 76, offset := 8, embedded := false, tag := "", pkgPath := "", byteOffset := 32 }, { name := "Str", type := 77, offset := 9, embedded := false, tag := "", pkgPath := "", byteOffset := 40 }, { name := "PtrToThis", type := 78, offset := 10, embedded := false, tag := "", pkgPath := "", byteOffset := 44 }]) := ⟨Try.underlying80⟩
instance : Inf Try.prog 80 (.agg #[(.int .u64 0), (.int .u64 0), (.int .u32 0), (.int .u8 0), (.int .u8 0), (.int .u8 0), (.int .u8 0), .nilFunc, (.pointer none), (.int .i32 0), (.int .i32 0)]) 11 48 := Inf.of (by kernel_rfl)
instance : Und Try.prog 81 .unsafePointer := ⟨Try.underlying81⟩
instance : Inf Try.prog 81 (.pointer none) 1 8 := Inf.of (by kernel_rfl)
set_option maxRecDepth 100000 in
abbrev Trytt : TT := [(1, (.func #[] #[] false), some (.nilFunc, 1, 8)),
  (2, (.int .i64), some ((.int .i64 0), 1, 8)),
  (3, (.int .i64), some ((.int .i64 0), 1, 8)),
  (4, .bool, some ((.bool false), 1, 1)),
  (5, (.int .u8), some ((.int .u8 0), 1, 1)),
  (6, (.int .u8), some ((.int .u8 0), 1, 1)),
  (7, (.struct #[{ name := "x", type := 2, offset := 0, embedded := false, tag := "", pkgPath := "runtime", byteOffset := 0 }, { name := "y", type := 3, offset := 1, embedded := false, tag := "", pkgPath := "runtime", byteOffset := 8 }, { name := "signed", type := 4, offset := 2, embedded := false, tag := "", pkgPath := "runtime", byteOffset := 16 }, { name := "code", type := 6, offset := 3, embedded := false, tag := "", pkgPath := "runtime", byteOffset := 17 }]), some ((.agg #[(.int .i64 0), (.int .i64 0), (.bool false), (.int .u8 0)]), 4, 24)),
  (8, (.struct #[{ name := "x", type := 2, offset := 0, embedded := false, tag := "", pkgPath := "runtime", byteOffset := 0 }, { name := "y", type := 3, offset := 1, embedded := false, tag := "", pkgPath := "runtime", byteOffset := 8 }, { name := "signed", type := 4, offset := 2, embedded := false, tag := "", pkgPath := "runtime", byteOffset := 16 }, { name := "code", type := 6, offset := 3, embedded := false, tag := "", pkgPath := "runtime", byteOffset := 17 }]), some ((.agg #[(.int .i64 0), (.int .i64 0), (.bool false), (.int .u8 0)]), 4, 24)),
  (9, .string, some ((.string ByteArray.empty), 1, 16)),
  (10, .string, some ((.string ByteArray.empty), 1, 16)),
  (11, .string, some ((.string ByteArray.empty), 1, 16)),
  (12, (.int .u64), some ((.int .u64 0), 1, 8)),
  (13, (.struct #[{ name := "msg", type := 9, offset := 0, embedded := false, tag := "", pkgPath := "runtime", byteOffset := 0 }, { name := "addr", type := 12, offset := 1, embedded := false, tag := "", pkgPath := "runtime", byteOffset := 16 }]), some ((.agg #[(.string ByteArray.empty), (.int .u64 0)]), 2, 24)),
  (14, (.struct #[{ name := "msg", type := 9, offset := 0, embedded := false, tag := "", pkgPath := "runtime", byteOffset := 0 }, { name := "addr", type := 12, offset := 1, embedded := false, tag := "", pkgPath := "runtime", byteOffset := 16 }]), some ((.agg #[(.string ByteArray.empty), (.int .u64 0)]), 2, 24)),
  (15, (.pointer 68), some ((.pointer none), 1, 8)),
  (16, (.pointer 71), some ((.pointer none), 1, 8)),
  (17, (.pointer 80), some ((.pointer none), 1, 8)),
  (18, (.struct #[{ name := "typ", type := 17, offset := 0, embedded := false, tag := "", pkgPath := "internal/runtime/maps", byteOffset := 0 }]), some ((.agg #[(.pointer none)]), 1, 8)),
  (19, (.struct #[{ name := "typ", type := 17, offset := 0, embedded := false, tag := "", pkgPath := "internal/runtime/maps", byteOffset := 0 }]), some ((.agg #[(.pointer none)]), 1, 8)),
  (21, (.int .i32), some ((.int .i32 0), 1, 4)),
  (22, (.array 32 5), some ((.agg #[(.int .u8 0), (.int .u8 0), (.int .u8 0), (.int .u8 0), (.int .u8 0), (.int .u8 0), (.int .u8 0), (.int .u8 0), (.int .u8 0), (.int .u8 0), (.int .u8 0), (.int .u8 0), (.int .u8 0), (.int .u8 0), (.int .u8 0), (.int .u8 0), (.int .u8 0), (.int .u8 0), (.int .u8 0), (.int .u8 0), (.int .u8 0), (.int .u8 0), (.int .u8 0), (.int .u8 0), (.int .u8 0), (.int .u8 0), (.int .u8 0), (.int .u8 0), (.int .u8 0), (.int .u8 0), (.int .u8 0), (.int .u8 0)]), 32, 32)),
  (23, (.array 32 5), some ((.agg #[(.int .u8 0), (.int .u8 0), (.int .u8 0), (.int .u8 0), (.int .u8 0), (.int .u8 0), (.int .u8 0), (.int .u8 0), (.int .u8 0), (.int .u8 0), (.int .u8 0), (.int .u8 0), (.int .u8 0), (.int .u8 0), (.int .u8 0), (.int .u8 0), (.int .u8 0), (.int .u8 0), (.int .u8 0), (.int .u8 0), (.int .u8 0), (.int .u8 0), (.int .u8 0), (.int .u8 0), (.int .u8 0), (.int .u8 0), (.int .u8 0), (.int .u8 0), (.int .u8 0), (.int .u8 0), (.int .u8 0), (.int .u8 0)]), 32, 32)),
  (24, (.struct #[{ name := "Rotate", type := 4, offset := 0, embedded := false, tag := "", pkgPath := "", byteOffset := 0 }, { name := "Cursor", type := 23, offset := 1, embedded := false, tag := "", pkgPath := "", byteOffset := 1 }, { name := "Patience", type := 3, offset := 33, embedded := false, tag := "", pkgPath := "", byteOffset := 40 }]), some ((.agg #[(.bool false), (.int .u8 0), (.int .u8 0), (.int .u8 0), (.int .u8 0), (.int .u8 0), (.int .u8 0), (.int .u8 0), (.int .u8 0), (.int .u8 0), (.int .u8 0), (.int .u8 0), (.int .u8 0), (.int .u8 0), (.int .u8 0), (.int .u8 0), (.int .u8 0), (.int .u8 0), (.int .u8 0), (.int .u8 0), (.int .u8 0), (.int .u8 0), (.int .u8 0), (.int .u8 0), (.int .u8 0), (.int .u8 0), (.int .u8 0), (.int .u8 0), (.int .u8 0), (.int .u8 0), (.int .u8 0), (.int .u8 0), (.int .u8 0), (.int .i64 0)]), 34, 48)),
  (25, (.struct #[{ name := "Rotate", type := 4, offset := 0, embedded := false, tag := "", pkgPath := "", byteOffset := 0 }, { name := "Cursor", type := 23, offset := 1, embedded := false, tag := "", pkgPath := "", byteOffset := 1 }, { name := "Patience", type := 3, offset := 33, embedded := false, tag := "", pkgPath := "", byteOffset := 40 }]), some ((.agg #[(.bool false), (.int .u8 0), (.int .u8 0), (.int .u8 0), (.int .u8 0), (.int .u8 0), (.int .u8 0), (.int .u8 0), (.int .u8 0), (.int .u8 0), (.int .u8 0), (.int .u8 0), (.int .u8 0), (.int .u8 0), (.int .u8 0), (.int .u8 0), (.int .u8 0), (.int .u8 0), (.int .u8 0), (.int .u8 0), (.int .u8 0), (.int .u8 0), (.int .u8 0), (.int .u8 0), (.int .u8 0), (.int .u8 0), (.int .u8 0), (.int .u8 0), (.int .u8 0), (.int .u8 0), (.int .u8 0), (.int .u8 0), (.int .u8 0), (.int .i64 0)]), 34, 48)),
  (26, (.slice 38), some ((.slice none 0 0), 1, 24)),
  (27, (.pointer 57), some ((.pointer none), 1, 8)),
  (28, (.int .i64), some ((.int .i64 0), 1, 8)),
  (30, (.func #[4, 23, 3] #[27, 28] false), some (.nilFunc, 1, 8)),
  (31, (.pointer 59), some ((.pointer none), 1, 8)),
  (33, (.func #[4, 23, 3] #[31, 28] false), some (.nilFunc, 1, 8)),
  (34, (.slice 5), some ((.slice none 0 0), 1, 24)),
  (35, (.struct #[{ name := "Code", type := 28, offset := 0, embedded := false, tag := "", pkgPath := "", byteOffset := 0 }, { name := "Value", type := 34, offset := 1, embedded := false, tag := "", pkgPath := "", byteOffset := 8 }, { name := "Tomb", type := 4, offset := 2, embedded := false, tag := "", pkgPath := "", byteOffset := 32 }, { name := "Version", type := 3, offset := 3, embedded := false, tag := "", pkgPath := "", byteOffset := 40 }, { name := "First", type := 3, offset := 4, embedded := false, tag := "", pkgPath := "", byteOffset := 48 }, { name := "Last", type := 3, offset := 5, embedded := false, tag := "", pkgPath := "", byteOffset := 56 }]), some ((.agg #[(.int .i64 0), (.slice none 0 0), (.bool false), (.int .i64 0), (.int .i64 0), (.int .i64 0)]), 6, 64)),
  (36, (.struct #[{ name := "Code", type := 28, offset := 0, embedded := false, tag := "", pkgPath := "", byteOffset := 0 }, { name := "Value", type := 34, offset := 1, embedded := false, tag := "", pkgPath := "", byteOffset := 8 }, { name := "Tomb", type := 4, offset := 2, embedded := false, tag := "", pkgPath := "", byteOffset := 32 }, { name := "Version", type := 3, offset := 3, embedded := false, tag := "", pkgPath := "", byteOffset := 40 }, { name := "First", type := 3, offset := 4, embedded := false, tag := "", pkgPath := "", byteOffset := 48 }, { name := "Last", type := 3, offset := 5, embedded := false, tag := "", pkgPath := "", byteOffset := 56 }]), some ((.agg #[(.int .i64 0), (.slice none 0 0), (.bool false), (.int .i64 0), (.int .i64 0), (.int .i64 0)]), 6, 64)),
  (37, (.struct #[{ name := "Next", type := 4, offset := 0, embedded := false, tag := "", pkgPath := "", byteOffset := 0 }, { name := "G", type := 36, offset := 1, embedded := false, tag := "", pkgPath := "", byteOffset := 8 }]), some ((.agg #[(.bool false), (.int .i64 0), (.slice none 0 0), (.bool false), (.int .i64 0), (.int .i64 0), (.int .i64 0)]), 7, 72)),
  (38, (.struct #[{ name := "Next", type := 4, offset := 0, embedded := false, tag := "", pkgPath := "", byteOffset := 0 }, { name := "G", type := 36, offset := 1, embedded := false, tag := "", pkgPath := "", byteOffset := 8 }]), some ((.agg #[(.bool false), (.int .i64 0), (.slice none 0 0), (.bool false), (.int .i64 0), (.int .i64 0), (.int .i64 0)]), 7, 72)),
  (39, (.struct #[{ name := "Kind", type := 3, offset := 0, embedded := false, tag := "", pkgPath := "", byteOffset := 0 }, { name := "Key", type := 34, offset := 1, embedded := false, tag := "", pkgPath := "", byteOffset := 8 }, { name := "Value", type := 34, offset := 2, embedded := false, tag := "", pkgPath := "", byteOffset := 32 }, { name := "Want", type := 3, offset := 3, embedded := false, tag := "", pkgPath := "", byteOffset := 56 }]), some ((.agg #[(.int .i64 0), (.slice none 0 0), (.slice none 0 0), (.int .i64 0)]), 4, 64)),
  (40, (.struct #[{ name := "Kind", type := 3, offset := 0, embedded := false, tag := "", pkgPath := "", byteOffset := 0 }, { name := "Key", type := 34, offset := 1, embedded := false, tag := "", pkgPath := "", byteOffset := 8 }, { name := "Value", type := 34, offset := 2, embedded := false, tag := "", pkgPath := "", byteOffset := 32 }, { name := "Want", type := 3, offset := 3, embedded := false, tag := "", pkgPath := "", byteOffset := 56 }]), some ((.agg #[(.int .i64 0), (.slice none 0 0), (.slice none 0 0), (.int .i64 0)]), 4, 64)),
  (42, (.func #[] #[40, 28] false), some (.nilFunc, 1, 8)),
  (43, (.func #[36] #[28] false), some (.nilFunc, 1, 8)),
  (44, (.func #[27, 31] #[4] false), some (.nilFunc, 1, 8)),
  (45, (.func #[] #[4] false), some (.nilFunc, 1, 8)),
  (46, (.func #[25, 26] #[4] false), some (.nilFunc, 1, 8)),
  (47, (.slice 3), some ((.slice none 0 0), 1, 24)),
  (48, (.slice 28), some ((.slice none 0 0), 1, 24)),
  (49, (.func #[3, 3] #[3] false), some (.nilFunc, 1, 8)),
  (50, (.func #[27, 3, 36] #[4] false), some (.nilFunc, 1, 8)),
  (51, (.func #[] #[3] false), some (.nilFunc, 1, 8)),
  (52, (.func #[27, 3, 28] #[4] false), some (.nilFunc, 1, 8)),
  (53, (.func #[] #[28] false), some (.nilFunc, 1, 8)),
  (54, (.func #[4, 4, 47] #[4] false), some (.nilFunc, 1, 8)),
  (55, (.func #[3, 47] #[4] false), some (.nilFunc, 1, 8)),
  (56, (.struct #[{ name := "phase", type := 3, offset := 0, embedded := false, tag := "", pkgPath := "sealchain/sweep", byteOffset := 0 }, { name := "on", type := 3, offset := 1, embedded := false, tag := "", pkgPath := "sealchain/sweep", byteOffset := 8 }, { name := "patience", type := 3, offset := 2, embedded := false, tag := "", pkgPath := "sealchain/sweep", byteOffset := 16 }, { name := "late", type := 3, offset := 3, embedded := false, tag := "", pkgPath := "sealchain/sweep", byteOffset := 24 }, { name := "seen", type := 3, offset := 4, embedded := false, tag := "", pkgPath := "sealchain/sweep", byteOffset := 32 }, { name := "sealed", type := 3, offset := 5, embedded := false, tag := "", pkgPath := "sealchain/sweep", byteOffset := 40 }, { name := "waits", type := 4, offset := 6, embedded := false, tag := "", pkgPath := "sealchain/sweep", byteOffset := 48 }, { name := "why", type := 28, offset := 7, embedded := false, tag := "", pkgPath := "sealchain/sweep", byteOffset := 56 }, { name := "made", type := 4, offset := 8, embedded := false, tag := "", pkgPath := "sealchain/sweep", byteOffset := 64 }]), some ((.agg #[(.int .i64 0), (.int .i64 0), (.int .i64 0), (.int .i64 0), (.int .i64 0), (.int .i64 0), (.bool false), (.int .i64 0), (.bool false)]), 9, 72)),
  (57, (.struct #[{ name := "phase", type := 3, offset := 0, embedded := false, tag := "", pkgPath := "sealchain/sweep", byteOffset := 0 }, { name := "on", type := 3, offset := 1, embedded := false, tag := "", pkgPath := "sealchain/sweep", byteOffset := 8 }, { name := "patience", type := 3, offset := 2, embedded := false, tag := "", pkgPath := "sealchain/sweep", byteOffset := 16 }, { name := "late", type := 3, offset := 3, embedded := false, tag := "", pkgPath := "sealchain/sweep", byteOffset := 24 }, { name := "seen", type := 3, offset := 4, embedded := false, tag := "", pkgPath := "sealchain/sweep", byteOffset := 32 }, { name := "sealed", type := 3, offset := 5, embedded := false, tag := "", pkgPath := "sealchain/sweep", byteOffset := 40 }, { name := "waits", type := 4, offset := 6, embedded := false, tag := "", pkgPath := "sealchain/sweep", byteOffset := 48 }, { name := "why", type := 28, offset := 7, embedded := false, tag := "", pkgPath := "sealchain/sweep", byteOffset := 56 }, { name := "made", type := 4, offset := 8, embedded := false, tag := "", pkgPath := "sealchain/sweep", byteOffset := 64 }]), some ((.agg #[(.int .i64 0), (.int .i64 0), (.int .i64 0), (.int .i64 0), (.int .i64 0), (.int .i64 0), (.bool false), (.int .i64 0), (.bool false)]), 9, 72)),
  (58, (.struct #[{ name := "P", type := 3, offset := 0, embedded := false, tag := "", pkgPath := "", byteOffset := 0 }, { name := "On", type := 3, offset := 1, embedded := false, tag := "", pkgPath := "", byteOffset := 8 }, { name := "Patience", type := 3, offset := 2, embedded := false, tag := "", pkgPath := "", byteOffset := 16 }, { name := "Late", type := 3, offset := 3, embedded := false, tag := "", pkgPath := "", byteOffset := 24 }, { name := "Many", type := 3, offset := 4, embedded := false, tag := "", pkgPath := "", byteOffset := 32 }, { name := "New", type := 3, offset := 5, embedded := false, tag := "", pkgPath := "", byteOffset := 40 }, { name := "Wait", type := 4, offset := 6, embedded := false, tag := "", pkgPath := "", byteOffset := 48 }, { name := "E", type := 28, offset := 7, embedded := false, tag := "", pkgPath := "", byteOffset := 56 }]), some ((.agg #[(.int .i64 0), (.int .i64 0), (.int .i64 0), (.int .i64 0), (.int .i64 0), (.int .i64 0), (.bool false), (.int .i64 0)]), 8, 64)),
  (59, (.struct #[{ name := "P", type := 3, offset := 0, embedded := false, tag := "", pkgPath := "", byteOffset := 0 }, { name := "On", type := 3, offset := 1, embedded := false, tag := "", pkgPath := "", byteOffset := 8 }, { name := "Patience", type := 3, offset := 2, embedded := false, tag := "", pkgPath := "", byteOffset := 16 }, { name := "Late", type := 3, offset := 3, embedded := false, tag := "", pkgPath := "", byteOffset := 24 }, { name := "Many", type := 3, offset := 4, embedded := false, tag := "", pkgPath := "", byteOffset := 32 }, { name := "New", type := 3, offset := 5, embedded := false, tag := "", pkgPath := "", byteOffset := 40 }, { name := "Wait", type := 4, offset := 6, embedded := false, tag := "", pkgPath := "", byteOffset := 48 }, { name := "E", type := 28, offset := 7, embedded := false, tag := "", pkgPath := "", byteOffset := 56 }]), some ((.agg #[(.int .i64 0), (.int .i64 0), (.int .i64 0), (.int .i64 0), (.int .i64 0), (.int .i64 0), (.bool false), (.int .i64 0)]), 8, 64)),
  (60, (.func #[27, 36] #[4] false), some (.nilFunc, 1, 8)),
  (61, (.struct #[{ name := "kind", type := 3, offset := 0, embedded := false, tag := "", pkgPath := "sealchain/sweep", byteOffset := 0 }, { name := "took", type := 60, offset := 1, embedded := false, tag := "", pkgPath := "sealchain/sweep", byteOffset := 8 }]), some ((.agg #[(.int .i64 0), .nilFunc]), 2, 16)),
  (62, (.struct #[{ name := "kind", type := 3, offset := 0, embedded := false, tag := "", pkgPath := "sealchain/sweep", byteOffset := 0 }, { name := "took", type := 60, offset := 1, embedded := false, tag := "", pkgPath := "sealchain/sweep", byteOffset := 8 }]), some ((.agg #[(.int .i64 0), .nilFunc]), 2, 16)),
  (63, (.array 6 62), some ((.agg #[(.int .i64 0), .nilFunc, (.int .i64 0), .nilFunc, (.int .i64 0), .nilFunc, (.int .i64 0), .nilFunc, (.int .i64 0), .nilFunc, (.int .i64 0), .nilFunc]), 12, 96)),
  (64, (.func #[] #[63] false), some (.nilFunc, 1, 8)),
  (65, (.func #[28] #[] false), some (.nilFunc, 1, 8)),
  (66, (.func #[] #[9] false), some (.nilFunc, 1, 8)),
  (67, (.struct #[{ name := "_interface", type := 17, offset := 0, embedded := false, tag := "", pkgPath := "runtime", byteOffset := 0 }, { name := "concrete", type := 17, offset := 1, embedded := false, tag := "", pkgPath := "runtime", byteOffset := 8 }, { name := "asserted", type := 17, offset := 2, embedded := false, tag := "", pkgPath := "runtime", byteOffset := 16 }, { name := "missingMethod", type := 9, offset := 3, embedded := false, tag := "", pkgPath := "runtime", byteOffset := 24 }]), some ((.agg #[(.pointer none), (.pointer none), (.pointer none), (.string ByteArray.empty)]), 4, 40)),
  (68, (.struct #[{ name := "_interface", type := 17, offset := 0, embedded := false, tag := "", pkgPath := "runtime", byteOffset := 0 }, { name := "concrete", type := 17, offset := 1, embedded := false, tag := "", pkgPath := "runtime", byteOffset := 8 }, { name := "asserted", type := 17, offset := 2, embedded := false, tag := "", pkgPath := "runtime", byteOffset := 16 }, { name := "missingMethod", type := 9, offset := 3, embedded := false, tag := "", pkgPath := "runtime", byteOffset := 24 }]), some ((.agg #[(.pointer none), (.pointer none), (.pointer none), (.string ByteArray.empty)]), 4, 40)),
  (69, (.array 0 16), some ((.agg #[]), 0, 0)),
  (70, (.struct #[{ name := "_", type := 69, offset := 0, embedded := false, tag := "", pkgPath := "runtime", byteOffset := 0 }]), some ((.agg #[]), 0, 0)),
  (71, (.struct #[{ name := "_", type := 69, offset := 0, embedded := false, tag := "", pkgPath := "runtime", byteOffset := 0 }]), some ((.agg #[]), 0, 0)),
  (72, (.int .u32), some ((.int .u32 0), 1, 4)),
  (73, (.int .u8), some ((.int .u8 0), 1, 1)),
  (74, (.int .u8), some ((.int .u8 0), 1, 1)),
  (75, (.func #[81, 81] #[4] false), some (.nilFunc, 1, 8)),
  (76, (.pointer 5), some ((.pointer none), 1, 8)),
  (77, (.int .i32), some ((.int .i32 0), 1, 4)),
  (78, (.int .i32), some ((.int .i32 0), 1, 4)),
  (79, (.struct #[{ name := "Size_", type := 12, offset := 0, embedded := false, tag := "", pkgPath := "", byteOffset := 0 }, { name := "PtrBytes", type := 12, offset := 1, embedded := false, tag := "", pkgPath := "", byteOffset := 8 }, { name := "Hash", type := 72, offset := 2, embedded := false, tag := "", pkgPath := "", byteOffset := 16 }, { name := "TFlag", type := 73, offset := 3, embedded := false, tag := "", pkgPath := "", byteOffset := 20 }, { name := "Align_", type := 5, offset := 4, embedded := false, tag := "", pkgPath := "", byteOffset := 21 }, { name := "FieldAlign_", type := 5, offset := 5, embedded := false, tag := "", pkgPath := "", byteOffset := 22 }, { name := "Kind_", type := 74, offset := 6, embedded := false, tag := "", pkgPath := "", byteOffset := 23 }, { name := "Equal", type := 75, offset := 7, embedded := false, tag := "", pkgPath := "", byteOffset := 24 }, { name := "GCData", type := 76, offset := 8, embedded := false, tag := "", pkgPath := "", byteOffset := 32 }, { name := "Str", type := 77, offset := 9, embedded := false, tag := "", pkgPath := "", byteOffset := 40 }, { name := "PtrToThis", type := 78, offset := 10, embedded := false, tag := "", pkgPath := "", byteOffset := 44 }]), some ((.agg #[(.int .u64 0), (.int .u64 0), (.int .u32 0), (.int .u8 0), (.int .u8 0), (.int .u8 0), (.int .u8 0), .nilFunc, (.pointer none), (.int .i32 0), (.int .i32 0)]), 11, 48)),
  (80, (.struct #[{ name := "Size_", type := 12, offset := 0, embedded := false, tag := "", pkgPath := "", byteOffset := 0 }, { name := "PtrBytes", type := 12, offset := 1, embedded := false, tag := "", pkgPath := "", byteOffset := 8 }, { name := "Hash", type := 72, offset := 2, embedded := false, tag := "", pkgPath := "", byteOffset := 16 }, { name := "TFlag", type := 73, offset := 3, embedded := false, tag := "", pkgPath := "", byteOffset := 20 }, { name := "Align_", type := 5, offset := 4, embedded := false, tag := "", pkgPath := "", byteOffset := 21 }, { name := "FieldAlign_", type := 5, offset := 5, embedded := false, tag := "", pkgPath := "", byteOffset := 22 }, { name := "Kind_", type := 74, offset := 6, embedded := false, tag := "", pkgPath := "", byteOffset := 23 }, { name := "Equal", type := 75, offset := 7, embedded := false, tag := "", pkgPath := "", byteOffset := 24 }, { name := "GCData", type := 76, offset := 8, embedded := false, tag := "", pkgPath := "", byteOffset := 32 }, { name := "Str", type := 77, offset := 9, embedded := false, tag := "", pkgPath := "", byteOffset := 40 }, { name := "PtrToThis", type := 78, offset := 10, embedded := false, tag := "", pkgPath := "", byteOffset := 44 }]), some ((.agg #[(.int .u64 0), (.int .u64 0), (.int .u32 0), (.int .u8 0), (.int .u8 0), (.int .u8 0), (.int .u8 0), .nilFunc, (.pointer none), (.int .i32 0), (.int .i32 0)]), 11, 48)),
  (81, .unsafePointer, some ((.pointer none), 1, 8))]
set_option maxRecDepth 100000 in
instance : Tys Try.prog := ⟨Trytt,
  ⟨⟨inferInstance, (inferInstance : Inf Try.prog 1 .nilFunc 1 8)⟩,
  ⟨⟨inferInstance, (inferInstance : Inf Try.prog 2 (.int .i64 0) 1 8)⟩,
  ⟨⟨inferInstance, (inferInstance : Inf Try.prog 3 (.int .i64 0) 1 8)⟩,
  ⟨⟨inferInstance, (inferInstance : Inf Try.prog 4 (.bool false) 1 1)⟩,
  ⟨⟨inferInstance, (inferInstance : Inf Try.prog 5 (.int .u8 0) 1 1)⟩,
  ⟨⟨inferInstance, (inferInstance : Inf Try.prog 6 (.int .u8 0) 1 1)⟩,
  ⟨⟨inferInstance, (inferInstance : Inf Try.prog 7 (.agg #[(.int .i64 0), (.int .i64 0), (.bool false), (.int .u8 0)]) 4 24)⟩,
  ⟨⟨inferInstance, (inferInstance : Inf Try.prog 8 (.agg #[(.int .i64 0), (.int .i64 0), (.bool false), (.int .u8 0)]) 4 24)⟩,
  ⟨⟨inferInstance, (inferInstance : Inf Try.prog 9 (.string ByteArray.empty) 1 16)⟩,
  ⟨⟨inferInstance, (inferInstance : Inf Try.prog 10 (.string ByteArray.empty) 1 16)⟩,
  ⟨⟨inferInstance, (inferInstance : Inf Try.prog 11 (.string ByteArray.empty) 1 16)⟩,
  ⟨⟨inferInstance, (inferInstance : Inf Try.prog 12 (.int .u64 0) 1 8)⟩,
  ⟨⟨inferInstance, (inferInstance : Inf Try.prog 13 (.agg #[(.string ByteArray.empty), (.int .u64 0)]) 2 24)⟩,
  ⟨⟨inferInstance, (inferInstance : Inf Try.prog 14 (.agg #[(.string ByteArray.empty), (.int .u64 0)]) 2 24)⟩,
  ⟨⟨inferInstance, (inferInstance : Inf Try.prog 15 (.pointer none) 1 8)⟩,
  ⟨⟨inferInstance, (inferInstance : Inf Try.prog 16 (.pointer none) 1 8)⟩,
  ⟨⟨inferInstance, (inferInstance : Inf Try.prog 17 (.pointer none) 1 8)⟩,
  ⟨⟨inferInstance, (inferInstance : Inf Try.prog 18 (.agg #[(.pointer none)]) 1 8)⟩,
  ⟨⟨inferInstance, (inferInstance : Inf Try.prog 19 (.agg #[(.pointer none)]) 1 8)⟩,
  ⟨⟨inferInstance, (inferInstance : Inf Try.prog 21 (.int .i32 0) 1 4)⟩,
  ⟨⟨inferInstance, (inferInstance : Inf Try.prog 22 (.agg #[(.int .u8 0), (.int .u8 0), (.int .u8 0), (.int .u8 0), (.int .u8 0), (.int .u8 0), (.int .u8 0), (.int .u8 0), (.int .u8 0), (.int .u8 0), (.int .u8 0), (.int .u8 0), (.int .u8 0), (.int .u8 0), (.int .u8 0), (.int .u8 0), (.int .u8 0), (.int .u8 0), (.int .u8 0), (.int .u8 0), (.int .u8 0), (.int .u8 0), (.int .u8 0), (.int .u8 0), (.int .u8 0), (.int .u8 0), (.int .u8 0), (.int .u8 0), (.int .u8 0), (.int .u8 0), (.int .u8 0), (.int .u8 0)]) 32 32)⟩,
  ⟨⟨inferInstance, (inferInstance : Inf Try.prog 23 (.agg #[(.int .u8 0), (.int .u8 0), (.int .u8 0), (.int .u8 0), (.int .u8 0), (.int .u8 0), (.int .u8 0), (.int .u8 0), (.int .u8 0), (.int .u8 0), (.int .u8 0), (.int .u8 0), (.int .u8 0), (.int .u8 0), (.int .u8 0), (.int .u8 0), (.int .u8 0), (.int .u8 0), (.int .u8 0), (.int .u8 0), (.int .u8 0), (.int .u8 0), (.int .u8 0), (.int .u8 0), (.int .u8 0), (.int .u8 0), (.int .u8 0), (.int .u8 0), (.int .u8 0), (.int .u8 0), (.int .u8 0), (.int .u8 0)]) 32 32)⟩,
  ⟨⟨inferInstance, (inferInstance : Inf Try.prog 24 (.agg #[(.bool false), (.int .u8 0), (.int .u8 0), (.int .u8 0), (.int .u8 0), (.int .u8 0), (.int .u8 0), (.int .u8 0), (.int .u8 0), (.int .u8 0), (.int .u8 0), (.int .u8 0), (.int .u8 0), (.int .u8 0), (.int .u8 0), (.int .u8 0), (.int .u8 0), (.int .u8 0), (.int .u8 0), (.int .u8 0), (.int .u8 0), (.int .u8 0), (.int .u8 0), (.int .u8 0), (.int .u8 0), (.int .u8 0), (.int .u8 0), (.int .u8 0), (.int .u8 0), (.int .u8 0), (.int .u8 0), (.int .u8 0), (.int .u8 0), (.int .i64 0)]) 34 48)⟩,
  ⟨⟨inferInstance, (inferInstance : Inf Try.prog 25 (.agg #[(.bool false), (.int .u8 0), (.int .u8 0), (.int .u8 0), (.int .u8 0), (.int .u8 0), (.int .u8 0), (.int .u8 0), (.int .u8 0), (.int .u8 0), (.int .u8 0), (.int .u8 0), (.int .u8 0), (.int .u8 0), (.int .u8 0), (.int .u8 0), (.int .u8 0), (.int .u8 0), (.int .u8 0), (.int .u8 0), (.int .u8 0), (.int .u8 0), (.int .u8 0), (.int .u8 0), (.int .u8 0), (.int .u8 0), (.int .u8 0), (.int .u8 0), (.int .u8 0), (.int .u8 0), (.int .u8 0), (.int .u8 0), (.int .u8 0), (.int .i64 0)]) 34 48)⟩,
  ⟨⟨inferInstance, (inferInstance : Inf Try.prog 26 (.slice none 0 0) 1 24)⟩,
  ⟨⟨inferInstance, (inferInstance : Inf Try.prog 27 (.pointer none) 1 8)⟩,
  ⟨⟨inferInstance, (inferInstance : Inf Try.prog 28 (.int .i64 0) 1 8)⟩,
  ⟨⟨inferInstance, (inferInstance : Inf Try.prog 30 .nilFunc 1 8)⟩,
  ⟨⟨inferInstance, (inferInstance : Inf Try.prog 31 (.pointer none) 1 8)⟩,
  ⟨⟨inferInstance, (inferInstance : Inf Try.prog 33 .nilFunc 1 8)⟩,
  ⟨⟨inferInstance, (inferInstance : Inf Try.prog 34 (.slice none 0 0) 1 24)⟩,
  ⟨⟨inferInstance, (inferInstance : Inf Try.prog 35 (.agg #[(.int .i64 0), (.slice none 0 0), (.bool false), (.int .i64 0), (.int .i64 0), (.int .i64 0)]) 6 64)⟩,
  ⟨⟨inferInstance, (inferInstance : Inf Try.prog 36 (.agg #[(.int .i64 0), (.slice none 0 0), (.bool false), (.int .i64 0), (.int .i64 0), (.int .i64 0)]) 6 64)⟩,
  ⟨⟨inferInstance, (inferInstance : Inf Try.prog 37 (.agg #[(.bool false), (.int .i64 0), (.slice none 0 0), (.bool false), (.int .i64 0), (.int .i64 0), (.int .i64 0)]) 7 72)⟩,
  ⟨⟨inferInstance, (inferInstance : Inf Try.prog 38 (.agg #[(.bool false), (.int .i64 0), (.slice none 0 0), (.bool false), (.int .i64 0), (.int .i64 0), (.int .i64 0)]) 7 72)⟩,
  ⟨⟨inferInstance, (inferInstance : Inf Try.prog 39 (.agg #[(.int .i64 0), (.slice none 0 0), (.slice none 0 0), (.int .i64 0)]) 4 64)⟩,
  ⟨⟨inferInstance, (inferInstance : Inf Try.prog 40 (.agg #[(.int .i64 0), (.slice none 0 0), (.slice none 0 0), (.int .i64 0)]) 4 64)⟩,
  ⟨⟨inferInstance, (inferInstance : Inf Try.prog 42 .nilFunc 1 8)⟩,
  ⟨⟨inferInstance, (inferInstance : Inf Try.prog 43 .nilFunc 1 8)⟩,
  ⟨⟨inferInstance, (inferInstance : Inf Try.prog 44 .nilFunc 1 8)⟩,
  ⟨⟨inferInstance, (inferInstance : Inf Try.prog 45 .nilFunc 1 8)⟩,
  ⟨⟨inferInstance, (inferInstance : Inf Try.prog 46 .nilFunc 1 8)⟩,
  ⟨⟨inferInstance, (inferInstance : Inf Try.prog 47 (.slice none 0 0) 1 24)⟩,
  ⟨⟨inferInstance, (inferInstance : Inf Try.prog 48 (.slice none 0 0) 1 24)⟩,
  ⟨⟨inferInstance, (inferInstance : Inf Try.prog 49 .nilFunc 1 8)⟩,
  ⟨⟨inferInstance, (inferInstance : Inf Try.prog 50 .nilFunc 1 8)⟩,
  ⟨⟨inferInstance, (inferInstance : Inf Try.prog 51 .nilFunc 1 8)⟩,
  ⟨⟨inferInstance, (inferInstance : Inf Try.prog 52 .nilFunc 1 8)⟩,
  ⟨⟨inferInstance, (inferInstance : Inf Try.prog 53 .nilFunc 1 8)⟩,
  ⟨⟨inferInstance, (inferInstance : Inf Try.prog 54 .nilFunc 1 8)⟩,
  ⟨⟨inferInstance, (inferInstance : Inf Try.prog 55 .nilFunc 1 8)⟩,
  ⟨⟨inferInstance, (inferInstance : Inf Try.prog 56 (.agg #[(.int .i64 0), (.int .i64 0), (.int .i64 0), (.int .i64 0), (.int .i64 0), (.int .i64 0), (.bool false), (.int .i64 0), (.bool false)]) 9 72)⟩,
  ⟨⟨inferInstance, (inferInstance : Inf Try.prog 57 (.agg #[(.int .i64 0), (.int .i64 0), (.int .i64 0), (.int .i64 0), (.int .i64 0), (.int .i64 0), (.bool false), (.int .i64 0), (.bool false)]) 9 72)⟩,
  ⟨⟨inferInstance, (inferInstance : Inf Try.prog 58 (.agg #[(.int .i64 0), (.int .i64 0), (.int .i64 0), (.int .i64 0), (.int .i64 0), (.int .i64 0), (.bool false), (.int .i64 0)]) 8 64)⟩,
  ⟨⟨inferInstance, (inferInstance : Inf Try.prog 59 (.agg #[(.int .i64 0), (.int .i64 0), (.int .i64 0), (.int .i64 0), (.int .i64 0), (.int .i64 0), (.bool false), (.int .i64 0)]) 8 64)⟩,
  ⟨⟨inferInstance, (inferInstance : Inf Try.prog 60 .nilFunc 1 8)⟩,
  ⟨⟨inferInstance, (inferInstance : Inf Try.prog 61 (.agg #[(.int .i64 0), .nilFunc]) 2 16)⟩,
  ⟨⟨inferInstance, (inferInstance : Inf Try.prog 62 (.agg #[(.int .i64 0), .nilFunc]) 2 16)⟩,
  ⟨⟨inferInstance, (inferInstance : Inf Try.prog 63 (.agg #[(.int .i64 0), .nilFunc, (.int .i64 0), .nilFunc, (.int .i64 0), .nilFunc, (.int .i64 0), .nilFunc, (.int .i64 0), .nilFunc, (.int .i64 0), .nilFunc]) 12 96)⟩,
  ⟨⟨inferInstance, (inferInstance : Inf Try.prog 64 .nilFunc 1 8)⟩,
  ⟨⟨inferInstance, (inferInstance : Inf Try.prog 65 .nilFunc 1 8)⟩,
  ⟨⟨inferInstance, (inferInstance : Inf Try.prog 66 .nilFunc 1 8)⟩,
  ⟨⟨inferInstance, (inferInstance : Inf Try.prog 67 (.agg #[(.pointer none), (.pointer none), (.pointer none), (.string ByteArray.empty)]) 4 40)⟩,
  ⟨⟨inferInstance, (inferInstance : Inf Try.prog 68 (.agg #[(.pointer none), (.pointer none), (.pointer none), (.string ByteArray.empty)]) 4 40)⟩,
  ⟨⟨inferInstance, (inferInstance : Inf Try.prog 69 (.agg #[]) 0 0)⟩,
  ⟨⟨inferInstance, (inferInstance : Inf Try.prog 70 (.agg #[]) 0 0)⟩,
  ⟨⟨inferInstance, (inferInstance : Inf Try.prog 71 (.agg #[]) 0 0)⟩,
  ⟨⟨inferInstance, (inferInstance : Inf Try.prog 72 (.int .u32 0) 1 4)⟩,
  ⟨⟨inferInstance, (inferInstance : Inf Try.prog 73 (.int .u8 0) 1 1)⟩,
  ⟨⟨inferInstance, (inferInstance : Inf Try.prog 74 (.int .u8 0) 1 1)⟩,
  ⟨⟨inferInstance, (inferInstance : Inf Try.prog 75 .nilFunc 1 8)⟩,
  ⟨⟨inferInstance, (inferInstance : Inf Try.prog 76 (.pointer none) 1 8)⟩,
  ⟨⟨inferInstance, (inferInstance : Inf Try.prog 77 (.int .i32 0) 1 4)⟩,
  ⟨⟨inferInstance, (inferInstance : Inf Try.prog 78 (.int .i32 0) 1 4)⟩,
  ⟨⟨inferInstance, (inferInstance : Inf Try.prog 79 (.agg #[(.int .u64 0), (.int .u64 0), (.int .u32 0), (.int .u8 0), (.int .u8 0), (.int .u8 0), (.int .u8 0), .nilFunc, (.pointer none), (.int .i32 0), (.int .i32 0)]) 11 48)⟩,
  ⟨⟨inferInstance, (inferInstance : Inf Try.prog 80 (.agg #[(.int .u64 0), (.int .u64 0), (.int .u32 0), (.int .u8 0), (.int .u8 0), (.int .u8 0), (.int .u8 0), .nilFunc, (.pointer none), (.int .i32 0), (.int .i32 0)]) 11 48)⟩,
  ⟨⟨inferInstance, (inferInstance : Inf Try.prog 81 (.pointer none) 1 8)⟩, trivial⟩⟩⟩⟩⟩⟩⟩⟩⟩⟩⟩⟩⟩⟩⟩⟩⟩⟩⟩⟩⟩⟩⟩⟩⟩⟩⟩⟩⟩⟩⟩⟩⟩⟩⟩⟩⟩⟩⟩⟩⟩⟩⟩⟩⟩⟩⟩⟩⟩⟩⟩⟩⟩⟩⟩⟩⟩⟩⟩⟩⟩⟩⟩⟩⟩⟩⟩⟩⟩⟩⟩⟩⟩⟩⟩⟩⟩⟩
instance : Fun Try.prog 2 := ⟨_, _, Try.func2, rfl, by kernel_rfl⟩
instance : Fun Try.prog 3 := ⟨_, _, Try.func3, rfl, by kernel_rfl⟩
instance : Fun Try.prog 4 := ⟨_, _, Try.func4, rfl, by kernel_rfl⟩
instance : Fun Try.prog 5 := ⟨_, _, Try.func5, rfl, by kernel_rfl⟩
instance : Fun Try.prog 6 := ⟨_, _, Try.func6, rfl, by kernel_rfl⟩
instance : Fun Try.prog 7 := ⟨_, _, Try.func7, rfl, by kernel_rfl⟩
instance : Fun Try.prog 8 := ⟨_, _, Try.func8, rfl, by kernel_rfl⟩
instance : Fun Try.prog 9 := ⟨_, _, Try.func9, rfl, by kernel_rfl⟩
instance : Fun Try.prog 10 := ⟨_, _, Try.func10, rfl, by kernel_rfl⟩
instance : Fun Try.prog 11 := ⟨_, _, Try.func11, rfl, by kernel_rfl⟩
instance : Fun Try.prog 12 := ⟨_, _, Try.func12, rfl, by kernel_rfl⟩
instance : Fun Try.prog 13 := ⟨_, _, Try.func13, rfl, by kernel_rfl⟩
instance : Fun Try.prog 14 := ⟨_, _, Try.func14, rfl, by kernel_rfl⟩
instance : Fun Try.prog 15 := ⟨_, _, Try.func15, rfl, by kernel_rfl⟩
instance : Fun Try.prog 16 := ⟨_, _, Try.func16, rfl, by kernel_rfl⟩
instance : Fun Try.prog 17 := ⟨_, _, Try.func17, rfl, by kernel_rfl⟩
instance : Fun Try.prog 18 := ⟨_, _, Try.func18, rfl, by kernel_rfl⟩
instance : Fun Try.prog 19 := ⟨_, _, Try.func19, rfl, by kernel_rfl⟩
instance : Fun Try.prog 20 := ⟨_, _, Try.func20, rfl, by kernel_rfl⟩
instance : Fun Try.prog 21 := ⟨_, _, Try.func21, rfl, by kernel_rfl⟩
instance : Fun Try.prog 22 := ⟨_, _, Try.func22, rfl, by kernel_rfl⟩
instance : Fun Try.prog 23 := ⟨_, _, Try.func23, rfl, by kernel_rfl⟩
instance : Fun Try.prog 24 := ⟨_, _, Try.func24, rfl, by kernel_rfl⟩
instance : Fun Try.prog 25 := ⟨_, _, Try.func25, rfl, by kernel_rfl⟩
instance : Fun Try.prog 26 := ⟨_, _, Try.func26, rfl, by kernel_rfl⟩
instance : Fun Try.prog 27 := ⟨_, _, Try.func27, rfl, by kernel_rfl⟩
instance : Fun Try.prog 28 := ⟨_, _, Try.func28, rfl, by kernel_rfl⟩
instance : Fun Try.prog 29 := ⟨_, _, Try.func29, rfl, by kernel_rfl⟩
instance : Fun Try.prog 30 := ⟨_, _, Try.func30, rfl, by kernel_rfl⟩
instance : Mix Try.prog := ⟨by kernel_rfl⟩
end Go.SX
