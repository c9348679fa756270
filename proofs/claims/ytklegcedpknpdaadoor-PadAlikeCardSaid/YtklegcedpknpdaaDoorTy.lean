/- The types of this translation, as instances. -/
import Derived.Test.YtklegcedpknpdaaDoorProg
import Derived.Test.YtklegcedpknpdaaDoorSx
namespace Go.SX
open Go.Proofs
instance : Und Tryd.prog 1 (.func #[] #[] false) := ⟨Tryd.underlying1⟩
instance : Inf Tryd.prog 1 .nilFunc 1 8 := Inf.of (by kernel_rfl)
instance : Und Tryd.prog 2 (.int .i64) := ⟨Tryd.underlying2⟩
instance : Inf Tryd.prog 2 (.int .i64 0) 1 8 := Inf.of (by kernel_rfl)
instance : Und Tryd.prog 3 (.int .i64) := ⟨Tryd.underlying3⟩
instance : Inf Tryd.prog 3 (.int .i64 0) 1 8 := Inf.of (by kernel_rfl)
instance : Und Tryd.prog 4 .bool := ⟨Tryd.underlying4⟩
instance : Inf Tryd.prog 4 (.bool false) 1 1 := Inf.of (by kernel_rfl)
instance : Und Tryd.prog 5 (.int .u8) := ⟨Tryd.underlying5⟩
instance : Inf Tryd.prog 5 (.int .u8 0) 1 1 := Inf.of (by kernel_rfl)
instance : Und Tryd.prog 6 (.int .u8) := ⟨Tryd.underlying6⟩
instance : Inf Tryd.prog 6 (.int .u8 0) 1 1 := Inf.of (by kernel_rfl)
instance : Und Tryd.prog 7 (.struct #[{ name := "x", type := 2, offset := 0, embedded := false, tag := "", pkgPath := "runtime", byteOffset := 0 }, { name := "y", type := 3, offset := 1, embedded := false, tag := "", pkgPath := "runtime", byteOffset := 8 }, { name := "signed", type := 4, offset := 2, embedded := false, tag := "", pkgPath := "runtime", byteOffset := 16 }, { name := "code", type := 6, offset := 3, embedded := false, tag := "", pkgPath := "runtime", byteOffset := 17 }]) := ⟨Tryd.underlying7⟩
instance : Inf Tryd.prog 7 (.agg #[(.int .i64 0), (.int .i64 0), (.bool false), (.int .u8 0)]) 4 24 := Inf.of (by kernel_rfl)
instance : Und Tryd.prog 8 (.struct #[{ name := "x", type := 2, offset := 0, embedded := false, tag := "", pkgPath := "runtime", byteOffset := 0 }, { name := "y", type := 3, offset := 1, embedded := false, tag := "", pkgPath := "runtime", byteOffset := 8 }, { name := "signed", type := 4, offset := 2, embedded := false, tag := "", pkgPath := "runtime", byteOffset := 16 }, { name := "code", type := 6, offset := 3, embedded := false, tag := "", pkgPath := "runtime", byteOffset := 17 }]) := ⟨Tryd.underlying8⟩
instance : Inf Tryd.prog 8 (.agg #[(.int .i64 0), (.int .i64 0), (.bool false), (.int .u8 0)]) 4 24 := Inf.of (by kernel_rfl)
instance : Und Tryd.prog 9 .string := ⟨Tryd.underlying9⟩
instance : Inf Tryd.prog 9 (.string ByteArray.empty) 1 16 := Inf.of (by kernel_rfl)
instance : Und Tryd.prog 10 .string := ⟨Tryd.underlying10⟩
instance : Inf Tryd.prog 10 (.string ByteArray.empty) 1 16 := Inf.of (by kernel_rfl)
instance : Und Tryd.prog 11 .string := ⟨Tryd.underlying11⟩
instance : Inf Tryd.prog 11 (.string ByteArray.empty) 1 16 := Inf.of (by kernel_rfl)
instance : Und Tryd.prog 12 (.int .u64) := ⟨Tryd.underlying12⟩
instance : Inf Tryd.prog 12 (.int .u64 0) 1 8 := Inf.of (by kernel_rfl)
instance : Und Tryd.prog 13 (.struct #[{ name := "msg", type := 9, offset := 0, embedded := false, tag := "", pkgPath := "runtime", byteOffset := 0 }, { name := "addr", type := 12, offset := 1, embedded := false, tag := "", pkgPath := "runtime", byteOffset := 16 }]) := ⟨Tryd.underlying13⟩
instance : Inf Tryd.prog 13 (.agg #[(.string ByteArray.empty), (.int .u64 0)]) 2 24 := Inf.of (by kernel_rfl)
instance : Und Tryd.prog 14 (.struct #[{ name := "msg", type := 9, offset := 0, embedded := false, tag := "", pkgPath := "runtime", byteOffset := 0 }, { name := "addr", type := 12, offset := 1, embedded := false, tag := "", pkgPath := "runtime", byteOffset := 16 }]) := ⟨Tryd.underlying14⟩
instance : Inf Tryd.prog 14 (.agg #[(.string ByteArray.empty), (.int .u64 0)]) 2 24 := Inf.of (by kernel_rfl)
instance : Und Tryd.prog 15 (.pointer 49) := ⟨Tryd.underlying15⟩
instance : Inf Tryd.prog 15 (.pointer none) 1 8 := Inf.of (by kernel_rfl)
instance : Und Tryd.prog 16 (.pointer 52) := ⟨Tryd.underlying16⟩
instance : Inf Tryd.prog 16 (.pointer none) 1 8 := Inf.of (by kernel_rfl)
instance : Und Tryd.prog 17 (.pointer 62) := ⟨Tryd.underlying17⟩
instance : Inf Tryd.prog 17 (.pointer none) 1 8 := Inf.of (by kernel_rfl)
instance : Und Tryd.prog 18 (.struct #[{ name := "typ", type := 17, offset := 0, embedded := false, tag := "", pkgPath := "internal/runtime/maps", byteOffset := 0 }]) := ⟨Tryd.underlying18⟩
instance : Inf Tryd.prog 18 (.agg #[(.pointer none)]) 1 8 := Inf.of (by kernel_rfl)
instance : Und Tryd.prog 19 (.struct #[{ name := "typ", type := 17, offset := 0, embedded := false, tag := "", pkgPath := "internal/runtime/maps", byteOffset := 0 }]) := ⟨Tryd.underlying19⟩
instance : Inf Tryd.prog 19 (.agg #[(.pointer none)]) 1 8 := Inf.of (by kernel_rfl)
instance : Inf Tryd.prog 20 .nilIface 1 16 := Inf.of (by kernel_rfl)
instance : Und Tryd.prog 21 (.int .i32) := ⟨Tryd.underlying21⟩
instance : Inf Tryd.prog 21 (.int .i32 0) 1 4 := Inf.of (by kernel_rfl)
instance : Und Tryd.prog 22 (.slice 5) := ⟨Tryd.underlying22⟩
instance : Inf Tryd.prog 22 (.slice none 0 0) 1 24 := Inf.of (by kernel_rfl)
instance : Und Tryd.prog 23 (.func #[22] #[22] false) := ⟨Tryd.underlying23⟩
instance : Inf Tryd.prog 23 .nilFunc 1 8 := Inf.of (by kernel_rfl)
instance : Und Tryd.prog 24 (.int .i64) := ⟨Tryd.underlying24⟩
instance : Inf Tryd.prog 24 (.int .i64 0) 1 8 := Inf.of (by kernel_rfl)
instance : Und Tryd.prog 26 (.func #[22, 4] #[22, 24] false) := ⟨Tryd.underlying26⟩
instance : Inf Tryd.prog 26 .nilFunc 1 8 := Inf.of (by kernel_rfl)
instance : Und Tryd.prog 27 (.func #[22, 22] #[4] false) := ⟨Tryd.underlying27⟩
instance : Inf Tryd.prog 27 .nilFunc 1 8 := Inf.of (by kernel_rfl)
instance : Und Tryd.prog 28 (.func #[3] #[3] false) := ⟨Tryd.underlying28⟩
instance : Inf Tryd.prog 28 .nilFunc 1 8 := Inf.of (by kernel_rfl)
instance : Und Tryd.prog 29 (.func #[] #[4] false) := ⟨Tryd.underlying29⟩
instance : Inf Tryd.prog 29 .nilFunc 1 8 := Inf.of (by kernel_rfl)
instance : Und Tryd.prog 30 (.func #[22, 4, 3] #[4] false) := ⟨Tryd.underlying30⟩
instance : Inf Tryd.prog 30 .nilFunc 1 8 := Inf.of (by kernel_rfl)
instance : Und Tryd.prog 32 (.func #[22] #[22, 4, 24] false) := ⟨Tryd.underlying32⟩
instance : Inf Tryd.prog 32 .nilFunc 1 8 := Inf.of (by kernel_rfl)
instance : Und Tryd.prog 33 (.func #[22] #[4] false) := ⟨Tryd.underlying33⟩
instance : Inf Tryd.prog 33 .nilFunc 1 8 := Inf.of (by kernel_rfl)
instance : Und Tryd.prog 34 (.func #[22, 4] #[4] false) := ⟨Tryd.underlying34⟩
instance : Inf Tryd.prog 34 .nilFunc 1 8 := Inf.of (by kernel_rfl)
instance : Und Tryd.prog 35 (.func #[3, 3] #[3] false) := ⟨Tryd.underlying35⟩
instance : Inf Tryd.prog 35 .nilFunc 1 8 := Inf.of (by kernel_rfl)
instance : Und Tryd.prog 36 (.func #[3, 3, 5] #[4] false) := ⟨Tryd.underlying36⟩
instance : Inf Tryd.prog 36 .nilFunc 1 8 := Inf.of (by kernel_rfl)
instance : Und Tryd.prog 37 (.func #[22, 3, 5] #[4] false) := ⟨Tryd.underlying37⟩
instance : Inf Tryd.prog 37 .nilFunc 1 8 := Inf.of (by kernel_rfl)
instance : Und Tryd.prog 38 (.slice 3) := ⟨Tryd.underlying38⟩
instance : Inf Tryd.prog 38 (.slice none 0 0) 1 24 := Inf.of (by kernel_rfl)
instance : Und Tryd.prog 39 (.int .u64) := ⟨Tryd.underlying39⟩
instance : Inf Tryd.prog 39 (.int .u64 0) 1 8 := Inf.of (by kernel_rfl)
instance : Und Tryd.prog 41 (.func #[38, 3] #[3, 4] false) := ⟨Tryd.underlying41⟩
instance : Inf Tryd.prog 41 .nilFunc 1 8 := Inf.of (by kernel_rfl)
instance : Und Tryd.prog 42 (.array 3 3) := ⟨Tryd.underlying42⟩
instance : Inf Tryd.prog 42 (.agg #[(.int .i64 0), (.int .i64 0), (.int .i64 0)]) 3 24 := Inf.of (by kernel_rfl)
instance : Und Tryd.prog 43 (.func #[38, 3] #[4] false) := ⟨Tryd.underlying43⟩
instance : Inf Tryd.prog 43 .nilFunc 1 8 := Inf.of (by kernel_rfl)
instance : Und Tryd.prog 44 (.func #[3, 3] #[4] false) := ⟨Tryd.underlying44⟩
instance : Inf Tryd.prog 44 .nilFunc 1 8 := Inf.of (by kernel_rfl)
instance : Und Tryd.prog 45 (.func #[3] #[4] false) := ⟨Tryd.underlying45⟩
instance : Inf Tryd.prog 45 .nilFunc 1 8 := Inf.of (by kernel_rfl)
instance : Und Tryd.prog 46 (.func #[38, 3] #[3] false) := ⟨Tryd.underlying46⟩
instance : Inf Tryd.prog 46 .nilFunc 1 8 := Inf.of (by kernel_rfl)
instance : Und Tryd.prog 47 (.func #[] #[9] false) := ⟨Tryd.underlying47⟩
instance : Inf Tryd.prog 47 .nilFunc 1 8 := Inf.of (by kernel_rfl)
instance : Und Tryd.prog 48 (.struct #[{ name := "_interface", type := 17, offset := 0, embedded := false, tag := "", pkgPath := "runtime", byteOffset := 0 }, { name := "concrete", type := 17, offset := 1, embedded := false, tag := "", pkgPath := "runtime", byteOffset := 8 }, { name := "asserted", type := 17, offset := 2, embedded := false, tag := "", pkgPath := "runtime", byteOffset := 16 }, { name := "missingMethod", type := 9, offset := 3, embedded := false, tag := "", pkgPath := "runtime", byteOffset := 24 }]) := ⟨Tryd.underlying48⟩
instance : Inf Tryd.prog 48 (.agg #[(.pointer none), (.pointer none), (.pointer none), (.string ByteArray.empty)]) 4 40 := Inf.of (by kernel_rfl)
instance : Und Tryd.prog 49 (.struct #[{ name := "_interface", type := 17, offset := 0, embedded := false, tag := "", pkgPath := "runtime", byteOffset := 0 }, { name := "concrete", type := 17, offset := 1, embedded := false, tag := "", pkgPath := "runtime", byteOffset := 8 }, { name := "asserted", type := 17, offset := 2, embedded := false, tag := "", pkgPath := "runtime", byteOffset := 16 }, { name := "missingMethod", type := 9, offset := 3, embedded := false, tag := "", pkgPath := "runtime", byteOffset := 24 }]) := ⟨Tryd.underlying49⟩
instance : Inf Tryd.prog 49 (.agg #[(.pointer none), (.pointer none), (.pointer none), (.string ByteArray.empty)]) 4 40 := Inf.of (by kernel_rfl)
instance : Und Tryd.prog 50 (.array 0 16) := ⟨Tryd.underlying50⟩
instance : Inf Tryd.prog 50 (.agg #[]) 0 0 := Inf.of (by kernel_rfl)
instance : Und Tryd.prog 51 (.struct #[{ name := "_", type := 50, offset := 0, embedded := false, tag := "", pkgPath := "runtime", byteOffset := 0 }]) := ⟨Tryd.underlying51⟩
instance : Inf Tryd.prog 51 (.agg #[]) 0 0 := Inf.of (by kernel_rfl)
instance : Und Tryd.prog 52 (.struct #[{ name := "_", type := 50, offset := 0, embedded := false, tag := "", pkgPath := "runtime", byteOffset := 0 }]) := ⟨Tryd.underlying52⟩
instance : Inf Tryd.prog 52 (.agg #[]) 0 0 := Inf.of (by kernel_rfl)
instance : Und Tryd.prog 53 (.func #[] #[3] false) := ⟨Tryd.underlying53⟩
instance : Inf Tryd.prog 53 .nilFunc 1 8 := Inf.of (by kernel_rfl)
instance : Und Tryd.prog 54 (.int .u32) := ⟨Tryd.underlying54⟩
instance : Inf Tryd.prog 54 (.int .u32 0) 1 4 := Inf.of (by kernel_rfl)
instance : Und Tryd.prog 55 (.int .u8) := ⟨Tryd.underlying55⟩
instance : Inf Tryd.prog 55 (.int .u8 0) 1 1 := Inf.of (by kernel_rfl)
instance : Und Tryd.prog 56 (.int .u8) := ⟨Tryd.underlying56⟩
instance : Inf Tryd.prog 56 (.int .u8 0) 1 1 := Inf.of (by kernel_rfl)
instance : Und Tryd.prog 57 (.func #[63, 63] #[4] false) := ⟨Tryd.underlying57⟩
instance : Inf Tryd.prog 57 .nilFunc 1 8 := Inf.of (by kernel_rfl)
instance : Und Tryd.prog 58 (.pointer 5) := ⟨Tryd.underlying58⟩
instance : Inf Tryd.prog 58 (.pointer none) 1 8 := Inf.of (by kernel_rfl)
instance : Und Tryd.prog 59 (.int .i32) := ⟨Tryd.underlying59⟩
instance : Inf Tryd.prog 59 (.int .i32 0) 1 4 := Inf.of (by kernel_rfl)
instance : Und Tryd.prog 60 (.int .i32) := ⟨Tryd.underlying60⟩
instance : Inf Tryd.prog 60 (.int .i32 0) 1 4 := Inf.of (by kernel_rfl)
instance : Und Tryd.prog 61 (.struct #[{ name := "Size_", type := 12, offset := 0, embedded := false, tag := "", pkgPath := "", byteOffset := 0 }, { name := "PtrBytes", type := 12, offset := 1, embedded := false, tag := "", pkgPath := "", byteOffset := 8 }, { name := "Hash", type := 54, offset := 2, embedded := false, tag := "", pkgPath := "", byteOffset := 16 }, { name := "TFlag", type := 55, offset := 3, embedded := false, tag := "", pkgPath := "", byteOffset := 20 }, { name := "Align_", type := 5, offset := 4, embedded := false, tag := "", pkgPath := "", byteOffset := 21 }, { name := "FieldAlign_", type := 5, offset := 5, embedded := false, tag := "", pkgPath := "", byteOffset := 22 }, { name := "Kind_", type := 56, offset := 6, embedded := false, tag := "", pkgPath := "", byteOffset := 23 }, { name := "Equal", type := 57, offset := 7, embedded := false, tag := "", pkgPath := "", byteOffset := 24 }, { name := "GCData", type := 58, offset := 8, embedded := false, tag := "", pkgPath := "", byteOffset := 32 }, { name := "Str", type := 59, offset := 9, embedded := false, tag := "", pkgPath := "", byteOffset := 40 }, { name := "PtrToThis", type := 60, offset := 10, embedded := false, tag := "", pkgPath := "", byteOffset := 44 }]) := ⟨Tryd.underlying61⟩
instance : Inf Tryd.prog 61 (.agg #[(.int .u64 0), (.int .u64 0), (.int .u32 0), (.int .u8 0), (.int .u8 0), (.int .u8 0), (.int .u8 0), .nilFunc, (.pointer none), (.int .i32 0), (.int .i32 0)]) 11 48 := Inf.of (by kernel_rfl)
instance : Und Tryd.prog 62 (.struct #[{ name := "Size_", type := 12, offset := 0, embedded := false, tag := "", pkgPath := "", byteOffset := 0 }, { name := "PtrBytes", type := 12, offset := 1, embedded := false, tag := "", pkgPath := "", byteOffset := 8 }, { name := "Hash", type := 54, offset := 2, embedded := false, tag := "", pkgPath := "", byteOffset := 16 }, { name := "TFlag", type := 55, offset := 3, embedded := false, tag := "", pkgPath := "", byteOffset := 20 }, { name := "Align_", type := 5, offset := 4, embedded := false, tag := "", pkgPath := "", byteOffset := 21 }, { name := "FieldAlign_", type := 5, offset := 5, embedded := false, tag := "", pkgPath := "", byteOffset := 22 }, { name := "Kind_", type := 56, offset := 6, embedded := false, tag := "", pkgPath := "", byteOffset := 23 }, { name := "Equal", type := 57, offset := 7, embedded := false, tag := "", pkgPath := "", byteOffset := 24 }, { name := "GCData", type := 58, offset := 8, embedded := false, tag := "", pkgPath := "", byteOffset := 32 }, { name := "Str", type := 59, offset := 9, embedded := false, tag := "", pkgPath := "", byteOffset := 40 }, { name := "PtrToThis", type := 60, offset := 10, embedded := false, tag := "", pkgPath := "", byteOffset := 44 }]) := ⟨Tryd.underlying62⟩
instance : Inf Tryd.prog 62 (.agg #[(.int .u64 0), (.int .u64 0), (.int .u32 0), (.int .u8 0), (.int .u8 0), (.int .u8 0), (.int .u8 0), .nilFunc, (.pointer none), (.int .i32 0), (.int .i32 0)]) 11 48 := Inf.of (by kernel_rfl)
instance : Und Tryd.prog 63 .unsafePointer := ⟨Tryd.underlying63⟩
instance : Inf Tryd.prog 63 (.pointer none) 1 8 := Inf.of (by kernel_rfl)
set_option maxRecDepth 100000 in
abbrev Trydtt : TT := [(1, (.func #[] #[] false), some (.nilFunc, 1, 8)),
  (2, (.int .i64), some ((.int .i64 0), 1, 8)),
  (3, (.int .i64), some ((.int .i64 0), 1, 8)),
  (4, .bool, some ((.bool false), 1, 1)),
  (5, (.int .u8), some ((.int .u8 0), 1, 1)),
  (6, (.int .u8), some ((.int .u8 0), 1, 1)),
  (7, (.struct #[{ name := "x", type := 2, offset := 0, embedded := false, tag := "", pkgPath := "runtime", byteOffset := 0 }, { name := "y", type := 3, offset := 1, embedded := false, tag := "", pkgPath := "runtime", byteOffset := 8 }, { name := "signed", type := 4, offset := 2, embedded := false, tag := "", pkgPath := "runtime", byteOffset := 16 }, { name := "code", type := 6, offset := 3, embedded := false, tag := "", pkgPath := "runtime", byteOffset := 17 }]), some ((.agg #[(.int .i64 0), (.int .i64 0), (.bool false), (.int .u8 0)]), 4, 24)),
  (8, (.struct #[{ name := "x", type := 2, offset := 0, embedded := false, tag := "", pkgPath := "runtime", byteOffset := 0 }, { name := "y", type := 3, offset := 1, embedded := false, tag := "", pkgPath := "runtime", byteOffset := 8 }, { name := "signed", type := 4, offset := 2, embedded := false, tag := "", pkgPath := "runtime", byteOffset := 16 }, { name := "code", type := 6, offset := 3, embedded := false, tag := "", pkgPath := "runtime", byteOffset := 17 }]), some ((.agg #[(.int .i64 0), (.int .i64 0), (.bool false), (.int .u8 0)]), 4, 24)),
  (9, .string, some ((.string ByteArray.empty), 1, 16)),
  (10, .string, some ((.string ByteArray.empty), 1, 16)),
  (11, .string, some ((.string ByteArray.empty), 1, 16)),
  (12, (.int .u64), some ((.int .u64 0), 1, 8)),
  (13, (.struct #[{ name := "msg", type := 9, offset := 0, embedded := false, tag := "", pkgPath := "runtime", byteOffset := 0 }, { name := "addr", type := 12, offset := 1, embedded := false, tag := "", pkgPath := "runtime", byteOffset := 16 }]), some ((.agg #[(.string ByteArray.empty), (.int .u64 0)]), 2, 24)),
  (14, (.struct #[{ name := "msg", type := 9, offset := 0, embedded := false, tag := "", pkgPath := "runtime", byteOffset := 0 }, { name := "addr", type := 12, offset := 1, embedded := false, tag := "", pkgPath := "runtime", byteOffset := 16 }]), some ((.agg #[(.string ByteArray.empty), (.int .u64 0)]), 2, 24)),
  (15, (.pointer 49), some ((.pointer none), 1, 8)),
  (16, (.pointer 52), some ((.pointer none), 1, 8)),
  (17, (.pointer 62), some ((.pointer none), 1, 8)),
  (18, (.struct #[{ name := "typ", type := 17, offset := 0, embedded := false, tag := "", pkgPath := "internal/runtime/maps", byteOffset := 0 }]), some ((.agg #[(.pointer none)]), 1, 8)),
  (19, (.struct #[{ name := "typ", type := 17, offset := 0, embedded := false, tag := "", pkgPath := "internal/runtime/maps", byteOffset := 0 }]), some ((.agg #[(.pointer none)]), 1, 8)),
  (21, (.int .i32), some ((.int .i32 0), 1, 4)),
  (22, (.slice 5), some ((.slice none 0 0), 1, 24)),
  (23, (.func #[22] #[22] false), some (.nilFunc, 1, 8)),
  (24, (.int .i64), some ((.int .i64 0), 1, 8)),
  (26, (.func #[22, 4] #[22, 24] false), some (.nilFunc, 1, 8)),
  (27, (.func #[22, 22] #[4] false), some (.nilFunc, 1, 8)),
  (28, (.func #[3] #[3] false), some (.nilFunc, 1, 8)),
  (29, (.func #[] #[4] false), some (.nilFunc, 1, 8)),
  (30, (.func #[22, 4, 3] #[4] false), some (.nilFunc, 1, 8)),
  (32, (.func #[22] #[22, 4, 24] false), some (.nilFunc, 1, 8)),
  (33, (.func #[22] #[4] false), some (.nilFunc, 1, 8)),
  (34, (.func #[22, 4] #[4] false), some (.nilFunc, 1, 8)),
  (35, (.func #[3, 3] #[3] false), some (.nilFunc, 1, 8)),
  (36, (.func #[3, 3, 5] #[4] false), some (.nilFunc, 1, 8)),
  (37, (.func #[22, 3, 5] #[4] false), some (.nilFunc, 1, 8)),
  (38, (.slice 3), some ((.slice none 0 0), 1, 24)),
  (39, (.int .u64), some ((.int .u64 0), 1, 8)),
  (41, (.func #[38, 3] #[3, 4] false), some (.nilFunc, 1, 8)),
  (42, (.array 3 3), some ((.agg #[(.int .i64 0), (.int .i64 0), (.int .i64 0)]), 3, 24)),
  (43, (.func #[38, 3] #[4] false), some (.nilFunc, 1, 8)),
  (44, (.func #[3, 3] #[4] false), some (.nilFunc, 1, 8)),
  (45, (.func #[3] #[4] false), some (.nilFunc, 1, 8)),
  (46, (.func #[38, 3] #[3] false), some (.nilFunc, 1, 8)),
  (47, (.func #[] #[9] false), some (.nilFunc, 1, 8)),
  (48, (.struct #[{ name := "_interface", type := 17, offset := 0, embedded := false, tag := "", pkgPath := "runtime", byteOffset := 0 }, { name := "concrete", type := 17, offset := 1, embedded := false, tag := "", pkgPath := "runtime", byteOffset := 8 }, { name := "asserted", type := 17, offset := 2, embedded := false, tag := "", pkgPath := "runtime", byteOffset := 16 }, { name := "missingMethod", type := 9, offset := 3, embedded := false, tag := "", pkgPath := "runtime", byteOffset := 24 }]), some ((.agg #[(.pointer none), (.pointer none), (.pointer none), (.string ByteArray.empty)]), 4, 40)),
  (49, (.struct #[{ name := "_interface", type := 17, offset := 0, embedded := false, tag := "", pkgPath := "runtime", byteOffset := 0 }, { name := "concrete", type := 17, offset := 1, embedded := false, tag := "", pkgPath := "runtime", byteOffset := 8 }, { name := "asserted", type := 17, offset := 2, embedded := false, tag := "", pkgPath := "runtime", byteOffset := 16 }, { name := "missingMethod", type := 9, offset := 3, embedded := false, tag := "", pkgPath := "runtime", byteOffset := 24 }]), some ((.agg #[(.pointer none), (.pointer none), (.pointer none), (.string ByteArray.empty)]), 4, 40)),
  (50, (.array 0 16), some ((.agg #[]), 0, 0)),
  (51, (.struct #[{ name := "_", type := 50, offset := 0, embedded := false, tag := "", pkgPath := "runtime", byteOffset := 0 }]), some ((.agg #[]), 0, 0)),
  (52, (.struct #[{ name := "_", type := 50, offset := 0, embedded := false, tag := "", pkgPath := "runtime", byteOffset := 0 }]), some ((.agg #[]), 0, 0)),
  (53, (.func #[] #[3] false), some (.nilFunc, 1, 8)),
  (54, (.int .u32), some ((.int .u32 0), 1, 4)),
  (55, (.int .u8), some ((.int .u8 0), 1, 1)),
  (56, (.int .u8), some ((.int .u8 0), 1, 1)),
  (57, (.func #[63, 63] #[4] false), some (.nilFunc, 1, 8)),
  (58, (.pointer 5), some ((.pointer none), 1, 8)),
  (59, (.int .i32), some ((.int .i32 0), 1, 4)),
  (60, (.int .i32), some ((.int .i32 0), 1, 4)),
  (61, (.struct #[{ name := "Size_", type := 12, offset := 0, embedded := false, tag := "", pkgPath := "", byteOffset := 0 }, { name := "PtrBytes", type := 12, offset := 1, embedded := false, tag := "", pkgPath := "", byteOffset := 8 }, { name := "Hash", type := 54, offset := 2, embedded := false, tag := "", pkgPath := "", byteOffset := 16 }, { name := "TFlag", type := 55, offset := 3, embedded := false, tag := "", pkgPath := "", byteOffset := 20 }, { name := "Align_", type := 5, offset := 4, embedded := false, tag := "", pkgPath := "", byteOffset := 21 }, { name := "FieldAlign_", type := 5, offset := 5, embedded := false, tag := "", pkgPath := "", byteOffset := 22 }, { name := "Kind_", type := 56, offset := 6, embedded := false, tag := "", pkgPath := "", byteOffset := 23 }, { name := "Equal", type := 57, offset := 7, embedded := false, tag := "", pkgPath := "", byteOffset := 24 }, { name := "GCData", type := 58, offset := 8, embedded := false, tag := "", pkgPath := "", byteOffset := 32 }, { name := "Str", type := 59, offset := 9, embedded := false, tag := "", pkgPath := "", byteOffset := 40 }, { name := "PtrToThis", type := 60, offset := 10, embedded := false, tag := "", pkgPath := "", byteOffset := 44 }]), some ((.agg #[(.int .u64 0), (.int .u64 0), (.int .u32 0), (.int .u8 0), (.int .u8 0), (.int .u8 0), (.int .u8 0), .nilFunc, (.pointer none), (.int .i32 0), (.int .i32 0)]), 11, 48)),
  (62, (.struct #[{ name := "Size_", type := 12, offset := 0, embedded := false, tag := "", pkgPath := "", byteOffset := 0 }, { name := "PtrBytes", type := 12, offset := 1, embedded := false, tag := "", pkgPath := "", byteOffset := 8 }, { name := "Hash", type := 54, offset := 2, embedded := false, tag := "", pkgPath := "", byteOffset := 16 }, { name := "TFlag", type := 55, offset := 3, embedded := false, tag := "", pkgPath := "", byteOffset := 20 }, { name := "Align_", type := 5, offset := 4, embedded := false, tag := "", pkgPath := "", byteOffset := 21 }, { name := "FieldAlign_", type := 5, offset := 5, embedded := false, tag := "", pkgPath := "", byteOffset := 22 }, { name := "Kind_", type := 56, offset := 6, embedded := false, tag := "", pkgPath := "", byteOffset := 23 }, { name := "Equal", type := 57, offset := 7, embedded := false, tag := "", pkgPath := "", byteOffset := 24 }, { name := "GCData", type := 58, offset := 8, embedded := false, tag := "", pkgPath := "", byteOffset := 32 }, { name := "Str", type := 59, offset := 9, embedded := false, tag := "", pkgPath := "", byteOffset := 40 }, { name := "PtrToThis", type := 60, offset := 10, embedded := false, tag := "", pkgPath := "", byteOffset := 44 }]), some ((.agg #[(.int .u64 0), (.int .u64 0), (.int .u32 0), (.int .u8 0), (.int .u8 0), (.int .u8 0), (.int .u8 0), .nilFunc, (.pointer none), (.int .i32 0), (.int .i32 0)]), 11, 48)),
  (63, .unsafePointer, some ((.pointer none), 1, 8))]
set_option maxRecDepth 100000 in
instance : Tys Tryd.prog := ⟨Trydtt,
  ⟨⟨inferInstance, (inferInstance : Inf Tryd.prog 1 .nilFunc 1 8)⟩,
  ⟨⟨inferInstance, (inferInstance : Inf Tryd.prog 2 (.int .i64 0) 1 8)⟩,
  ⟨⟨inferInstance, (inferInstance : Inf Tryd.prog 3 (.int .i64 0) 1 8)⟩,
  ⟨⟨inferInstance, (inferInstance : Inf Tryd.prog 4 (.bool false) 1 1)⟩,
  ⟨⟨inferInstance, (inferInstance : Inf Tryd.prog 5 (.int .u8 0) 1 1)⟩,
  ⟨⟨inferInstance, (inferInstance : Inf Tryd.prog 6 (.int .u8 0) 1 1)⟩,
  ⟨⟨inferInstance, (inferInstance : Inf Tryd.prog 7 (.agg #[(.int .i64 0), (.int .i64 0), (.bool false), (.int .u8 0)]) 4 24)⟩,
  ⟨⟨inferInstance, (inferInstance : Inf Tryd.prog 8 (.agg #[(.int .i64 0), (.int .i64 0), (.bool false), (.int .u8 0)]) 4 24)⟩,
  ⟨⟨inferInstance, (inferInstance : Inf Tryd.prog 9 (.string ByteArray.empty) 1 16)⟩,
  ⟨⟨inferInstance, (inferInstance : Inf Tryd.prog 10 (.string ByteArray.empty) 1 16)⟩,
  ⟨⟨inferInstance, (inferInstance : Inf Tryd.prog 11 (.string ByteArray.empty) 1 16)⟩,
  ⟨⟨inferInstance, (inferInstance : Inf Tryd.prog 12 (.int .u64 0) 1 8)⟩,
  ⟨⟨inferInstance, (inferInstance : Inf Tryd.prog 13 (.agg #[(.string ByteArray.empty), (.int .u64 0)]) 2 24)⟩,
  ⟨⟨inferInstance, (inferInstance : Inf Tryd.prog 14 (.agg #[(.string ByteArray.empty), (.int .u64 0)]) 2 24)⟩,
  ⟨⟨inferInstance, (inferInstance : Inf Tryd.prog 15 (.pointer none) 1 8)⟩,
  ⟨⟨inferInstance, (inferInstance : Inf Tryd.prog 16 (.pointer none) 1 8)⟩,
  ⟨⟨inferInstance, (inferInstance : Inf Tryd.prog 17 (.pointer none) 1 8)⟩,
  ⟨⟨inferInstance, (inferInstance : Inf Tryd.prog 18 (.agg #[(.pointer none)]) 1 8)⟩,
  ⟨⟨inferInstance, (inferInstance : Inf Tryd.prog 19 (.agg #[(.pointer none)]) 1 8)⟩,
  ⟨⟨inferInstance, (inferInstance : Inf Tryd.prog 21 (.int .i32 0) 1 4)⟩,
  ⟨⟨inferInstance, (inferInstance : Inf Tryd.prog 22 (.slice none 0 0) 1 24)⟩,
  ⟨⟨inferInstance, (inferInstance : Inf Tryd.prog 23 .nilFunc 1 8)⟩,
  ⟨⟨inferInstance, (inferInstance : Inf Tryd.prog 24 (.int .i64 0) 1 8)⟩,
  ⟨⟨inferInstance, (inferInstance : Inf Tryd.prog 26 .nilFunc 1 8)⟩,
  ⟨⟨inferInstance, (inferInstance : Inf Tryd.prog 27 .nilFunc 1 8)⟩,
  ⟨⟨inferInstance, (inferInstance : Inf Tryd.prog 28 .nilFunc 1 8)⟩,
  ⟨⟨inferInstance, (inferInstance : Inf Tryd.prog 29 .nilFunc 1 8)⟩,
  ⟨⟨inferInstance, (inferInstance : Inf Tryd.prog 30 .nilFunc 1 8)⟩,
  ⟨⟨inferInstance, (inferInstance : Inf Tryd.prog 32 .nilFunc 1 8)⟩,
  ⟨⟨inferInstance, (inferInstance : Inf Tryd.prog 33 .nilFunc 1 8)⟩,
  ⟨⟨inferInstance, (inferInstance : Inf Tryd.prog 34 .nilFunc 1 8)⟩,
  ⟨⟨inferInstance, (inferInstance : Inf Tryd.prog 35 .nilFunc 1 8)⟩,
  ⟨⟨inferInstance, (inferInstance : Inf Tryd.prog 36 .nilFunc 1 8)⟩,
  ⟨⟨inferInstance, (inferInstance : Inf Tryd.prog 37 .nilFunc 1 8)⟩,
  ⟨⟨inferInstance, (inferInstance : Inf Tryd.prog 38 (.slice none 0 0) 1 24)⟩,
  ⟨⟨inferInstance, (inferInstance : Inf Tryd.prog 39 (.int .u64 0) 1 8)⟩,
  ⟨⟨inferInstance, (inferInstance : Inf Tryd.prog 41 .nilFunc 1 8)⟩,
  ⟨⟨inferInstance, (inferInstance : Inf Tryd.prog 42 (.agg #[(.int .i64 0), (.int .i64 0), (.int .i64 0)]) 3 24)⟩,
  ⟨⟨inferInstance, (inferInstance : Inf Tryd.prog 43 .nilFunc 1 8)⟩,
  ⟨⟨inferInstance, (inferInstance : Inf Tryd.prog 44 .nilFunc 1 8)⟩,
  ⟨⟨inferInstance, (inferInstance : Inf Tryd.prog 45 .nilFunc 1 8)⟩,
  ⟨⟨inferInstance, (inferInstance : Inf Tryd.prog 46 .nilFunc 1 8)⟩,
  ⟨⟨inferInstance, (inferInstance : Inf Tryd.prog 47 .nilFunc 1 8)⟩,
  ⟨⟨inferInstance, (inferInstance : Inf Tryd.prog 48 (.agg #[(.pointer none), (.pointer none), (.pointer none), (.string ByteArray.empty)]) 4 40)⟩,
  ⟨⟨inferInstance, (inferInstance : Inf Tryd.prog 49 (.agg #[(.pointer none), (.pointer none), (.pointer none), (.string ByteArray.empty)]) 4 40)⟩,
  ⟨⟨inferInstance, (inferInstance : Inf Tryd.prog 50 (.agg #[]) 0 0)⟩,
  ⟨⟨inferInstance, (inferInstance : Inf Tryd.prog 51 (.agg #[]) 0 0)⟩,
  ⟨⟨inferInstance, (inferInstance : Inf Tryd.prog 52 (.agg #[]) 0 0)⟩,
  ⟨⟨inferInstance, (inferInstance : Inf Tryd.prog 53 .nilFunc 1 8)⟩,
  ⟨⟨inferInstance, (inferInstance : Inf Tryd.prog 54 (.int .u32 0) 1 4)⟩,
  ⟨⟨inferInstance, (inferInstance : Inf Tryd.prog 55 (.int .u8 0) 1 1)⟩,
  ⟨⟨inferInstance, (inferInstance : Inf Tryd.prog 56 (.int .u8 0) 1 1)⟩,
  ⟨⟨inferInstance, (inferInstance : Inf Tryd.prog 57 .nilFunc 1 8)⟩,
  ⟨⟨inferInstance, (inferInstance : Inf Tryd.prog 58 (.pointer none) 1 8)⟩,
  ⟨⟨inferInstance, (inferInstance : Inf Tryd.prog 59 (.int .i32 0) 1 4)⟩,
  ⟨⟨inferInstance, (inferInstance : Inf Tryd.prog 60 (.int .i32 0) 1 4)⟩,
  ⟨⟨inferInstance, (inferInstance : Inf Tryd.prog 61 (.agg #[(.int .u64 0), (.int .u64 0), (.int .u32 0), (.int .u8 0), (.int .u8 0), (.int .u8 0), (.int .u8 0), .nilFunc, (.pointer none), (.int .i32 0), (.int .i32 0)]) 11 48)⟩,
  ⟨⟨inferInstance, (inferInstance : Inf Tryd.prog 62 (.agg #[(.int .u64 0), (.int .u64 0), (.int .u32 0), (.int .u8 0), (.int .u8 0), (.int .u8 0), (.int .u8 0), .nilFunc, (.pointer none), (.int .i32 0), (.int .i32 0)]) 11 48)⟩,
  ⟨⟨inferInstance, (inferInstance : Inf Tryd.prog 63 (.pointer none) 1 8)⟩, trivial⟩⟩⟩⟩⟩⟩⟩⟩⟩⟩⟩⟩⟩⟩⟩⟩⟩⟩⟩⟩⟩⟩⟩⟩⟩⟩⟩⟩⟩⟩⟩⟩⟩⟩⟩⟩⟩⟩⟩⟩⟩⟩⟩⟩⟩⟩⟩⟩⟩⟩⟩⟩⟩⟩⟩⟩⟩⟩⟩⟩
instance : Fun Tryd.prog 2 := ⟨_, _, Tryd.func2, rfl, by kernel_rfl⟩
instance : Fun Tryd.prog 3 := ⟨_, _, Tryd.func3, rfl, by kernel_rfl⟩
instance : Fun Tryd.prog 4 := ⟨_, _, Tryd.func4, rfl, by kernel_rfl⟩
instance : Fun Tryd.prog 5 := ⟨_, _, Tryd.func5, rfl, by kernel_rfl⟩
instance : Fun Tryd.prog 6 := ⟨_, _, Tryd.func6, rfl, by kernel_rfl⟩
instance : Fun Tryd.prog 7 := ⟨_, _, Tryd.func7, rfl, by kernel_rfl⟩
instance : Fun Tryd.prog 8 := ⟨_, _, Tryd.func8, rfl, by kernel_rfl⟩
instance : Fun Tryd.prog 9 := ⟨_, _, Tryd.func9, rfl, by kernel_rfl⟩
instance : Fun Tryd.prog 10 := ⟨_, _, Tryd.func10, rfl, by kernel_rfl⟩
instance : Fun Tryd.prog 11 := ⟨_, _, Tryd.func11, rfl, by kernel_rfl⟩
instance : Fun Tryd.prog 12 := ⟨_, _, Tryd.func12, rfl, by kernel_rfl⟩
instance : Fun Tryd.prog 13 := ⟨_, _, Tryd.func13, rfl, by kernel_rfl⟩
instance : Fun Tryd.prog 14 := ⟨_, _, Tryd.func14, rfl, by kernel_rfl⟩
instance : Fun Tryd.prog 15 := ⟨_, _, Tryd.func15, rfl, by kernel_rfl⟩
instance : Fun Tryd.prog 16 := ⟨_, _, Tryd.func16, rfl, by kernel_rfl⟩
instance : Fun Tryd.prog 17 := ⟨_, _, Tryd.func17, rfl, by kernel_rfl⟩
instance : Fun Tryd.prog 18 := ⟨_, _, Tryd.func18, rfl, by kernel_rfl⟩
instance : Fun Tryd.prog 19 := ⟨_, _, Tryd.func19, rfl, by kernel_rfl⟩
instance : Fun Tryd.prog 20 := ⟨_, _, Tryd.func20, rfl, by kernel_rfl⟩
instance : Fun Tryd.prog 21 := ⟨_, _, Tryd.func21, rfl, by kernel_rfl⟩
instance : Fun Tryd.prog 22 := ⟨_, _, Tryd.func22, rfl, by kernel_rfl⟩
instance : Fun Tryd.prog 23 := ⟨_, _, Tryd.func23, rfl, by kernel_rfl⟩
instance : Fun Tryd.prog 24 := ⟨_, _, Tryd.func24, rfl, by kernel_rfl⟩
instance : Fun Tryd.prog 25 := ⟨_, _, Tryd.func25, rfl, by kernel_rfl⟩
instance : Fun Tryd.prog 26 := ⟨_, _, Tryd.func26, rfl, by kernel_rfl⟩
instance : Fun Tryd.prog 47 := ⟨_, _, Tryd.func47, rfl, by kernel_rfl⟩
instance : Mix Tryd.prog := ⟨by kernel_rfl⟩
end Go.SX
