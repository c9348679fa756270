/- The types of this translation, as instances. -/
import Derived.Test.YtkiofjedeecijaaProg
import Derived.Test.YtkiofjedeecijaaSy
namespace Go.SX
open Go.Proofs
instance : Und Try.prog 1 (.func #[] #[] false) := ⟨Try.underlying1⟩
instance : Inf Try.prog 1 .nilFunc 1 8 := Inf.of (by kernel_rfl)
instance : Und Try.prog 2 (.int .i64) := ⟨Try.underlying2⟩
instance : Inf Try.prog 2 (.int .i64 0) 1 8 := Inf.of (by kernel_rfl)
instance : Und Try.prog 3 (.int .i64) := ⟨Try.underlying3⟩
instance : Inf Try.prog 3 (.int .i64 0) 1 8 := Inf.of (by kernel_rfl)
instance : Und Try.prog 4 .bool := ⟨Try.underlying4⟩
instance : Inf Try.prog 4 (.bool false) 1 1 := Inf.of (by kernel_rfl)
instance : Und Try.prog 5 (.int .u8) := ⟨Try.underlying5⟩
instance : Inf Try.prog 5 (.int .u8 0) 1 1 := Inf.of (by kernel_rfl)
instance : Und Try.prog 6 (.int .u8) := ⟨Try.underlying6⟩
instance : Inf Try.prog 6 (.int .u8 0) 1 1 := Inf.of (by kernel_rfl)
instance : Und Try.prog 7 (.struct #[{ name := "x", type := 2, offset := 0, embedded := false, tag := "", pkgPath := "runtime", byteOffset := 0 }, { name := "y", type := 3, offset := 1, embedded := false, tag := "", pkgPath := "runtime", byteOffset := 8 }, { name := "signed", type := 4, offset := 2, embedded := false, tag := "", pkgPath := "runtime", byteOffset := 16 }, { name := "code", type := 6, offset := 3, embedded := false, tag := "", pkgPath := "runtime", byteOffset := 17 }]) := ⟨Try.underlying7⟩
instance : Inf Try.prog 7 (.agg #[(.int .i64 0), (.int .i64 0), (.bool false), (.int .u8 0)]) 4 24 := Inf.of (by kernel_rfl)
instance : Und Try.prog 8 (.struct #[{ name := "x", type := 2, offset := 0, embedded := false, tag := "", pkgPath := "runtime", byteOffset := 0 }, { name := "y", type := 3, offset := 1, embedded := false, tag := "", pkgPath := "runtime", byteOffset := 8 }, { name := "signed", type := 4, offset := 2, embedded := false, tag := "", pkgPath := "runtime", byteOffset := 16 }, { name := "code", type := 6, offset := 3, embedded := false, tag := "", pkgPath := "runtime", byteOffset := 17 }]) := ⟨Try.underlying8⟩
instance : Inf Try.prog 8 (.agg #[(.int .i64 0), (.int .i64 0), (.bool false), (.int .u8 0)]) 4 24 := Inf.of (by kernel_rfl)
instance : Und Try.prog 9 .string := ⟨Try.underlying9⟩
instance : Inf Try.prog 9 (.string ByteArray.empty) 1 16 := Inf.of (by kernel_rfl)
instance : Und Try.prog 10 .string := ⟨Try.underlying10⟩
instance : Inf Try.prog 10 (.string ByteArray.empty) 1 16 := Inf.of (by kernel_rfl)
instance : Und Try.prog 11 .string := ⟨Try.underlying11⟩
instance : Inf Try.prog 11 (.string ByteArray.empty) 1 16 := Inf.of (by kernel_rfl)
instance : Und Try.prog 12 (.int .u64) := ⟨Try.underlying12⟩
instance : Inf Try.prog 12 (.int .u64 0) 1 8 := Inf.of (by kernel_rfl)
instance : Und Try.prog 13 (.struct #[{ name := "msg", type := 9, offset := 0, embedded := false, tag := "", pkgPath := "runtime", byteOffset := 0 }, { name := "addr", type := 12, offset := 1, embedded := false, tag := "", pkgPath := "runtime", byteOffset := 16 }]) := ⟨Try.underlying13⟩
instance : Inf Try.prog 13 (.agg #[(.string ByteArray.empty), (.int .u64 0)]) 2 24 := Inf.of (by kernel_rfl)
instance : Und Try.prog 14 (.struct #[{ name := "msg", type := 9, offset := 0, embedded := false, tag := "", pkgPath := "runtime", byteOffset := 0 }, { name := "addr", type := 12, offset := 1, embedded := false, tag := "", pkgPath := "runtime", byteOffset := 16 }]) := ⟨Try.underlying14⟩
instance : Inf Try.prog 14 (.agg #[(.string ByteArray.empty), (.int .u64 0)]) 2 24 := Inf.of (by kernel_rfl)
instance : Und Try.prog 15 (.pointer 95) := ⟨Try.underlying15⟩
instance : Inf Try.prog 15 (.pointer none) 1 8 := Inf.of (by kernel_rfl)
instance : Und Try.prog 16 (.pointer 98) := ⟨Try.underlying16⟩
instance : Inf Try.prog 16 (.pointer none) 1 8 := Inf.of (by kernel_rfl)
instance : Und Try.prog 17 (.pointer 107) := ⟨Try.underlying17⟩
instance : Inf Try.prog 17 (.pointer none) 1 8 := Inf.of (by kernel_rfl)
instance : Und Try.prog 18 (.struct #[{ name := "typ", type := 17, offset := 0, embedded := false, tag := "", pkgPath := "internal/runtime/maps", byteOffset := 0 }]) := ⟨Try.underlying18⟩
instance : Inf Try.prog 18 (.agg #[(.pointer none)]) 1 8 := Inf.of (by kernel_rfl)
instance : Und Try.prog 19 (.struct #[{ name := "typ", type := 17, offset := 0, embedded := false, tag := "", pkgPath := "internal/runtime/maps", byteOffset := 0 }]) := ⟨Try.underlying19⟩
instance : Inf Try.prog 19 (.agg #[(.pointer none)]) 1 8 := Inf.of (by kernel_rfl)
instance : Inf Try.prog 20 .nilIface 1 16 := Inf.of (by kernel_rfl)
instance : Und Try.prog 21 (.int .i32) := ⟨Try.underlying21⟩
instance : Inf Try.prog 21 (.int .i32 0) 1 4 := Inf.of (by kernel_rfl)
instance : Und Try.prog 22 (.slice 52) := ⟨Try.underlying22⟩
instance : Inf Try.prog 22 (.slice none 0 0) 1 24 := Inf.of (by kernel_rfl)
instance : Und Try.prog 23 (.slice 37) := ⟨Try.underlying23⟩
instance : Inf Try.prog 23 (.slice none 0 0) 1 24 := Inf.of (by kernel_rfl)
instance : Und Try.prog 24 (.func #[22, 3] #[23] false) := ⟨Try.underlying24⟩
instance : Inf Try.prog 24 .nilFunc 1 8 := Inf.of (by kernel_rfl)
instance : Und Try.prog 25 (.pointer 64) := ⟨Try.underlying25⟩
instance : Inf Try.prog 25 (.pointer none) 1 8 := Inf.of (by kernel_rfl)
instance : Und Try.prog 26 (.func #[23] #[25] true) := ⟨Try.underlying26⟩
instance : Inf Try.prog 26 .nilFunc 1 8 := Inf.of (by kernel_rfl)
instance : Und Try.prog 27 (.array 14 3) := ⟨Try.underlying27⟩
instance : Inf Try.prog 27 (.agg #[(.int .i64 0), (.int .i64 0), (.int .i64 0), (.int .i64 0), (.int .i64 0), (.int .i64 0), (.int .i64 0), (.int .i64 0), (.int .i64 0), (.int .i64 0), (.int .i64 0), (.int .i64 0), (.int .i64 0), (.int .i64 0)]) 14 112 := Inf.of (by kernel_rfl)
instance : Und Try.prog 28 (.array 14 23) := ⟨Try.underlying28⟩
instance : Inf Try.prog 28 (.agg #[(.slice none 0 0), (.slice none 0 0), (.slice none 0 0), (.slice none 0 0), (.slice none 0 0), (.slice none 0 0), (.slice none 0 0), (.slice none 0 0), (.slice none 0 0), (.slice none 0 0), (.slice none 0 0), (.slice none 0 0), (.slice none 0 0), (.slice none 0 0)]) 14 336 := Inf.of (by kernel_rfl)
instance : Und Try.prog 29 (.slice 3) := ⟨Try.underlying29⟩
instance : Inf Try.prog 29 (.slice none 0 0) 1 24 := Inf.of (by kernel_rfl)
instance : Und Try.prog 30 (.func #[] #[29] false) := ⟨Try.underlying30⟩
instance : Inf Try.prog 30 .nilFunc 1 8 := Inf.of (by kernel_rfl)
instance : Und Try.prog 31 (.func #[3] #[25] false) := ⟨Try.underlying31⟩
instance : Inf Try.prog 31 .nilFunc 1 8 := Inf.of (by kernel_rfl)
instance : Und Try.prog 32 (.func #[] #[23] false) := ⟨Try.underlying32⟩
instance : Inf Try.prog 32 .nilFunc 1 8 := Inf.of (by kernel_rfl)
instance : Und Try.prog 33 (.array 3 3) := ⟨Try.underlying33⟩
instance : Inf Try.prog 33 (.agg #[(.int .i64 0), (.int .i64 0), (.int .i64 0)]) 3 24 := Inf.of (by kernel_rfl)
instance : Und Try.prog 34 (.func #[3] #[33] false) := ⟨Try.underlying34⟩
instance : Inf Try.prog 34 .nilFunc 1 8 := Inf.of (by kernel_rfl)
instance : Und Try.prog 35 (.slice 5) := ⟨Try.underlying35⟩
instance : Inf Try.prog 35 (.slice none 0 0) 1 24 := Inf.of (by kernel_rfl)
instance : Und Try.prog 36 (.struct #[{ name := "Step", type := 3, offset := 0, embedded := false, tag := "", pkgPath := "", byteOffset := 0 }, { name := "Node", type := 3, offset := 1, embedded := false, tag := "", pkgPath := "", byteOffset := 8 }, { name := "Kind", type := 3, offset := 2, embedded := false, tag := "", pkgPath := "", byteOffset := 16 }, { name := "Bytes", type := 35, offset := 3, embedded := false, tag := "", pkgPath := "", byteOffset := 24 }]) := ⟨Try.underlying36⟩
instance : Inf Try.prog 36 (.agg #[(.int .i64 0), (.int .i64 0), (.int .i64 0), (.slice none 0 0)]) 4 48 := Inf.of (by kernel_rfl)
instance : Und Try.prog 37 (.struct #[{ name := "Step", type := 3, offset := 0, embedded := false, tag := "", pkgPath := "", byteOffset := 0 }, { name := "Node", type := 3, offset := 1, embedded := false, tag := "", pkgPath := "", byteOffset := 8 }, { name := "Kind", type := 3, offset := 2, embedded := false, tag := "", pkgPath := "", byteOffset := 16 }, { name := "Bytes", type := 35, offset := 3, embedded := false, tag := "", pkgPath := "", byteOffset := 24 }]) := ⟨Try.underlying37⟩
instance : Inf Try.prog 37 (.agg #[(.int .i64 0), (.int .i64 0), (.int .i64 0), (.slice none 0 0)]) 4 48 := Inf.of (by kernel_rfl)
instance : Und Try.prog 38 (.func #[35, 35] #[4] false) := ⟨Try.underlying38⟩
instance : Inf Try.prog 38 .nilFunc 1 8 := Inf.of (by kernel_rfl)
instance : Und Try.prog 39 (.func #[] #[4] false) := ⟨Try.underlying39⟩
instance : Inf Try.prog 39 .nilFunc 1 8 := Inf.of (by kernel_rfl)
instance : Und Try.prog 40 (.func #[22] #[4] false) := ⟨Try.underlying40⟩
instance : Inf Try.prog 40 .nilFunc 1 8 := Inf.of (by kernel_rfl)
instance : Und Try.prog 41 (.func #[3, 3] #[3] false) := ⟨Try.underlying41⟩
instance : Inf Try.prog 41 .nilFunc 1 8 := Inf.of (by kernel_rfl)
instance : Und Try.prog 42 (.func #[] #[3] false) := ⟨Try.underlying42⟩
instance : Inf Try.prog 42 .nilFunc 1 8 := Inf.of (by kernel_rfl)
instance : Und Try.prog 43 (.func #[25] #[3] false) := ⟨Try.underlying43⟩
instance : Inf Try.prog 43 .nilFunc 1 8 := Inf.of (by kernel_rfl)
instance : Und Try.prog 44 (.int .i64) := ⟨Try.underlying44⟩
instance : Inf Try.prog 44 (.int .i64 0) 1 8 := Inf.of (by kernel_rfl)
instance : Und Try.prog 45 (.func #[37] #[44] false) := ⟨Try.underlying45⟩
instance : Inf Try.prog 45 .nilFunc 1 8 := Inf.of (by kernel_rfl)
instance : Und Try.prog 46 (.func #[22, 3] #[4] false) := ⟨Try.underlying46⟩
instance : Inf Try.prog 46 .nilFunc 1 8 := Inf.of (by kernel_rfl)
instance : Und Try.prog 48 (.func #[35] #[25, 44] false) := ⟨Try.underlying48⟩
instance : Inf Try.prog 48 .nilFunc 1 8 := Inf.of (by kernel_rfl)
instance : Und Try.prog 49 (.func #[] #[35] false) := ⟨Try.underlying49⟩
instance : Inf Try.prog 49 .nilFunc 1 8 := Inf.of (by kernel_rfl)
instance : Und Try.prog 50 (.func #[35, 22] #[4] false) := ⟨Try.underlying50⟩
instance : Inf Try.prog 50 .nilFunc 1 8 := Inf.of (by kernel_rfl)
instance : Und Try.prog 51 (.struct #[{ name := "On", type := 3, offset := 0, embedded := false, tag := "", pkgPath := "", byteOffset := 0 }, { name := "Node", type := 3, offset := 1, embedded := false, tag := "", pkgPath := "", byteOffset := 8 }, { name := "Kind", type := 3, offset := 2, embedded := false, tag := "", pkgPath := "", byteOffset := 16 }, { name := "B", type := 35, offset := 3, embedded := false, tag := "", pkgPath := "", byteOffset := 24 }]) := ⟨Try.underlying51⟩
instance : Inf Try.prog 51 (.agg #[(.int .i64 0), (.int .i64 0), (.int .i64 0), (.slice none 0 0)]) 4 48 := Inf.of (by kernel_rfl)
instance : Und Try.prog 52 (.struct #[{ name := "On", type := 3, offset := 0, embedded := false, tag := "", pkgPath := "", byteOffset := 0 }, { name := "Node", type := 3, offset := 1, embedded := false, tag := "", pkgPath := "", byteOffset := 8 }, { name := "Kind", type := 3, offset := 2, embedded := false, tag := "", pkgPath := "", byteOffset := 16 }, { name := "B", type := 35, offset := 3, embedded := false, tag := "", pkgPath := "", byteOffset := 24 }]) := ⟨Try.underlying52⟩
instance : Inf Try.prog 52 (.agg #[(.int .i64 0), (.int .i64 0), (.int .i64 0), (.slice none 0 0)]) 4 48 := Inf.of (by kernel_rfl)
instance : Und Try.prog 53 (.func #[23] #[25, 44] false) := ⟨Try.underlying53⟩
instance : Inf Try.prog 53 .nilFunc 1 8 := Inf.of (by kernel_rfl)
instance : Und Try.prog 54 (.func #[55] #[25] false) := ⟨Try.underlying54⟩
instance : Inf Try.prog 54 .nilFunc 1 8 := Inf.of (by kernel_rfl)
instance : Und Try.prog 55 (.func #[37] #[4] false) := ⟨Try.underlying55⟩
instance : Inf Try.prog 55 .nilFunc 1 8 := Inf.of (by kernel_rfl)
instance : Und Try.prog 56 (.func #[58] #[23] false) := ⟨Try.underlying56⟩
instance : Inf Try.prog 56 .nilFunc 1 8 := Inf.of (by kernel_rfl)
instance : Und Try.prog 57 (.func #[55] #[] false) := ⟨Try.underlying57⟩
instance : Inf Try.prog 57 .nilFunc 1 8 := Inf.of (by kernel_rfl)
instance : Und Try.prog 58 (.func #[55] #[] false) := ⟨Try.underlying58⟩
instance : Inf Try.prog 58 .nilFunc 1 8 := Inf.of (by kernel_rfl)
instance : Und Try.prog 59 (.func #[55] #[58] false) := ⟨Try.underlying59⟩
instance : Inf Try.prog 59 .nilFunc 1 8 := Inf.of (by kernel_rfl)
instance : Und Try.prog 60 (.func #[37] #[37] false) := ⟨Try.underlying60⟩
instance : Inf Try.prog 60 .nilFunc 1 8 := Inf.of (by kernel_rfl)
instance : Und Try.prog 61 (.struct #[{ name := "l", type := 23, offset := 0, embedded := false, tag := "", pkgPath := "sealchain/view", byteOffset := 0 }, { name := "own", type := 60, offset := 1, embedded := false, tag := "", pkgPath := "sealchain/view", byteOffset := 24 }]) := ⟨Try.underlying61⟩
instance : Inf Try.prog 61 (.agg #[(.slice none 0 0), .nilFunc]) 2 32 := Inf.of (by kernel_rfl)
instance : Und Try.prog 62 (.struct #[{ name := "l", type := 23, offset := 0, embedded := false, tag := "", pkgPath := "sealchain/view", byteOffset := 0 }, { name := "own", type := 60, offset := 1, embedded := false, tag := "", pkgPath := "sealchain/view", byteOffset := 24 }]) := ⟨Try.underlying62⟩
instance : Inf Try.prog 62 (.agg #[(.slice none 0 0), .nilFunc]) 2 32 := Inf.of (by kernel_rfl)
instance : Und Try.prog 63 (.struct #[{ name := "rows", type := 62, offset := 0, embedded := true, tag := "", pkgPath := "sealchain/view", byteOffset := 0 }]) := ⟨Try.underlying63⟩
instance : Inf Try.prog 63 (.agg #[(.slice none 0 0), .nilFunc]) 2 32 := Inf.of (by kernel_rfl)
instance : Und Try.prog 64 (.struct #[{ name := "rows", type := 62, offset := 0, embedded := true, tag := "", pkgPath := "sealchain/view", byteOffset := 0 }]) := ⟨Try.underlying64⟩
instance : Inf Try.prog 64 (.agg #[(.slice none 0 0), .nilFunc]) 2 32 := Inf.of (by kernel_rfl)
instance : Und Try.prog 65 (.func #[3, 3, 3, 35] #[37] true) := ⟨Try.underlying65⟩
instance : Inf Try.prog 65 .nilFunc 1 8 := Inf.of (by kernel_rfl)
instance : Und Try.prog 66 (.func #[] #[25] false) := ⟨Try.underlying66⟩
instance : Inf Try.prog 66 .nilFunc 1 8 := Inf.of (by kernel_rfl)
instance : Und Try.prog 67 (.func #[37, 37] #[4] false) := ⟨Try.underlying67⟩
instance : Inf Try.prog 67 .nilFunc 1 8 := Inf.of (by kernel_rfl)
instance : Und Try.prog 68 (.pointer 83) := ⟨Try.underlying68⟩
instance : Inf Try.prog 68 (.pointer none) 1 8 := Inf.of (by kernel_rfl)
instance : Und Try.prog 69 (.func #[35] #[68] false) := ⟨Try.underlying69⟩
instance : Inf Try.prog 69 .nilFunc 1 8 := Inf.of (by kernel_rfl)
instance : Und Try.prog 70 (.func #[3] #[3] false) := ⟨Try.underlying70⟩
instance : Inf Try.prog 70 .nilFunc 1 8 := Inf.of (by kernel_rfl)
instance : Und Try.prog 71 (.func #[3] #[35] false) := ⟨Try.underlying71⟩
instance : Inf Try.prog 71 .nilFunc 1 8 := Inf.of (by kernel_rfl)
instance : Und Try.prog 72 (.func #[] #[44] false) := ⟨Try.underlying72⟩
instance : Inf Try.prog 72 .nilFunc 1 8 := Inf.of (by kernel_rfl)
instance : Und Try.prog 73 (.pointer 88) := ⟨Try.underlying73⟩
instance : Inf Try.prog 73 (.pointer none) 1 8 := Inf.of (by kernel_rfl)
instance : Und Try.prog 74 (.func #[] #[73] false) := ⟨Try.underlying74⟩
instance : Inf Try.prog 74 .nilFunc 1 8 := Inf.of (by kernel_rfl)
instance : Und Try.prog 75 (.func #[3] #[73] false) := ⟨Try.underlying75⟩
instance : Inf Try.prog 75 .nilFunc 1 8 := Inf.of (by kernel_rfl)
instance : Und Try.prog 76 (.func #[3, 3] #[73] false) := ⟨Try.underlying76⟩
instance : Inf Try.prog 76 .nilFunc 1 8 := Inf.of (by kernel_rfl)
instance : Und Try.prog 77 (.func #[35] #[73] false) := ⟨Try.underlying77⟩
instance : Inf Try.prog 77 .nilFunc 1 8 := Inf.of (by kernel_rfl)
instance : Und Try.prog 79 (.func #[] #[35, 44] false) := ⟨Try.underlying79⟩
instance : Inf Try.prog 79 .nilFunc 1 8 := Inf.of (by kernel_rfl)
instance : Und Try.prog 80 (.func #[23, 58] #[23] false) := ⟨Try.underlying80⟩
instance : Inf Try.prog 80 .nilFunc 1 8 := Inf.of (by kernel_rfl)
instance : Und Try.prog 81 (.func #[35] #[35] false) := ⟨Try.underlying81⟩
instance : Inf Try.prog 81 .nilFunc 1 8 := Inf.of (by kernel_rfl)
instance : Und Try.prog 82 (.struct #[{ name := "b", type := 35, offset := 0, embedded := false, tag := "", pkgPath := "sealchain/num", byteOffset := 0 }, { name := "e", type := 44, offset := 1, embedded := false, tag := "", pkgPath := "sealchain/num", byteOffset := 24 }]) := ⟨Try.underlying82⟩
instance : Inf Try.prog 82 (.agg #[(.slice none 0 0), (.int .i64 0)]) 2 32 := Inf.of (by kernel_rfl)
instance : Und Try.prog 83 (.struct #[{ name := "b", type := 35, offset := 0, embedded := false, tag := "", pkgPath := "sealchain/num", byteOffset := 0 }, { name := "e", type := 44, offset := 1, embedded := false, tag := "", pkgPath := "sealchain/num", byteOffset := 24 }]) := ⟨Try.underlying83⟩
instance : Inf Try.prog 83 (.agg #[(.slice none 0 0), (.int .i64 0)]) 2 32 := Inf.of (by kernel_rfl)
instance : Und Try.prog 84 (.int .u64) := ⟨Try.underlying84⟩
instance : Inf Try.prog 84 (.int .u64 0) 1 8 := Inf.of (by kernel_rfl)
instance : Und Try.prog 85 (.func #[44] #[3] false) := ⟨Try.underlying85⟩
instance : Inf Try.prog 85 .nilFunc 1 8 := Inf.of (by kernel_rfl)
instance : Und Try.prog 86 (.func #[3] #[4] false) := ⟨Try.underlying86⟩
instance : Inf Try.prog 86 .nilFunc 1 8 := Inf.of (by kernel_rfl)
instance : Und Try.prog 87 (.int .u64) := ⟨Try.underlying87⟩
instance : Inf Try.prog 87 (.int .u64 0) 1 8 := Inf.of (by kernel_rfl)
instance : Und Try.prog 88 (.struct #[{ name := "b", type := 35, offset := 0, embedded := false, tag := "", pkgPath := "sealchain/num", byteOffset := 0 }, { name := "e", type := 44, offset := 1, embedded := false, tag := "", pkgPath := "sealchain/num", byteOffset := 24 }]) := ⟨Try.underlying88⟩
instance : Inf Try.prog 88 (.agg #[(.slice none 0 0), (.int .i64 0)]) 2 32 := Inf.of (by kernel_rfl)
instance : Und Try.prog 89 (.func #[44, 35] #[73] true) := ⟨Try.underlying89⟩
instance : Inf Try.prog 89 .nilFunc 1 8 := Inf.of (by kernel_rfl)
instance : Und Try.prog 90 (.func #[35] #[] false) := ⟨Try.underlying90⟩
instance : Inf Try.prog 90 .nilFunc 1 8 := Inf.of (by kernel_rfl)
instance : Und Try.prog 91 (.func #[92] #[44] true) := ⟨Try.underlying91⟩
instance : Inf Try.prog 91 .nilFunc 1 8 := Inf.of (by kernel_rfl)
instance : Und Try.prog 92 (.slice 44) := ⟨Try.underlying92⟩
instance : Inf Try.prog 92 (.slice none 0 0) 1 24 := Inf.of (by kernel_rfl)
instance : Und Try.prog 93 (.func #[] #[9] false) := ⟨Try.underlying93⟩
instance : Inf Try.prog 93 .nilFunc 1 8 := Inf.of (by kernel_rfl)
instance : Und Try.prog 94 (.struct #[{ name := "_interface", type := 17, offset := 0, embedded := false, tag := "", pkgPath := "runtime", byteOffset := 0 }, { name := "concrete", type := 17, offset := 1, embedded := false, tag := "", pkgPath := "runtime", byteOffset := 8 }, { name := "asserted", type := 17, offset := 2, embedded := false, tag := "", pkgPath := "runtime", byteOffset := 16 }, { name := "missingMethod", type := 9, offset := 3, embedded := false, tag := "", pkgPath := "runtime", byteOffset := 24 }]) := ⟨Try.underlying94⟩
instance : Inf Try.prog 94 (.agg #[(.pointer none), (.pointer none), (.pointer none), (.string ByteArray.empty)]) 4 40 := Inf.of (by kernel_rfl)
instance : Und Try.prog 95 (.struct #[{ name := "_interface", type := 17, offset := 0, embedded := false, tag := "", pkgPath := "runtime", byteOffset := 0 }, { name := "concrete", type := 17, offset := 1, embedded := false, tag := "", pkgPath := "runtime", byteOffset := 8 }, { name := "asserted", type := 17, offset := 2, embedded := false, tag := "", pkgPath := "runtime", byteOffset := 16 }, { name := "missingMethod", type := 9, offset := 3, embedded := false, tag := "", pkgPath := "runtime", byteOffset := 24 }]) := ⟨Try.underlying95⟩
instance : Inf Try.prog 95 (.agg #[(.pointer none), (.pointer none), (.pointer none), (.string ByteArray.empty)]) 4 40 := Inf.of (by kernel_rfl)
instance : Und Try.prog 96 (.array 0 16) := ⟨Try.underlying96⟩
instance : Inf Try.prog 96 (.agg #[]) 0 0 := Inf.of (by kernel_rfl)
instance : Und Try.prog 97 (.struct #[{ name := "_", type := 96, offset := 0, embedded := false, tag := "", pkgPath := "runtime", byteOffset := 0 }]) := ⟨Try.underlying97⟩
instance : Inf Try.prog 97 (.agg #[]) 0 0 := Inf.of (by kernel_rfl)
instance : Und Try.prog 98 (.struct #[{ name := "_", type := 96, offset := 0, embedded := false, tag := "", pkgPath := "runtime", byteOffset := 0 }]) := ⟨Try.underlying98⟩
instance : Inf Try.prog 98 (.agg #[]) 0 0 := Inf.of (by kernel_rfl)
instance : Und Try.prog 99 (.int .u32) := ⟨Try.underlying99⟩
instance : Inf Try.prog 99 (.int .u32 0) 1 4 := Inf.of (by kernel_rfl)
instance : Und Try.prog 100 (.int .u8) := ⟨Try.underlying100⟩
instance : Inf Try.prog 100 (.int .u8 0) 1 1 := Inf.of (by kernel_rfl)
instance : Und Try.prog 101 (.int .u8) := ⟨Try.underlying101⟩
instance : Inf Try.prog 101 (.int .u8 0) 1 1 := Inf.of (by kernel_rfl)
instance : Und Try.prog 102 (.func #[108, 108] #[4] false) := ⟨Try.underlying102⟩
instance : Inf Try.prog 102 .nilFunc 1 8 := Inf.of (by kernel_rfl)
instance : Und Try.prog 103 (.pointer 5) := ⟨Try.underlying103⟩
instance : Inf Try.prog 103 (.pointer none) 1 8 := Inf.of (by kernel_rfl)
instance : Und Try.prog 104 (.int .i32) := ⟨Try.underlying104⟩
instance : Inf Try.prog 104 (.int .i32 0) 1 4 := Inf.of (by kernel_rfl)
instance : Und Try.prog 105 (.int .i32) := ⟨Try.underlying105⟩
instance : Inf Try.prog 105 (.int .i32 0) 1 4 := Inf.of (by kernel_rfl)
instance : Und Try.prog 106 (.struct #[{ name := "Size_", type := 12, offset := 0, embedded := false, tag := "", pkgPath := "", byteOffset := 0 }, { name := "PtrBytes", type := 12, offset := 1, embedded := false, tag := "", pkgPath := "", byteOffset := 8 }, { name := "Hash", type := 99, offset := 2, embedded := false, tag := "", pkgPath := "", byteOffset := 16 }, { name := "TFlag", type := 100, offset := 3, embedded := false, tag := "", pkgPath := "", byteOffset := 20 }, { name := "Align_", type := 5, offset := 4, embedded := false, tag := "", pkgPath := "", byteOffset := 21 }, { name := "FieldAlign_", type := 5, offset := 5, embedded := false, tag := "", pkgPath := "", byteOffset := 22 }, { name := "Kind_", type := 101, offset := 6, embedded := false, tag := "", pkgPath := "", byteOffset := 23 }, { name := "Equal", type := 102, offset := 7, embedded := false, tag := "", pkgPath := "", byteOffset := 24 }, { name := "GCData", type := 103, offset := 8, embedded := false, tag := "", pkgPath := "", byteOffset := 32 }, { name := "Str", type := 104, offset := 9, embedded := false, tag := "", pkgPath := "", byteOffset := 40 }, { name := "PtrToThis", type := 105, offset := 10, embedded := false, tag := "", pkgPath := "", byteOffset := 44 }]) := ⟨Try.underlying106⟩
instance : Inf Try.prog 106 (.agg #[(.int .u64 0), (.int .u64 0), (.int .u32 0), (.int .u8 0), (.int .u8 0), (.int .u8 0), (.int .u8 0), .nilFunc, (.pointer none), (.int .i32 0), (.int .i32 0)]) 11 48 := Inf.of (by kernel_rfl)
instance : Und Try.prog 107 (.struct #[{ name := "Size_", type := 12, offset := 0, embedded := false, tag := "", pkgPath := "", byteOffset := 0 }, { name := "PtrBytes", type := 12, offset := 1, embedded := false, tag := "", pkgPath := "", byteOffset := 8 }, { name := "Hash", type := 99, offset := 2, embedded := false, tag := "", pkgPath := "", byteOffset := 16 }, { name := "TFlag", type := 100, offset := 3, embedded := false, tag := "", pkgPath := "", byteOffset := 20 }, { name := "Align_", type := 5, offset := 4, embedded := false, tag := "", pkgPath := "", byteOffset := 21 }, { name := "FieldAlign_", type := 5, offset := 5, embedded := false, tag := "", pkgPath := "", byteOffset := 22 }, { name := "Kind_", type := 101, offset := 6, embedded := false, tag := "", pkgPath := "", byteOffset := 23 }, { name := "Equal", type := 102, offset := 7, embedded := false, tag := "", pkgPath := "", byteOffset := 24 }, { name := "GCData", type := 103, offset := 8, embedded := false, tag := "", pkgPath := "", byteOffset := 32 }, { name := "Str", type := 104, offset := 9, embedded := false, tag := "", pkgPath := "", byteOffset := 40 }, { name := "PtrToThis", type := 105, offset := 10, embedded := false, tag := "", pkgPath := "", byteOffset := 44 }]) := ⟨Try.underlying107⟩
instance : Inf Try.prog 107 (.agg #[(.int .u64 0), (.int .u64 0), (.int .u32 0), (.int .u8 0), (.int .u8 0), (.int .u8 0), (.int .u8 0), .nilFunc, (.pointer none), (.int .i32 0), (.int .i32 0)]) 11 48 := Inf.of (by kernel_rfl)
instance : Und Try.prog 108 .unsafePointer := ⟨Try.underlying108⟩
instance : Inf Try.prog 108 (.pointer none) 1 8 := Inf.of (by kernel_rfl)
set_option maxRecDepth 100000 in
abbrev Trytt : TT := [(1, (.func #[] #[] false), some (.nilFunc, 1, 8)),
  (2, (.int .i64), some ((.int .i64 0), 1, 8)),
  (3, (.int .i64), some ((.int .i64 0), 1, 8)),
  (4, .bool, some ((.bool false), 1, 1)),
  (5, (.int .u8), some ((.int .u8 0), 1, 1)),
  (6, (.int .u8), some ((.int .u8 0), 1, 1)),
  (7, (.struct #[{ name := "x", type := 2, offset := 0, embedded := false, tag := "", pkgPath := "runtime", byteOffset := 0 }, { name := "y", type := 3, offset := 1, embedded := false, tag := "", pkgPath := "runtime", byteOffset := 8 }, { name := "signed", type := 4, offset := 2, embedded := false, tag := "", pkgPath := "runtime", byteOffset := 16 }, { name := "code", type := 6, offset := 3, embedded := false, tag := "", pkgPath := "runtime", byteOffset := 17 }]), some ((.agg #[(.int .i64 0), (.int .i64 0), (.bool false), (.int .u8 0)]), 4, 24)),
  (8, (.struct #[{ name := "x", type := 2, offset := 0, embedded := false, tag := "", pkgPath := "runtime", byteOffset := 0 }, { name := "y", type := 3, offset := 1, embedded := false, tag := "", pkgPath := "runtime", byteOffset := 8 }, { name := "signed", type := 4, offset := 2, embedded := false, tag := "", pkgPath := "runtime", byteOffset := 16 }, { name := "code", type := 6, offset := 3, embedded := false, tag := "", pkgPath := "runtime", byteOffset := 17 }]), some ((.agg #[(.int .i64 0), (.int .i64 0), (.bool false), (.int .u8 0)]), 4, 24)),
  (9, .string, some ((.string ByteArray.empty), 1, 16)),
  (10, .string, some ((.string ByteArray.empty), 1, 16)),
  (11, .string, some ((.string ByteArray.empty), 1, 16)),
  (12, (.int .u64), some ((.int .u64 0), 1, 8)),
  (13, (.struct #[{ name := "msg", type := 9, offset := 0, embedded := false, tag := "", pkgPath := "runtime", byteOffset := 0 }, { name := "addr", type := 12, offset := 1, embedded := false, tag := "", pkgPath := "runtime", byteOffset := 16 }]), some ((.agg #[(.string ByteArray.empty), (.int .u64 0)]), 2, 24)),
  (14, (.struct #[{ name := "msg", type := 9, offset := 0, embedded := false, tag := "", pkgPath := "runtime", byteOffset := 0 }, { name := "addr", type := 12, offset := 1, embedded := false, tag := "", pkgPath := "runtime", byteOffset := 16 }]), some ((.agg #[(.string ByteArray.empty), (.int .u64 0)]), 2, 24)),
  (15, (.pointer 95), some ((.pointer none), 1, 8)),
  (16, (.pointer 98), some ((.pointer none), 1, 8)),
  (17, (.pointer 107), some ((.pointer none), 1, 8)),
  (18, (.struct #[{ name := "typ", type := 17, offset := 0, embedded := false, tag := "", pkgPath := "internal/runtime/maps", byteOffset := 0 }]), some ((.agg #[(.pointer none)]), 1, 8)),
  (19, (.struct #[{ name := "typ", type := 17, offset := 0, embedded := false, tag := "", pkgPath := "internal/runtime/maps", byteOffset := 0 }]), some ((.agg #[(.pointer none)]), 1, 8)),
  (21, (.int .i32), some ((.int .i32 0), 1, 4)),
  (22, (.slice 52), some ((.slice none 0 0), 1, 24)),
  (23, (.slice 37), some ((.slice none 0 0), 1, 24)),
  (24, (.func #[22, 3] #[23] false), some (.nilFunc, 1, 8)),
  (25, (.pointer 64), some ((.pointer none), 1, 8)),
  (26, (.func #[23] #[25] true), some (.nilFunc, 1, 8)),
  (27, (.array 14 3), some ((.agg #[(.int .i64 0), (.int .i64 0), (.int .i64 0), (.int .i64 0), (.int .i64 0), (.int .i64 0), (.int .i64 0), (.int .i64 0), (.int .i64 0), (.int .i64 0), (.int .i64 0), (.int .i64 0), (.int .i64 0), (.int .i64 0)]), 14, 112)),
  (28, (.array 14 23), some ((.agg #[(.slice none 0 0), (.slice none 0 0), (.slice none 0 0), (.slice none 0 0), (.slice none 0 0), (.slice none 0 0), (.slice none 0 0), (.slice none 0 0), (.slice none 0 0), (.slice none 0 0), (.slice none 0 0), (.slice none 0 0), (.slice none 0 0), (.slice none 0 0)]), 14, 336)),
  (29, (.slice 3), some ((.slice none 0 0), 1, 24)),
  (30, (.func #[] #[29] false), some (.nilFunc, 1, 8)),
  (31, (.func #[3] #[25] false), some (.nilFunc, 1, 8)),
  (32, (.func #[] #[23] false), some (.nilFunc, 1, 8)),
  (33, (.array 3 3), some ((.agg #[(.int .i64 0), (.int .i64 0), (.int .i64 0)]), 3, 24)),
  (34, (.func #[3] #[33] false), some (.nilFunc, 1, 8)),
  (35, (.slice 5), some ((.slice none 0 0), 1, 24)),
  (36, (.struct #[{ name := "Step", type := 3, offset := 0, embedded := false, tag := "", pkgPath := "", byteOffset := 0 }, { name := "Node", type := 3, offset := 1, embedded := false, tag := "", pkgPath := "", byteOffset := 8 }, { name := "Kind", type := 3, offset := 2, embedded := false, tag := "", pkgPath := "", byteOffset := 16 }, { name := "Bytes", type := 35, offset := 3, embedded := false, tag := "", pkgPath := "", byteOffset := 24 }]), some ((.agg #[(.int .i64 0), (.int .i64 0), (.int .i64 0), (.slice none 0 0)]), 4, 48)),
  (37, (.struct #[{ name := "Step", type := 3, offset := 0, embedded := false, tag := "", pkgPath := "", byteOffset := 0 }, { name := "Node", type := 3, offset := 1, embedded := false, tag := "", pkgPath := "", byteOffset := 8 }, { name := "Kind", type := 3, offset := 2, embedded := false, tag := "", pkgPath := "", byteOffset := 16 }, { name := "Bytes", type := 35, offset := 3, embedded := false, tag := "", pkgPath := "", byteOffset := 24 }]), some ((.agg #[(.int .i64 0), (.int .i64 0), (.int .i64 0), (.slice none 0 0)]), 4, 48)),
  (38, (.func #[35, 35] #[4] false), some (.nilFunc, 1, 8)),
  (39, (.func #[] #[4] false), some (.nilFunc, 1, 8)),
  (40, (.func #[22] #[4] false), some (.nilFunc, 1, 8)),
  (41, (.func #[3, 3] #[3] false), some (.nilFunc, 1, 8)),
  (42, (.func #[] #[3] false), some (.nilFunc, 1, 8)),
  (43, (.func #[25] #[3] false), some (.nilFunc, 1, 8)),
  (44, (.int .i64), some ((.int .i64 0), 1, 8)),
  (45, (.func #[37] #[44] false), some (.nilFunc, 1, 8)),
  (46, (.func #[22, 3] #[4] false), some (.nilFunc, 1, 8)),
  (48, (.func #[35] #[25, 44] false), some (.nilFunc, 1, 8)),
  (49, (.func #[] #[35] false), some (.nilFunc, 1, 8)),
  (50, (.func #[35, 22] #[4] false), some (.nilFunc, 1, 8)),
  (51, (.struct #[{ name := "On", type := 3, offset := 0, embedded := false, tag := "", pkgPath := "", byteOffset := 0 }, { name := "Node", type := 3, offset := 1, embedded := false, tag := "", pkgPath := "", byteOffset := 8 }, { name := "Kind", type := 3, offset := 2, embedded := false, tag := "", pkgPath := "", byteOffset := 16 }, { name := "B", type := 35, offset := 3, embedded := false, tag := "", pkgPath := "", byteOffset := 24 }]), some ((.agg #[(.int .i64 0), (.int .i64 0), (.int .i64 0), (.slice none 0 0)]), 4, 48)),
  (52, (.struct #[{ name := "On", type := 3, offset := 0, embedded := false, tag := "", pkgPath := "", byteOffset := 0 }, { name := "Node", type := 3, offset := 1, embedded := false, tag := "", pkgPath := "", byteOffset := 8 }, { name := "Kind", type := 3, offset := 2, embedded := false, tag := "", pkgPath := "", byteOffset := 16 }, { name := "B", type := 35, offset := 3, embedded := false, tag := "", pkgPath := "", byteOffset := 24 }]), some ((.agg #[(.int .i64 0), (.int .i64 0), (.int .i64 0), (.slice none 0 0)]), 4, 48)),
  (53, (.func #[23] #[25, 44] false), some (.nilFunc, 1, 8)),
  (54, (.func #[55] #[25] false), some (.nilFunc, 1, 8)),
  (55, (.func #[37] #[4] false), some (.nilFunc, 1, 8)),
  (56, (.func #[58] #[23] false), some (.nilFunc, 1, 8)),
  (57, (.func #[55] #[] false), some (.nilFunc, 1, 8)),
  (58, (.func #[55] #[] false), some (.nilFunc, 1, 8)),
  (59, (.func #[55] #[58] false), some (.nilFunc, 1, 8)),
  (60, (.func #[37] #[37] false), some (.nilFunc, 1, 8)),
  (61, (.struct #[{ name := "l", type := 23, offset := 0, embedded := false, tag := "", pkgPath := "sealchain/view", byteOffset := 0 }, { name := "own", type := 60, offset := 1, embedded := false, tag := "", pkgPath := "sealchain/view", byteOffset := 24 }]), some ((.agg #[(.slice none 0 0), .nilFunc]), 2, 32)),
  (62, (.struct #[{ name := "l", type := 23, offset := 0, embedded := false, tag := "", pkgPath := "sealchain/view", byteOffset := 0 }, { name := "own", type := 60, offset := 1, embedded := false, tag := "", pkgPath := "sealchain/view", byteOffset := 24 }]), some ((.agg #[(.slice none 0 0), .nilFunc]), 2, 32)),
  (63, (.struct #[{ name := "rows", type := 62, offset := 0, embedded := true, tag := "", pkgPath := "sealchain/view", byteOffset := 0 }]), some ((.agg #[(.slice none 0 0), .nilFunc]), 2, 32)),
  (64, (.struct #[{ name := "rows", type := 62, offset := 0, embedded := true, tag := "", pkgPath := "sealchain/view", byteOffset := 0 }]), some ((.agg #[(.slice none 0 0), .nilFunc]), 2, 32)),
  (65, (.func #[3, 3, 3, 35] #[37] true), some (.nilFunc, 1, 8)),
  (66, (.func #[] #[25] false), some (.nilFunc, 1, 8)),
  (67, (.func #[37, 37] #[4] false), some (.nilFunc, 1, 8)),
  (68, (.pointer 83), some ((.pointer none), 1, 8)),
  (69, (.func #[35] #[68] false), some (.nilFunc, 1, 8)),
  (70, (.func #[3] #[3] false), some (.nilFunc, 1, 8)),
  (71, (.func #[3] #[35] false), some (.nilFunc, 1, 8)),
  (72, (.func #[] #[44] false), some (.nilFunc, 1, 8)),
  (73, (.pointer 88), some ((.pointer none), 1, 8)),
  (74, (.func #[] #[73] false), some (.nilFunc, 1, 8)),
  (75, (.func #[3] #[73] false), some (.nilFunc, 1, 8)),
  (76, (.func #[3, 3] #[73] false), some (.nilFunc, 1, 8)),
  (77, (.func #[35] #[73] false), some (.nilFunc, 1, 8)),
  (79, (.func #[] #[35, 44] false), some (.nilFunc, 1, 8)),
  (80, (.func #[23, 58] #[23] false), some (.nilFunc, 1, 8)),
  (81, (.func #[35] #[35] false), some (.nilFunc, 1, 8)),
  (82, (.struct #[{ name := "b", type := 35, offset := 0, embedded := false, tag := "", pkgPath := "sealchain/num", byteOffset := 0 }, { name := "e", type := 44, offset := 1, embedded := false, tag := "", pkgPath := "sealchain/num", byteOffset := 24 }]), some ((.agg #[(.slice none 0 0), (.int .i64 0)]), 2, 32)),
  (83, (.struct #[{ name := "b", type := 35, offset := 0, embedded := false, tag := "", pkgPath := "sealchain/num", byteOffset := 0 }, { name := "e", type := 44, offset := 1, embedded := false, tag := "", pkgPath := "sealchain/num", byteOffset := 24 }]), some ((.agg #[(.slice none 0 0), (.int .i64 0)]), 2, 32)),
  (84, (.int .u64), some ((.int .u64 0), 1, 8)),
  (85, (.func #[44] #[3] false), some (.nilFunc, 1, 8)),
  (86, (.func #[3] #[4] false), some (.nilFunc, 1, 8)),
  (87, (.int .u64), some ((.int .u64 0), 1, 8)),
  (88, (.struct #[{ name := "b", type := 35, offset := 0, embedded := false, tag := "", pkgPath := "sealchain/num", byteOffset := 0 }, { name := "e", type := 44, offset := 1, embedded := false, tag := "", pkgPath := "sealchain/num", byteOffset := 24 }]), some ((.agg #[(.slice none 0 0), (.int .i64 0)]), 2, 32)),
  (89, (.func #[44, 35] #[73] true), some (.nilFunc, 1, 8)),
  (90, (.func #[35] #[] false), some (.nilFunc, 1, 8)),
  (91, (.func #[92] #[44] true), some (.nilFunc, 1, 8)),
  (92, (.slice 44), some ((.slice none 0 0), 1, 24)),
  (93, (.func #[] #[9] false), some (.nilFunc, 1, 8)),
  (94, (.struct #[{ name := "_interface", type := 17, offset := 0, embedded := false, tag := "", pkgPath := "runtime", byteOffset := 0 }, { name := "concrete", type := 17, offset := 1, embedded := false, tag := "", pkgPath := "runtime", byteOffset := 8 }, { name := "asserted", type := 17, offset := 2, embedded := false, tag := "", pkgPath := "runtime", byteOffset := 16 }, { name := "missingMethod", type := 9, offset := 3, embedded := false, tag := "", pkgPath := "runtime", byteOffset := 24 }]), some ((.agg #[(.pointer none), (.pointer none), (.pointer none), (.string ByteArray.empty)]), 4, 40)),
  (95, (.struct #[{ name := "_interface", type := 17, offset := 0, embedded := false, tag := "", pkgPath := "runtime", byteOffset := 0 }, { name := "concrete", type := 17, offset := 1, embedded := false, tag := "", pkgPath := "runtime", byteOffset := 8 }, { name := "asserted", type := 17, offset := 2, embedded := false, tag := "", pkgPath := "runtime", byteOffset := 16 }, { name := "missingMethod", type := 9, offset := 3, embedded := false, tag := "", pkgPath := "runtime", byteOffset := 24 }]), some ((.agg #[(.pointer none), (.pointer none), (.pointer none), (.string ByteArray.empty)]), 4, 40)),
  (96, (.array 0 16), some ((.agg #[]), 0, 0)),
  (97, (.struct #[{ name := "_", type := 96, offset := 0, embedded := false, tag := "", pkgPath := "runtime", byteOffset := 0 }]), some ((.agg #[]), 0, 0)),
  (98, (.struct #[{ name := "_", type := 96, offset := 0, embedded := false, tag := "", pkgPath := "runtime", byteOffset := 0 }]), some ((.agg #[]), 0, 0)),
  (99, (.int .u32), some ((.int .u32 0), 1, 4)),
  (100, (.int .u8), some ((.int .u8 0), 1, 1)),
  (101, (.int .u8), some ((.int .u8 0), 1, 1)),
  (102, (.func #[108, 108] #[4] false), some (.nilFunc, 1, 8)),
  (103, (.pointer 5), some ((.pointer none), 1, 8)),
  (104, (.int .i32), some ((.int .i32 0), 1, 4)),
  (105, (.int .i32), some ((.int .i32 0), 1, 4)),
  (106, (.struct #[{ name := "Size_", type := 12, offset := 0, embedded := false, tag := "", pkgPath := "", byteOffset := 0 }, { name := "PtrBytes", type := 12, offset := 1, embedded := false, tag := "", pkgPath := "", byteOffset := 8 }, { name := "Hash", type := 99, offset := 2, embedded := false, tag := "", pkgPath := "", byteOffset := 16 }, { name := "TFlag", type := 100, offset := 3, embedded := false, tag := "", pkgPath := "", byteOffset := 20 }, { name := "Align_", type := 5, offset := 4, embedded := false, tag := "", pkgPath := "", byteOffset := 21 }, { name := "FieldAlign_", type := 5, offset := 5, embedded := false, tag := "", pkgPath := "", byteOffset := 22 }, { name := "Kind_", type := 101, offset := 6, embedded := false, tag := "", pkgPath := "", byteOffset := 23 }, { name := "Equal", type := 102, offset := 7, embedded := false, tag := "", pkgPath := "", byteOffset := 24 }, { name := "GCData", type := 103, offset := 8, embedded := false, tag := "", pkgPath := "", byteOffset := 32 }, { name := "Str", type := 104, offset := 9, embedded := false, tag := "", pkgPath := "", byteOffset := 40 }, { name := "PtrToThis", type := 105, offset := 10, embedded := false, tag := "", pkgPath := "", byteOffset := 44 }]), some ((.agg #[(.int .u64 0), (.int .u64 0), (.int .u32 0), (.int .u8 0), (.int .u8 0), (.int .u8 0), (.int .u8 0), .nilFunc, (.pointer none), (.int .i32 0), (.int .i32 0)]), 11, 48)),
  (107, (.struct #[{ name := "Size_", type := 12, offset := 0, embedded := false, tag := "", pkgPath := "", byteOffset := 0 }, { name := "PtrBytes", type := 12, offset := 1, embedded := false, tag := "", pkgPath := "", byteOffset := 8 }, { name := "Hash", type := 99, offset := 2, embedded := false, tag := "", pkgPath := "", byteOffset := 16 }, { name := "TFlag", type := 100, offset := 3, embedded := false, tag := "", pkgPath := "", byteOffset := 20 }, { name := "Align_", type := 5, offset := 4, embedded := false, tag := "", pkgPath := "", byteOffset := 21 }, { name := "FieldAlign_", type := 5, offset := 5, embedded := false, tag := "", pkgPath := "", byteOffset := 22 }, { name := "Kind_", type := 101, offset := 6, embedded := false, tag := "", pkgPath := "", byteOffset := 23 }, { name := "Equal", type := 102, offset := 7, embedded := false, tag := "", pkgPath := "", byteOffset := 24 }, { name := "GCData", type := 103, offset := 8, embedded := false, tag := "", pkgPath := "", byteOffset := 32 }, { name := "Str", type := 104, offset := 9, embedded := false, tag := "", pkgPath := "", byteOffset := 40 }, { name := "PtrToThis", type := 105, offset := 10, embedded := false, tag := "", pkgPath := "", byteOffset := 44 }]), some ((.agg #[(.int .u64 0), (.int .u64 0), (.int .u32 0), (.int .u8 0), (.int .u8 0), (.int .u8 0), (.int .u8 0), .nilFunc, (.pointer none), (.int .i32 0), (.int .i32 0)]), 11, 48)),
  (108, .unsafePointer, some ((.pointer none), 1, 8))]
set_option maxRecDepth 100000 in
instance : Tys Try.prog := ⟨Trytt,
  ⟨⟨inferInstance, (inferInstance : Inf Try.prog 1 .nilFunc 1 8)⟩,
  ⟨⟨inferInstance, (inferInstance : Inf Try.prog 2 (.int .i64 0) 1 8)⟩,
  ⟨⟨inferInstance, (inferInstance : Inf Try.prog 3 (.int .i64 0) 1 8)⟩,
  ⟨⟨inferInstance, (inferInstance : Inf Try.prog 4 (.bool false) 1 1)⟩,
  ⟨⟨inferInstance, (inferInstance : Inf Try.prog 5 (.int .u8 0) 1 1)⟩,
  ⟨⟨inferInstance, (inferInstance : Inf Try.prog 6 (.int .u8 0) 1 1)⟩,
  ⟨⟨inferInstance, (inferInstance : Inf Try.prog 7 (.agg #[(.int .i64 0), (.int .i64 0), (.bool false), (.int .u8 0)]) 4 24)⟩,
  ⟨⟨inferInstance, (inferInstance : Inf Try.prog 8 (.agg #[(.int .i64 0), (.int .i64 0), (.bool false), (.int .u8 0)]) 4 24)⟩,
  ⟨⟨inferInstance, (inferInstance : Inf Try.prog 9 (.string ByteArray.empty) 1 16)⟩,
  ⟨⟨inferInstance, (inferInstance : Inf Try.prog 10 (.string ByteArray.empty) 1 16)⟩,
  ⟨⟨inferInstance, (inferInstance : Inf Try.prog 11 (.string ByteArray.empty) 1 16)⟩,
  ⟨⟨inferInstance, (inferInstance : Inf Try.prog 12 (.int .u64 0) 1 8)⟩,
  ⟨⟨inferInstance, (inferInstance : Inf Try.prog 13 (.agg #[(.string ByteArray.empty), (.int .u64 0)]) 2 24)⟩,
  ⟨⟨inferInstance, (inferInstance : Inf Try.prog 14 (.agg #[(.string ByteArray.empty), (.int .u64 0)]) 2 24)⟩,
  ⟨⟨inferInstance, (inferInstance : Inf Try.prog 15 (.pointer none) 1 8)⟩,
  ⟨⟨inferInstance, (inferInstance : Inf Try.prog 16 (.pointer none) 1 8)⟩,
  ⟨⟨inferInstance, (inferInstance : Inf Try.prog 17 (.pointer none) 1 8)⟩,
  ⟨⟨inferInstance, (inferInstance : Inf Try.prog 18 (.agg #[(.pointer none)]) 1 8)⟩,
  ⟨⟨inferInstance, (inferInstance : Inf Try.prog 19 (.agg #[(.pointer none)]) 1 8)⟩,
  ⟨⟨inferInstance, (inferInstance : Inf Try.prog 21 (.int .i32 0) 1 4)⟩,
  ⟨⟨inferInstance, (inferInstance : Inf Try.prog 22 (.slice none 0 0) 1 24)⟩,
  ⟨⟨inferInstance, (inferInstance : Inf Try.prog 23 (.slice none 0 0) 1 24)⟩,
  ⟨⟨inferInstance, (inferInstance : Inf Try.prog 24 .nilFunc 1 8)⟩,
  ⟨⟨inferInstance, (inferInstance : Inf Try.prog 25 (.pointer none) 1 8)⟩,
  ⟨⟨inferInstance, (inferInstance : Inf Try.prog 26 .nilFunc 1 8)⟩,
  ⟨⟨inferInstance, (inferInstance : Inf Try.prog 27 (.agg #[(.int .i64 0), (.int .i64 0), (.int .i64 0), (.int .i64 0), (.int .i64 0), (.int .i64 0), (.int .i64 0), (.int .i64 0), (.int .i64 0), (.int .i64 0), (.int .i64 0), (.int .i64 0), (.int .i64 0), (.int .i64 0)]) 14 112)⟩,
  ⟨⟨inferInstance, (inferInstance : Inf Try.prog 28 (.agg #[(.slice none 0 0), (.slice none 0 0), (.slice none 0 0), (.slice none 0 0), (.slice none 0 0), (.slice none 0 0), (.slice none 0 0), (.slice none 0 0), (.slice none 0 0), (.slice none 0 0), (.slice none 0 0), (.slice none 0 0), (.slice none 0 0), (.slice none 0 0)]) 14 336)⟩,
  ⟨⟨inferInstance, (inferInstance : Inf Try.prog 29 (.slice none 0 0) 1 24)⟩,
  ⟨⟨inferInstance, (inferInstance : Inf Try.prog 30 .nilFunc 1 8)⟩,
  ⟨⟨inferInstance, (inferInstance : Inf Try.prog 31 .nilFunc 1 8)⟩,
  ⟨⟨inferInstance, (inferInstance : Inf Try.prog 32 .nilFunc 1 8)⟩,
  ⟨⟨inferInstance, (inferInstance : Inf Try.prog 33 (.agg #[(.int .i64 0), (.int .i64 0), (.int .i64 0)]) 3 24)⟩,
  ⟨⟨inferInstance, (inferInstance : Inf Try.prog 34 .nilFunc 1 8)⟩,
  ⟨⟨inferInstance, (inferInstance : Inf Try.prog 35 (.slice none 0 0) 1 24)⟩,
  ⟨⟨inferInstance, (inferInstance : Inf Try.prog 36 (.agg #[(.int .i64 0), (.int .i64 0), (.int .i64 0), (.slice none 0 0)]) 4 48)⟩,
  ⟨⟨inferInstance, (inferInstance : Inf Try.prog 37 (.agg #[(.int .i64 0), (.int .i64 0), (.int .i64 0), (.slice none 0 0)]) 4 48)⟩,
  ⟨⟨inferInstance, (inferInstance : Inf Try.prog 38 .nilFunc 1 8)⟩,
  ⟨⟨inferInstance, (inferInstance : Inf Try.prog 39 .nilFunc 1 8)⟩,
  ⟨⟨inferInstance, (inferInstance : Inf Try.prog 40 .nilFunc 1 8)⟩,
  ⟨⟨inferInstance, (inferInstance : Inf Try.prog 41 .nilFunc 1 8)⟩,
  ⟨⟨inferInstance, (inferInstance : Inf Try.prog 42 .nilFunc 1 8)⟩,
  ⟨⟨inferInstance, (inferInstance : Inf Try.prog 43 .nilFunc 1 8)⟩,
  ⟨⟨inferInstance, (inferInstance : Inf Try.prog 44 (.int .i64 0) 1 8)⟩,
  ⟨⟨inferInstance, (inferInstance : Inf Try.prog 45 .nilFunc 1 8)⟩,
  ⟨⟨inferInstance, (inferInstance : Inf Try.prog 46 .nilFunc 1 8)⟩,
  ⟨⟨inferInstance, (inferInstance : Inf Try.prog 48 .nilFunc 1 8)⟩,
  ⟨⟨inferInstance, (inferInstance : Inf Try.prog 49 .nilFunc 1 8)⟩,
  ⟨⟨inferInstance, (inferInstance : Inf Try.prog 50 .nilFunc 1 8)⟩,
  ⟨⟨inferInstance, (inferInstance : Inf Try.prog 51 (.agg #[(.int .i64 0), (.int .i64 0), (.int .i64 0), (.slice none 0 0)]) 4 48)⟩,
  ⟨⟨inferInstance, (inferInstance : Inf Try.prog 52 (.agg #[(.int .i64 0), (.int .i64 0), (.int .i64 0), (.slice none 0 0)]) 4 48)⟩,
  ⟨⟨inferInstance, (inferInstance : Inf Try.prog 53 .nilFunc 1 8)⟩,
  ⟨⟨inferInstance, (inferInstance : Inf Try.prog 54 .nilFunc 1 8)⟩,
  ⟨⟨inferInstance, (inferInstance : Inf Try.prog 55 .nilFunc 1 8)⟩,
  ⟨⟨inferInstance, (inferInstance : Inf Try.prog 56 .nilFunc 1 8)⟩,
  ⟨⟨inferInstance, (inferInstance : Inf Try.prog 57 .nilFunc 1 8)⟩,
  ⟨⟨inferInstance, (inferInstance : Inf Try.prog 58 .nilFunc 1 8)⟩,
  ⟨⟨inferInstance, (inferInstance : Inf Try.prog 59 .nilFunc 1 8)⟩,
  ⟨⟨inferInstance, (inferInstance : Inf Try.prog 60 .nilFunc 1 8)⟩,
  ⟨⟨inferInstance, (inferInstance : Inf Try.prog 61 (.agg #[(.slice none 0 0), .nilFunc]) 2 32)⟩,
  ⟨⟨inferInstance, (inferInstance : Inf Try.prog 62 (.agg #[(.slice none 0 0), .nilFunc]) 2 32)⟩,
  ⟨⟨inferInstance, (inferInstance : Inf Try.prog 63 (.agg #[(.slice none 0 0), .nilFunc]) 2 32)⟩,
  ⟨⟨inferInstance, (inferInstance : Inf Try.prog 64 (.agg #[(.slice none 0 0), .nilFunc]) 2 32)⟩,
  ⟨⟨inferInstance, (inferInstance : Inf Try.prog 65 .nilFunc 1 8)⟩,
  ⟨⟨inferInstance, (inferInstance : Inf Try.prog 66 .nilFunc 1 8)⟩,
  ⟨⟨inferInstance, (inferInstance : Inf Try.prog 67 .nilFunc 1 8)⟩,
  ⟨⟨inferInstance, (inferInstance : Inf Try.prog 68 (.pointer none) 1 8)⟩,
  ⟨⟨inferInstance, (inferInstance : Inf Try.prog 69 .nilFunc 1 8)⟩,
  ⟨⟨inferInstance, (inferInstance : Inf Try.prog 70 .nilFunc 1 8)⟩,
  ⟨⟨inferInstance, (inferInstance : Inf Try.prog 71 .nilFunc 1 8)⟩,
  ⟨⟨inferInstance, (inferInstance : Inf Try.prog 72 .nilFunc 1 8)⟩,
  ⟨⟨inferInstance, (inferInstance : Inf Try.prog 73 (.pointer none) 1 8)⟩,
  ⟨⟨inferInstance, (inferInstance : Inf Try.prog 74 .nilFunc 1 8)⟩,
  ⟨⟨inferInstance, (inferInstance : Inf Try.prog 75 .nilFunc 1 8)⟩,
  ⟨⟨inferInstance, (inferInstance : Inf Try.prog 76 .nilFunc 1 8)⟩,
  ⟨⟨inferInstance, (inferInstance : Inf Try.prog 77 .nilFunc 1 8)⟩,
  ⟨⟨inferInstance, (inferInstance : Inf Try.prog 79 .nilFunc 1 8)⟩,
  ⟨⟨inferInstance, (inferInstance : Inf Try.prog 80 .nilFunc 1 8)⟩,
  ⟨⟨inferInstance, (inferInstance : Inf Try.prog 81 .nilFunc 1 8)⟩,
  ⟨⟨inferInstance, (inferInstance : Inf Try.prog 82 (.agg #[(.slice none 0 0), (.int .i64 0)]) 2 32)⟩,
  ⟨⟨inferInstance, (inferInstance : Inf Try.prog 83 (.agg #[(.slice none 0 0), (.int .i64 0)]) 2 32)⟩,
  ⟨⟨inferInstance, (inferInstance : Inf Try.prog 84 (.int .u64 0) 1 8)⟩,
  ⟨⟨inferInstance, (inferInstance : Inf Try.prog 85 .nilFunc 1 8)⟩,
  ⟨⟨inferInstance, (inferInstance : Inf Try.prog 86 .nilFunc 1 8)⟩,
  ⟨⟨inferInstance, (inferInstance : Inf Try.prog 87 (.int .u64 0) 1 8)⟩,
  ⟨⟨inferInstance, (inferInstance : Inf Try.prog 88 (.agg #[(.slice none 0 0), (.int .i64 0)]) 2 32)⟩,
  ⟨⟨inferInstance, (inferInstance : Inf Try.prog 89 .nilFunc 1 8)⟩,
  ⟨⟨inferInstance, (inferInstance : Inf Try.prog 90 .nilFunc 1 8)⟩,
  ⟨⟨inferInstance, (inferInstance : Inf Try.prog 91 .nilFunc 1 8)⟩,
  ⟨⟨inferInstance, (inferInstance : Inf Try.prog 92 (.slice none 0 0) 1 24)⟩,
  ⟨⟨inferInstance, (inferInstance : Inf Try.prog 93 .nilFunc 1 8)⟩,
  ⟨⟨inferInstance, (inferInstance : Inf Try.prog 94 (.agg #[(.pointer none), (.pointer none), (.pointer none), (.string ByteArray.empty)]) 4 40)⟩,
  ⟨⟨inferInstance, (inferInstance : Inf Try.prog 95 (.agg #[(.pointer none), (.pointer none), (.pointer none), (.string ByteArray.empty)]) 4 40)⟩,
  ⟨⟨inferInstance, (inferInstance : Inf Try.prog 96 (.agg #[]) 0 0)⟩,
  ⟨⟨inferInstance, (inferInstance : Inf Try.prog 97 (.agg #[]) 0 0)⟩,
  ⟨⟨inferInstance, (inferInstance : Inf Try.prog 98 (.agg #[]) 0 0)⟩,
  ⟨⟨inferInstance, (inferInstance : Inf Try.prog 99 (.int .u32 0) 1 4)⟩,
  ⟨⟨inferInstance, (inferInstance : Inf Try.prog 100 (.int .u8 0) 1 1)⟩,
  ⟨⟨inferInstance, (inferInstance : Inf Try.prog 101 (.int .u8 0) 1 1)⟩,
  ⟨⟨inferInstance, (inferInstance : Inf Try.prog 102 .nilFunc 1 8)⟩,
  ⟨⟨inferInstance, (inferInstance : Inf Try.prog 103 (.pointer none) 1 8)⟩,
  ⟨⟨inferInstance, (inferInstance : Inf Try.prog 104 (.int .i32 0) 1 4)⟩,
  ⟨⟨inferInstance, (inferInstance : Inf Try.prog 105 (.int .i32 0) 1 4)⟩,
  ⟨⟨inferInstance, (inferInstance : Inf Try.prog 106 (.agg #[(.int .u64 0), (.int .u64 0), (.int .u32 0), (.int .u8 0), (.int .u8 0), (.int .u8 0), (.int .u8 0), .nilFunc, (.pointer none), (.int .i32 0), (.int .i32 0)]) 11 48)⟩,
  ⟨⟨inferInstance, (inferInstance : Inf Try.prog 107 (.agg #[(.int .u64 0), (.int .u64 0), (.int .u32 0), (.int .u8 0), (.int .u8 0), (.int .u8 0), (.int .u8 0), .nilFunc, (.pointer none), (.int .i32 0), (.int .i32 0)]) 11 48)⟩,
  ⟨⟨inferInstance, (inferInstance : Inf Try.prog 108 (.pointer none) 1 8)⟩, trivial⟩⟩⟩⟩⟩⟩⟩⟩⟩⟩⟩⟩⟩⟩⟩⟩⟩⟩⟩⟩⟩⟩⟩⟩⟩⟩⟩⟩⟩⟩⟩⟩⟩⟩⟩⟩⟩⟩⟩⟩⟩⟩⟩⟩⟩⟩⟩⟩⟩⟩⟩⟩⟩⟩⟩⟩⟩⟩⟩⟩⟩⟩⟩⟩⟩⟩⟩⟩⟩⟩⟩⟩⟩⟩⟩⟩⟩⟩⟩⟩⟩⟩⟩⟩⟩⟩⟩⟩⟩⟩⟩⟩⟩⟩⟩⟩⟩⟩⟩⟩⟩⟩⟩⟩⟩⟩
instance : Fun Try.prog 2 := ⟨_, _, Try.func2, rfl, by kernel_rfl⟩
instance : Fun Try.prog 3 := ⟨_, _, Try.func3, rfl, by kernel_rfl⟩
instance : Fun Try.prog 4 := ⟨_, _, Try.func4, rfl, by kernel_rfl⟩
instance : Fun Try.prog 5 := ⟨_, _, Try.func5, rfl, by kernel_rfl⟩
instance : Fun Try.prog 6 := ⟨_, _, Try.func6, rfl, by kernel_rfl⟩
instance : Fun Try.prog 7 := ⟨_, _, Try.func7, rfl, by kernel_rfl⟩
instance : Fun Try.prog 8 := ⟨_, _, Try.func8, rfl, by kernel_rfl⟩
instance : Fun Try.prog 9 := ⟨_, _, Try.func9, rfl, by kernel_rfl⟩
instance : Fun Try.prog 10 := ⟨_, _, Try.func10, rfl, by kernel_rfl⟩
instance : Fun Try.prog 11 := ⟨_, _, Try.func11, rfl, by kernel_rfl⟩
instance : Fun Try.prog 12 := ⟨_, _, Try.func12, rfl, by kernel_rfl⟩
instance : Fun Try.prog 13 := ⟨_, _, Try.func13, rfl, by kernel_rfl⟩
instance : Fun Try.prog 14 := ⟨_, _, Try.func14, rfl, by kernel_rfl⟩
instance : Fun Try.prog 15 := ⟨_, _, Try.func15, rfl, by kernel_rfl⟩
instance : Fun Try.prog 16 := ⟨_, _, Try.func16, rfl, by kernel_rfl⟩
instance : Fun Try.prog 17 := ⟨_, _, Try.func17, rfl, by kernel_rfl⟩
instance : Fun Try.prog 18 := ⟨_, _, Try.func18, rfl, by kernel_rfl⟩
instance : Fun Try.prog 19 := ⟨_, _, Try.func19, rfl, by kernel_rfl⟩
instance : Fun Try.prog 20 := ⟨_, _, Try.func20, rfl, by kernel_rfl⟩
instance : Fun Try.prog 21 := ⟨_, _, Try.func21, rfl, by kernel_rfl⟩
instance : Fun Try.prog 22 := ⟨_, _, Try.func22, rfl, by kernel_rfl⟩
instance : Fun Try.prog 23 := ⟨_, _, Try.func23, rfl, by kernel_rfl⟩
instance : Fun Try.prog 24 := ⟨_, _, Try.func24, rfl, by kernel_rfl⟩
instance : Fun Try.prog 25 := ⟨_, _, Try.func25, rfl, by kernel_rfl⟩
instance : Fun Try.prog 26 := ⟨_, _, Try.func26, rfl, by kernel_rfl⟩
instance : Fun Try.prog 27 := ⟨_, _, Try.func27, rfl, by kernel_rfl⟩
instance : Fun Try.prog 28 := ⟨_, _, Try.func28, rfl, by kernel_rfl⟩
instance : Fun Try.prog 29 := ⟨_, _, Try.func29, rfl, by kernel_rfl⟩
instance : Fun Try.prog 30 := ⟨_, _, Try.func30, rfl, by kernel_rfl⟩
instance : Fun Try.prog 31 := ⟨_, _, Try.func31, rfl, by kernel_rfl⟩
instance : Fun Try.prog 32 := ⟨_, _, Try.func32, rfl, by kernel_rfl⟩
instance : Fun Try.prog 33 := ⟨_, _, Try.func33, rfl, by kernel_rfl⟩
instance : Fun Try.prog 34 := ⟨_, _, Try.func34, rfl, by kernel_rfl⟩
instance : Fun Try.prog 35 := ⟨_, _, Try.func35, rfl, by kernel_rfl⟩
instance : Fun Try.prog 36 := ⟨_, _, Try.func36, rfl, by kernel_rfl⟩
instance : Fun Try.prog 37 := ⟨_, _, Try.func37, rfl, by kernel_rfl⟩
instance : Fun Try.prog 38 := ⟨_, _, Try.func38, rfl, by kernel_rfl⟩
instance : Fun Try.prog 39 := ⟨_, _, Try.func39, rfl, by kernel_rfl⟩
instance : Fun Try.prog 40 := ⟨_, _, Try.func40, rfl, by kernel_rfl⟩
instance : Fun Try.prog 41 := ⟨_, _, Try.func41, rfl, by kernel_rfl⟩
instance : Fun Try.prog 42 := ⟨_, _, Try.func42, rfl, by kernel_rfl⟩
instance : Fun Try.prog 43 := ⟨_, _, Try.func43, rfl, by kernel_rfl⟩
instance : Fun Try.prog 44 := ⟨_, _, Try.func44, rfl, by kernel_rfl⟩
instance : Fun Try.prog 45 := ⟨_, _, Try.func45, rfl, by kernel_rfl⟩
instance : Fun Try.prog 46 := ⟨_, _, Try.func46, rfl, by kernel_rfl⟩
instance : Fun Try.prog 47 := ⟨_, _, Try.func47, rfl, by kernel_rfl⟩
instance : Fun Try.prog 48 := ⟨_, _, Try.func48, rfl, by kernel_rfl⟩
instance : Fun Try.prog 49 := ⟨_, _, Try.func49, rfl, by kernel_rfl⟩
instance : Fun Try.prog 50 := ⟨_, _, Try.func50, rfl, by kernel_rfl⟩
instance : Fun Try.prog 51 := ⟨_, _, Try.func51, rfl, by kernel_rfl⟩
instance : Fun Try.prog 52 := ⟨_, _, Try.func52, rfl, by kernel_rfl⟩
instance : Fun Try.prog 53 := ⟨_, _, Try.func53, rfl, by kernel_rfl⟩
instance : Fun Try.prog 54 := ⟨_, _, Try.func54, rfl, by kernel_rfl⟩
instance : Fun Try.prog 55 := ⟨_, _, Try.func55, rfl, by kernel_rfl⟩
instance : Fun Try.prog 56 := ⟨_, _, Try.func56, rfl, by kernel_rfl⟩
instance : Fun Try.prog 57 := ⟨_, _, Try.func57, rfl, by kernel_rfl⟩
instance : Fun Try.prog 58 := ⟨_, _, Try.func58, rfl, by kernel_rfl⟩
instance : Mix Try.prog := ⟨by kernel_rfl⟩
end Go.SX
