/- The types of this translation, as instances. -/
import Derived.Test.YtmcfcnlglohliaaDoorProg
import Derived.Test.YtmcfcnlglohliaaDoorSy
namespace Go.SX
open Go.Proofs
instance : Und Tryd.prog 1 (.func #[] #[] false) := ⟨Tryd.underlying1⟩
instance : Inf Tryd.prog 1 .nilFunc 1 8 := Inf.of (by kernel_rfl)
instance : Und Tryd.prog 2 (.int .i64) := ⟨Tryd.underlying2⟩
instance : Inf Tryd.prog 2 (.int .i64 0) 1 8 := Inf.of (by kernel_rfl)
instance : Und Tryd.prog 3 (.int .i64) := ⟨Tryd.underlying3⟩
instance : Inf Tryd.prog 3 (.int .i64 0) 1 8 := Inf.of (by kernel_rfl)
instance : Und Tryd.prog 4 .bool := ⟨Tryd.underlying4⟩
instance : Inf Tryd.prog 4 (.bool false) 1 1 := Inf.of (by kernel_rfl)
instance : Und Tryd.prog 5 (.int .u8) := ⟨Tryd.underlying5⟩
instance : Inf Tryd.prog 5 (.int .u8 0) 1 1 := Inf.of (by kernel_rfl)
instance : Und Tryd.prog 6 (.int .u8) := ⟨Tryd.underlying6⟩
instance : Inf Tryd.prog 6 (.int .u8 0) 1 1 := Inf.of (by kernel_rfl)
instance : Und Tryd.prog 7 (.struct #[{ name := "x", type := 2, offset := 0, embedded := false, tag := "", pkgPath := "runtime", byteOffset := 0 }, { name := "y", type := 3, offset := 1, embedded := false, tag := "", pkgPath := "runtime", byteOffset := 8 }, { name := "signed", type := 4, offset := 2, embedded := false, tag := "", pkgPath := "runtime", byteOffset := 16 }, { name := "code", type := 6, offset := 3, embedded := false, tag := "", pkgPath := "runtime", byteOffset := 17 }]) := ⟨Tryd.underlying7⟩
instance : Inf Tryd.prog 7 (.agg #[(.int .i64 0), (.int .i64 0), (.bool false), (.int .u8 0)]) 4 24 := Inf.of (by kernel_rfl)
instance : Und Tryd.prog 8 (.struct #[{ name := "x", type := 2, offset := 0, embedded := false, tag := "", pkgPath := "runtime", byteOffset := 0 }, { name := "y", type := 3, offset := 1, embedded := false, tag := "", pkgPath := "runtime", byteOffset := 8 }, { name := "signed", type := 4, offset := 2, embedded := false, tag := "", pkgPath := "runtime", byteOffset := 16 }, { name := "code", type := 6, offset := 3, embedded := false, tag := "", pkgPath := "runtime", byteOffset := 17 }]) := ⟨Tryd.underlying8⟩
instance : Inf Tryd.prog 8 (.agg #[(.int .i64 0), (.int .i64 0), (.bool false), (.int .u8 0)]) 4 24 := Inf.of (by kernel_rfl)
instance : Und Tryd.prog 9 .string := ⟨Tryd.underlying9⟩
instance : Inf Tryd.prog 9 (.string ByteArray.empty) 1 16 := Inf.of (by kernel_rfl)
instance : Und Tryd.prog 10 .string := ⟨Tryd.underlying10⟩
instance : Inf Tryd.prog 10 (.string ByteArray.empty) 1 16 := Inf.of (by kernel_rfl)
instance : Und Tryd.prog 11 .string := ⟨Tryd.underlying11⟩
instance : Inf Tryd.prog 11 (.string ByteArray.empty) 1 16 := Inf.of (by kernel_rfl)
instance : Und Tryd.prog 12 (.int .u64) := ⟨Tryd.underlying12⟩
instance : Inf Tryd.prog 12 (.int .u64 0) 1 8 := Inf.of (by kernel_rfl)
instance : Und Tryd.prog 13 (.struct #[{ name := "msg", type := 9, offset := 0, embedded := false, tag := "", pkgPath := "runtime", byteOffset := 0 }, { name := "addr", type := 12, offset := 1, embedded := false, tag := "", pkgPath := "runtime", byteOffset := 16 }]) := ⟨Tryd.underlying13⟩
instance : Inf Tryd.prog 13 (.agg #[(.string ByteArray.empty), (.int .u64 0)]) 2 24 := Inf.of (by kernel_rfl)
instance : Und Tryd.prog 14 (.struct #[{ name := "msg", type := 9, offset := 0, embedded := false, tag := "", pkgPath := "runtime", byteOffset := 0 }, { name := "addr", type := 12, offset := 1, embedded := false, tag := "", pkgPath := "runtime", byteOffset := 16 }]) := ⟨Tryd.underlying14⟩
instance : Inf Tryd.prog 14 (.agg #[(.string ByteArray.empty), (.int .u64 0)]) 2 24 := Inf.of (by kernel_rfl)
instance : Und Tryd.prog 15 (.pointer 103) := ⟨Tryd.underlying15⟩
instance : Inf Tryd.prog 15 (.pointer none) 1 8 := Inf.of (by kernel_rfl)
instance : Und Tryd.prog 16 (.pointer 106) := ⟨Tryd.underlying16⟩
instance : Inf Tryd.prog 16 (.pointer none) 1 8 := Inf.of (by kernel_rfl)
instance : Und Tryd.prog 17 (.pointer 114) := ⟨Tryd.underlying17⟩
instance : Inf Tryd.prog 17 (.pointer none) 1 8 := Inf.of (by kernel_rfl)
instance : Und Tryd.prog 18 (.struct #[{ name := "typ", type := 17, offset := 0, embedded := false, tag := "", pkgPath := "internal/runtime/maps", byteOffset := 0 }]) := ⟨Tryd.underlying18⟩
instance : Inf Tryd.prog 18 (.agg #[(.pointer none)]) 1 8 := Inf.of (by kernel_rfl)
instance : Und Tryd.prog 19 (.struct #[{ name := "typ", type := 17, offset := 0, embedded := false, tag := "", pkgPath := "internal/runtime/maps", byteOffset := 0 }]) := ⟨Tryd.underlying19⟩
instance : Inf Tryd.prog 19 (.agg #[(.pointer none)]) 1 8 := Inf.of (by kernel_rfl)
instance : Inf Tryd.prog 20 .nilIface 1 16 := Inf.of (by kernel_rfl)
instance : Und Tryd.prog 21 (.int .i32) := ⟨Tryd.underlying21⟩
instance : Inf Tryd.prog 21 (.int .i32 0) 1 4 := Inf.of (by kernel_rfl)
instance : Und Tryd.prog 22 (.slice 31) := ⟨Tryd.underlying22⟩
instance : Inf Tryd.prog 22 (.slice none 0 0) 1 24 := Inf.of (by kernel_rfl)
instance : Und Tryd.prog 23 (.func #[3, 3] #[3] false) := ⟨Tryd.underlying23⟩
instance : Inf Tryd.prog 23 .nilFunc 1 8 := Inf.of (by kernel_rfl)
instance : Und Tryd.prog 24 (.pointer 81) := ⟨Tryd.underlying24⟩
instance : Inf Tryd.prog 24 (.pointer none) 1 8 := Inf.of (by kernel_rfl)
instance : Und Tryd.prog 25 (.int .i64) := ⟨Tryd.underlying25⟩
instance : Inf Tryd.prog 25 (.int .i64 0) 1 8 := Inf.of (by kernel_rfl)
instance : Und Tryd.prog 27 (.func #[3] #[24, 25] false) := ⟨Tryd.underlying27⟩
instance : Inf Tryd.prog 27 .nilFunc 1 8 := Inf.of (by kernel_rfl)
instance : Und Tryd.prog 29 (.func #[3, 3] #[3, 25] false) := ⟨Tryd.underlying29⟩
instance : Inf Tryd.prog 29 .nilFunc 1 8 := Inf.of (by kernel_rfl)
instance : Und Tryd.prog 30 (.slice 37) := ⟨Tryd.underlying30⟩
instance : Inf Tryd.prog 30 (.slice none 0 0) 1 24 := Inf.of (by kernel_rfl)
instance : Und Tryd.prog 31 (.array 3 3) := ⟨Tryd.underlying31⟩
instance : Inf Tryd.prog 31 (.agg #[(.int .i64 0), (.int .i64 0), (.int .i64 0)]) 3 24 := Inf.of (by kernel_rfl)
instance : Und Tryd.prog 32 (.slice 3) := ⟨Tryd.underlying32⟩
instance : Inf Tryd.prog 32 (.slice none 0 0) 1 24 := Inf.of (by kernel_rfl)
instance : Und Tryd.prog 33 (.struct #[{ name := "Num", type := 3, offset := 0, embedded := false, tag := "", pkgPath := "", byteOffset := 0 }, { name := "Full", type := 3, offset := 1, embedded := false, tag := "", pkgPath := "", byteOffset := 8 }, { name := "Chain", type := 32, offset := 2, embedded := false, tag := "", pkgPath := "", byteOffset := 16 }]) := ⟨Tryd.underlying33⟩
instance : Inf Tryd.prog 33 (.agg #[(.int .i64 0), (.int .i64 0), (.slice none 0 0)]) 3 40 := Inf.of (by kernel_rfl)
instance : Und Tryd.prog 34 (.struct #[{ name := "Num", type := 3, offset := 0, embedded := false, tag := "", pkgPath := "", byteOffset := 0 }, { name := "Full", type := 3, offset := 1, embedded := false, tag := "", pkgPath := "", byteOffset := 8 }, { name := "Chain", type := 32, offset := 2, embedded := false, tag := "", pkgPath := "", byteOffset := 16 }]) := ⟨Tryd.underlying34⟩
instance : Inf Tryd.prog 34 (.agg #[(.int .i64 0), (.int .i64 0), (.slice none 0 0)]) 3 40 := Inf.of (by kernel_rfl)
instance : Und Tryd.prog 35 (.func #[3, 3] #[34] false) := ⟨Tryd.underlying35⟩
instance : Inf Tryd.prog 35 .nilFunc 1 8 := Inf.of (by kernel_rfl)
instance : Und Tryd.prog 36 (.struct #[{ name := "Ballot", type := 3, offset := 0, embedded := false, tag := "", pkgPath := "", byteOffset := 0 }, { name := "Conf", type := 34, offset := 1, embedded := false, tag := "", pkgPath := "", byteOffset := 8 }]) := ⟨Tryd.underlying36⟩
instance : Inf Tryd.prog 36 (.agg #[(.int .i64 0), (.int .i64 0), (.int .i64 0), (.slice none 0 0)]) 4 48 := Inf.of (by kernel_rfl)
instance : Und Tryd.prog 37 (.struct #[{ name := "Ballot", type := 3, offset := 0, embedded := false, tag := "", pkgPath := "", byteOffset := 0 }, { name := "Conf", type := 34, offset := 1, embedded := false, tag := "", pkgPath := "", byteOffset := 8 }]) := ⟨Tryd.underlying37⟩
instance : Inf Tryd.prog 37 (.agg #[(.int .i64 0), (.int .i64 0), (.int .i64 0), (.slice none 0 0)]) 4 48 := Inf.of (by kernel_rfl)
instance : Und Tryd.prog 39 (.func #[3, 3, 30] #[4, 25] false) := ⟨Tryd.underlying39⟩
instance : Inf Tryd.prog 39 .nilFunc 1 8 := Inf.of (by kernel_rfl)
instance : Und Tryd.prog 41 (.func #[3] #[34, 4] false) := ⟨Tryd.underlying41⟩
instance : Inf Tryd.prog 41 .nilFunc 1 8 := Inf.of (by kernel_rfl)
instance : Und Tryd.prog 42 (.func #[34, 3, 3] #[4] false) := ⟨Tryd.underlying42⟩
instance : Inf Tryd.prog 42 .nilFunc 1 8 := Inf.of (by kernel_rfl)
instance : Und Tryd.prog 43 (.func #[] #[3] false) := ⟨Tryd.underlying43⟩
instance : Inf Tryd.prog 43 .nilFunc 1 8 := Inf.of (by kernel_rfl)
instance : Und Tryd.prog 44 (.func #[] #[4] false) := ⟨Tryd.underlying44⟩
instance : Inf Tryd.prog 44 .nilFunc 1 8 := Inf.of (by kernel_rfl)
instance : Und Tryd.prog 45 (.func #[3, 22, 3] #[4] false) := ⟨Tryd.underlying45⟩
instance : Inf Tryd.prog 45 .nilFunc 1 8 := Inf.of (by kernel_rfl)
instance : Und Tryd.prog 46 (.slice 48) := ⟨Tryd.underlying46⟩
instance : Inf Tryd.prog 46 (.slice none 0 0) 1 24 := Inf.of (by kernel_rfl)
instance : Und Tryd.prog 47 (.array 3 24) := ⟨Tryd.underlying47⟩
instance : Inf Tryd.prog 47 (.agg #[(.pointer none), (.pointer none), (.pointer none)]) 3 24 := Inf.of (by kernel_rfl)
instance : Und Tryd.prog 48 (.array 2 3) := ⟨Tryd.underlying48⟩
instance : Inf Tryd.prog 48 (.agg #[(.int .i64 0), (.int .i64 0)]) 2 16 := Inf.of (by kernel_rfl)
instance : Und Tryd.prog 49 (.func #[46] #[4] false) := ⟨Tryd.underlying49⟩
instance : Inf Tryd.prog 49 .nilFunc 1 8 := Inf.of (by kernel_rfl)
instance : Und Tryd.prog 50 (.array 3 4) := ⟨Tryd.underlying50⟩
instance : Inf Tryd.prog 50 (.agg #[(.bool false), (.bool false), (.bool false)]) 3 3 := Inf.of (by kernel_rfl)
instance : Und Tryd.prog 52 (.func #[34] #[34, 25] false) := ⟨Tryd.underlying52⟩
instance : Inf Tryd.prog 52 .nilFunc 1 8 := Inf.of (by kernel_rfl)
instance : Und Tryd.prog 53 (.func #[3, 3, 3] #[4, 25] false) := ⟨Tryd.underlying53⟩
instance : Inf Tryd.prog 53 .nilFunc 1 8 := Inf.of (by kernel_rfl)
instance : Und Tryd.prog 54 (.func #[] #[34, 4] false) := ⟨Tryd.underlying54⟩
instance : Inf Tryd.prog 54 .nilFunc 1 8 := Inf.of (by kernel_rfl)
instance : Und Tryd.prog 55 (.func #[3, 32, 32] #[4] false) := ⟨Tryd.underlying55⟩
instance : Inf Tryd.prog 55 .nilFunc 1 8 := Inf.of (by kernel_rfl)
instance : Und Tryd.prog 56 (.slice 62) := ⟨Tryd.underlying56⟩
instance : Inf Tryd.prog 56 (.slice none 0 0) 1 24 := Inf.of (by kernel_rfl)
instance : Und Tryd.prog 57 (.pointer 64) := ⟨Tryd.underlying57⟩
instance : Inf Tryd.prog 57 (.pointer none) 1 8 := Inf.of (by kernel_rfl)
instance : Und Tryd.prog 59 (.func #[3] #[57, 25] false) := ⟨Tryd.underlying59⟩
instance : Inf Tryd.prog 59 .nilFunc 1 8 := Inf.of (by kernel_rfl)
instance : Und Tryd.prog 60 (.func #[24, 57, 62] #[4] false) := ⟨Tryd.underlying60⟩
instance : Inf Tryd.prog 60 .nilFunc 1 8 := Inf.of (by kernel_rfl)
instance : Und Tryd.prog 61 (.struct #[{ name := "Kind", type := 3, offset := 0, embedded := false, tag := "", pkgPath := "", byteOffset := 0 }, { name := "A", type := 3, offset := 1, embedded := false, tag := "", pkgPath := "", byteOffset := 8 }, { name := "B", type := 3, offset := 2, embedded := false, tag := "", pkgPath := "", byteOffset := 16 }, { name := "N", type := 3, offset := 3, embedded := false, tag := "", pkgPath := "", byteOffset := 24 }, { name := "Near", type := 4, offset := 4, embedded := false, tag := "", pkgPath := "", byteOffset := 32 }, { name := "C", type := 34, offset := 5, embedded := false, tag := "", pkgPath := "", byteOffset := 40 }, { name := "Votes", type := 30, offset := 8, embedded := false, tag := "", pkgPath := "", byteOffset := 80 }]) := ⟨Tryd.underlying61⟩
instance : Inf Tryd.prog 61 (.agg #[(.int .i64 0), (.int .i64 0), (.int .i64 0), (.int .i64 0), (.bool false), (.int .i64 0), (.int .i64 0), (.slice none 0 0), (.slice none 0 0)]) 9 104 := Inf.of (by kernel_rfl)
instance : Und Tryd.prog 62 (.struct #[{ name := "Kind", type := 3, offset := 0, embedded := false, tag := "", pkgPath := "", byteOffset := 0 }, { name := "A", type := 3, offset := 1, embedded := false, tag := "", pkgPath := "", byteOffset := 8 }, { name := "B", type := 3, offset := 2, embedded := false, tag := "", pkgPath := "", byteOffset := 16 }, { name := "N", type := 3, offset := 3, embedded := false, tag := "", pkgPath := "", byteOffset := 24 }, { name := "Near", type := 4, offset := 4, embedded := false, tag := "", pkgPath := "", byteOffset := 32 }, { name := "C", type := 34, offset := 5, embedded := false, tag := "", pkgPath := "", byteOffset := 40 }, { name := "Votes", type := 30, offset := 8, embedded := false, tag := "", pkgPath := "", byteOffset := 80 }]) := ⟨Tryd.underlying62⟩
instance : Inf Tryd.prog 62 (.agg #[(.int .i64 0), (.int .i64 0), (.int .i64 0), (.int .i64 0), (.bool false), (.int .i64 0), (.int .i64 0), (.slice none 0 0), (.slice none 0 0)]) 9 104 := Inf.of (by kernel_rfl)
instance : Und Tryd.prog 63 (.struct #[{ name := "Id", type := 3, offset := 0, embedded := false, tag := "", pkgPath := "", byteOffset := 0 }, { name := "B", type := 3, offset := 1, embedded := false, tag := "", pkgPath := "", byteOffset := 8 }, { name := "F", type := 3, offset := 2, embedded := false, tag := "", pkgPath := "", byteOffset := 16 }, { name := "P", type := 3, offset := 3, embedded := false, tag := "", pkgPath := "", byteOffset := 24 }, { name := "Promised", type := 50, offset := 4, embedded := false, tag := "", pkgPath := "", byteOffset := 32 }, { name := "Bounds", type := 30, offset := 7, embedded := false, tag := "", pkgPath := "", byteOffset := 40 }, { name := "Has", type := 4, offset := 8, embedded := false, tag := "", pkgPath := "", byteOffset := 64 }, { name := "C", type := 34, offset := 9, embedded := false, tag := "", pkgPath := "", byteOffset := 72 }, { name := "Said", type := 50, offset := 12, embedded := false, tag := "", pkgPath := "", byteOffset := 112 }]) := ⟨Tryd.underlying63⟩
instance : Inf Tryd.prog 63 (.agg #[(.int .i64 0), (.int .i64 0), (.int .i64 0), (.int .i64 0), (.bool false), (.bool false), (.bool false), (.slice none 0 0), (.bool false), (.int .i64 0), (.int .i64 0), (.slice none 0 0), (.bool false), (.bool false), (.bool false)]) 15 120 := Inf.of (by kernel_rfl)
instance : Und Tryd.prog 64 (.struct #[{ name := "Id", type := 3, offset := 0, embedded := false, tag := "", pkgPath := "", byteOffset := 0 }, { name := "B", type := 3, offset := 1, embedded := false, tag := "", pkgPath := "", byteOffset := 8 }, { name := "F", type := 3, offset := 2, embedded := false, tag := "", pkgPath := "", byteOffset := 16 }, { name := "P", type := 3, offset := 3, embedded := false, tag := "", pkgPath := "", byteOffset := 24 }, { name := "Promised", type := 50, offset := 4, embedded := false, tag := "", pkgPath := "", byteOffset := 32 }, { name := "Bounds", type := 30, offset := 7, embedded := false, tag := "", pkgPath := "", byteOffset := 40 }, { name := "Has", type := 4, offset := 8, embedded := false, tag := "", pkgPath := "", byteOffset := 64 }, { name := "C", type := 34, offset := 9, embedded := false, tag := "", pkgPath := "", byteOffset := 72 }, { name := "Said", type := 50, offset := 12, embedded := false, tag := "", pkgPath := "", byteOffset := 112 }]) := ⟨Tryd.underlying64⟩
instance : Inf Tryd.prog 64 (.agg #[(.int .i64 0), (.int .i64 0), (.int .i64 0), (.int .i64 0), (.bool false), (.bool false), (.bool false), (.slice none 0 0), (.bool false), (.int .i64 0), (.int .i64 0), (.slice none 0 0), (.bool false), (.bool false), (.bool false)]) 15 120 := Inf.of (by kernel_rfl)
instance : Und Tryd.prog 65 (.func #[34, 34] #[4] false) := ⟨Tryd.underlying65⟩
instance : Inf Tryd.prog 65 .nilFunc 1 8 := Inf.of (by kernel_rfl)
instance : Und Tryd.prog 66 (.func #[3, 56] #[4] false) := ⟨Tryd.underlying66⟩
instance : Inf Tryd.prog 66 .nilFunc 1 8 := Inf.of (by kernel_rfl)
instance : Und Tryd.prog 67 (.pointer 72) := ⟨Tryd.underlying67⟩
instance : Inf Tryd.prog 67 (.pointer none) 1 8 := Inf.of (by kernel_rfl)
instance : Und Tryd.prog 68 (.struct #[{ name := "promised", type := 3, offset := 0, embedded := false, tag := "", pkgPath := "sealchain/sealchainlaw16", byteOffset := 0 }, { name := "vote", type := 37, offset := 1, embedded := false, tag := "", pkgPath := "sealchain/sealchainlaw16", byteOffset := 8 }]) := ⟨Tryd.underlying68⟩
instance : Inf Tryd.prog 68 (.agg #[(.int .i64 0), (.int .i64 0), (.int .i64 0), (.int .i64 0), (.slice none 0 0)]) 5 56 := Inf.of (by kernel_rfl)
instance : Und Tryd.prog 69 (.struct #[{ name := "promised", type := 3, offset := 0, embedded := false, tag := "", pkgPath := "sealchain/sealchainlaw16", byteOffset := 0 }, { name := "vote", type := 37, offset := 1, embedded := false, tag := "", pkgPath := "sealchain/sealchainlaw16", byteOffset := 8 }]) := ⟨Tryd.underlying69⟩
instance : Inf Tryd.prog 69 (.agg #[(.int .i64 0), (.int .i64 0), (.int .i64 0), (.int .i64 0), (.slice none 0 0)]) 5 56 := Inf.of (by kernel_rfl)
instance : Und Tryd.prog 70 (.array 3 69) := ⟨Tryd.underlying70⟩
instance : Inf Tryd.prog 70 (.agg #[(.int .i64 0), (.int .i64 0), (.int .i64 0), (.int .i64 0), (.slice none 0 0), (.int .i64 0), (.int .i64 0), (.int .i64 0), (.int .i64 0), (.slice none 0 0), (.int .i64 0), (.int .i64 0), (.int .i64 0), (.int .i64 0), (.slice none 0 0)]) 15 168 := Inf.of (by kernel_rfl)
instance : Und Tryd.prog 71 (.struct #[{ name := "leads", type := 47, offset := 0, embedded := false, tag := "", pkgPath := "sealchain/sealchainlaw16", byteOffset := 0 }, { name := "votes", type := 70, offset := 3, embedded := false, tag := "", pkgPath := "sealchain/sealchainlaw16", byteOffset := 24 }, { name := "chosen", type := 3, offset := 18, embedded := false, tag := "", pkgPath := "sealchain/sealchainlaw16", byteOffset := 192 }]) := ⟨Tryd.underlying71⟩
instance : Inf Tryd.prog 71 (.agg #[(.pointer none), (.pointer none), (.pointer none), (.int .i64 0), (.int .i64 0), (.int .i64 0), (.int .i64 0), (.slice none 0 0), (.int .i64 0), (.int .i64 0), (.int .i64 0), (.int .i64 0), (.slice none 0 0), (.int .i64 0), (.int .i64 0), (.int .i64 0), (.int .i64 0), (.slice none 0 0), (.int .i64 0)]) 19 200 := Inf.of (by kernel_rfl)
instance : Und Tryd.prog 72 (.struct #[{ name := "leads", type := 47, offset := 0, embedded := false, tag := "", pkgPath := "sealchain/sealchainlaw16", byteOffset := 0 }, { name := "votes", type := 70, offset := 3, embedded := false, tag := "", pkgPath := "sealchain/sealchainlaw16", byteOffset := 24 }, { name := "chosen", type := 3, offset := 18, embedded := false, tag := "", pkgPath := "sealchain/sealchainlaw16", byteOffset := 192 }]) := ⟨Tryd.underlying72⟩
instance : Inf Tryd.prog 72 (.agg #[(.pointer none), (.pointer none), (.pointer none), (.int .i64 0), (.int .i64 0), (.int .i64 0), (.int .i64 0), (.slice none 0 0), (.int .i64 0), (.int .i64 0), (.int .i64 0), (.int .i64 0), (.slice none 0 0), (.int .i64 0), (.int .i64 0), (.int .i64 0), (.int .i64 0), (.slice none 0 0), (.int .i64 0)]) 19 200 := Inf.of (by kernel_rfl)
instance : Und Tryd.prog 73 (.func #[3, 3] #[4] false) := ⟨Tryd.underlying73⟩
instance : Inf Tryd.prog 73 .nilFunc 1 8 := Inf.of (by kernel_rfl)
instance : Und Tryd.prog 74 (.func #[22] #[4] false) := ⟨Tryd.underlying74⟩
instance : Inf Tryd.prog 74 .nilFunc 1 8 := Inf.of (by kernel_rfl)
instance : Und Tryd.prog 75 (.func #[3] #[25] false) := ⟨Tryd.underlying75⟩
instance : Inf Tryd.prog 75 .nilFunc 1 8 := Inf.of (by kernel_rfl)
instance : Und Tryd.prog 76 (.int .u64) := ⟨Tryd.underlying76⟩
instance : Inf Tryd.prog 76 (.int .u64 0) 1 8 := Inf.of (by kernel_rfl)
instance : Und Tryd.prog 77 (.int .u64) := ⟨Tryd.underlying77⟩
instance : Inf Tryd.prog 77 (.int .u64 0) 1 8 := Inf.of (by kernel_rfl)
instance : Und Tryd.prog 78 (.map 3 37) := ⟨Tryd.underlying78⟩
instance : Inf Tryd.prog 78 (.map none) 1 8 := Inf.of (by kernel_rfl)
instance : Und Tryd.prog 79 (.pointer 34) := ⟨Tryd.underlying79⟩
instance : Inf Tryd.prog 79 (.pointer none) 1 8 := Inf.of (by kernel_rfl)
instance : Und Tryd.prog 80 (.struct #[{ name := "id", type := 3, offset := 0, embedded := false, tag := "", pkgPath := "sealchain/lead", byteOffset := 0 }, { name := "ballot", type := 3, offset := 1, embedded := false, tag := "", pkgPath := "sealchain/lead", byteOffset := 8 }, { name := "from", type := 3, offset := 2, embedded := false, tag := "", pkgPath := "sealchain/lead", byteOffset := 16 }, { name := "phase", type := 3, offset := 3, embedded := false, tag := "", pkgPath := "sealchain/lead", byteOffset := 24 }, { name := "promised", type := 77, offset := 4, embedded := false, tag := "", pkgPath := "sealchain/lead", byteOffset := 32 }, { name := "bounds", type := 78, offset := 5, embedded := false, tag := "", pkgPath := "sealchain/lead", byteOffset := 40 }, { name := "pending", type := 79, offset := 6, embedded := false, tag := "", pkgPath := "sealchain/lead", byteOffset := 48 }, { name := "said", type := 77, offset := 7, embedded := false, tag := "", pkgPath := "sealchain/lead", byteOffset := 56 }, { name := "made", type := 4, offset := 8, embedded := false, tag := "", pkgPath := "sealchain/lead", byteOffset := 64 }]) := ⟨Tryd.underlying80⟩
instance : Inf Tryd.prog 80 (.agg #[(.int .i64 0), (.int .i64 0), (.int .i64 0), (.int .i64 0), (.int .u64 0), (.map none), (.pointer none), (.int .u64 0), (.bool false)]) 9 72 := Inf.of (by kernel_rfl)
instance : Und Tryd.prog 81 (.struct #[{ name := "id", type := 3, offset := 0, embedded := false, tag := "", pkgPath := "sealchain/lead", byteOffset := 0 }, { name := "ballot", type := 3, offset := 1, embedded := false, tag := "", pkgPath := "sealchain/lead", byteOffset := 8 }, { name := "from", type := 3, offset := 2, embedded := false, tag := "", pkgPath := "sealchain/lead", byteOffset := 16 }, { name := "phase", type := 3, offset := 3, embedded := false, tag := "", pkgPath := "sealchain/lead", byteOffset := 24 }, { name := "promised", type := 77, offset := 4, embedded := false, tag := "", pkgPath := "sealchain/lead", byteOffset := 32 }, { name := "bounds", type := 78, offset := 5, embedded := false, tag := "", pkgPath := "sealchain/lead", byteOffset := 40 }, { name := "pending", type := 79, offset := 6, embedded := false, tag := "", pkgPath := "sealchain/lead", byteOffset := 48 }, { name := "said", type := 77, offset := 7, embedded := false, tag := "", pkgPath := "sealchain/lead", byteOffset := 56 }, { name := "made", type := 4, offset := 8, embedded := false, tag := "", pkgPath := "sealchain/lead", byteOffset := 64 }]) := ⟨Tryd.underlying81⟩
instance : Inf Tryd.prog 81 (.agg #[(.int .i64 0), (.int .i64 0), (.int .i64 0), (.int .i64 0), (.int .u64 0), (.map none), (.pointer none), (.int .u64 0), (.bool false)]) 9 72 := Inf.of (by kernel_rfl)
instance : Und Tryd.prog 82 (.func #[3] #[77] false) := ⟨Tryd.underlying82⟩
instance : Inf Tryd.prog 82 .nilFunc 1 8 := Inf.of (by kernel_rfl)
instance : Und Tryd.prog 83 (.func #[34] #[34] false) := ⟨Tryd.underlying83⟩
instance : Inf Tryd.prog 83 .nilFunc 1 8 := Inf.of (by kernel_rfl)
instance : Und Tryd.prog 84 (.func #[77] #[4] false) := ⟨Tryd.underlying84⟩
instance : Inf Tryd.prog 84 .nilFunc 1 8 := Inf.of (by kernel_rfl)
instance : Und Tryd.prog 86 (.func #[32, 32] #[4] false) := ⟨Tryd.underlying86⟩
instance : Inf Tryd.prog 86 .nilFunc 1 8 := Inf.of (by kernel_rfl)
instance : Und Tryd.prog 87 (.func #[3] #[4] false) := ⟨Tryd.underlying87⟩
instance : Inf Tryd.prog 87 .nilFunc 1 8 := Inf.of (by kernel_rfl)
instance : Und Tryd.prog 88 (.func #[32] #[32] false) := ⟨Tryd.underlying88⟩
instance : Inf Tryd.prog 88 .nilFunc 1 8 := Inf.of (by kernel_rfl)
instance : Und Tryd.prog 89 (.func #[87] #[] false) := ⟨Tryd.underlying89⟩
instance : Inf Tryd.prog 89 .nilFunc 1 8 := Inf.of (by kernel_rfl)
instance : Und Tryd.prog 90 (.func #[87] #[] false) := ⟨Tryd.underlying90⟩
instance : Inf Tryd.prog 90 .nilFunc 1 8 := Inf.of (by kernel_rfl)
instance : Und Tryd.prog 91 (.func #[] #[90] false) := ⟨Tryd.underlying91⟩
instance : Inf Tryd.prog 91 .nilFunc 1 8 := Inf.of (by kernel_rfl)
instance : Und Tryd.prog 92 (.func #[76] #[3] false) := ⟨Tryd.underlying92⟩
instance : Inf Tryd.prog 92 .nilFunc 1 8 := Inf.of (by kernel_rfl)
instance : Und Tryd.prog 93 (.func #[37] #[] false) := ⟨Tryd.underlying93⟩
instance : Inf Tryd.prog 93 .nilFunc 1 8 := Inf.of (by kernel_rfl)
instance : Und Tryd.prog 94 (.func #[50] #[3] false) := ⟨Tryd.underlying94⟩
instance : Inf Tryd.prog 94 .nilFunc 1 8 := Inf.of (by kernel_rfl)
instance : Und Tryd.prog 95 (.func #[96] #[3] false) := ⟨Tryd.underlying95⟩
instance : Inf Tryd.prog 95 .nilFunc 1 8 := Inf.of (by kernel_rfl)
instance : Und Tryd.prog 96 (.int .u32) := ⟨Tryd.underlying96⟩
instance : Inf Tryd.prog 96 (.int .u32 0) 1 4 := Inf.of (by kernel_rfl)
instance : Und Tryd.prog 97 (.func #[98] #[3] false) := ⟨Tryd.underlying97⟩
instance : Inf Tryd.prog 97 .nilFunc 1 8 := Inf.of (by kernel_rfl)
instance : Und Tryd.prog 98 (.int .u64) := ⟨Tryd.underlying98⟩
instance : Inf Tryd.prog 98 (.int .u64 0) 1 8 := Inf.of (by kernel_rfl)
instance : Und Tryd.prog 99 (.array 32 5) := ⟨Tryd.underlying99⟩
instance : Inf Tryd.prog 99 (.agg #[(.int .u8 0), (.int .u8 0), (.int .u8 0), (.int .u8 0), (.int .u8 0), (.int .u8 0), (.int .u8 0), (.int .u8 0), (.int .u8 0), (.int .u8 0), (.int .u8 0), (.int .u8 0), (.int .u8 0), (.int .u8 0), (.int .u8 0), (.int .u8 0), (.int .u8 0), (.int .u8 0), (.int .u8 0), (.int .u8 0), (.int .u8 0), (.int .u8 0), (.int .u8 0), (.int .u8 0), (.int .u8 0), (.int .u8 0), (.int .u8 0), (.int .u8 0), (.int .u8 0), (.int .u8 0), (.int .u8 0), (.int .u8 0)]) 32 32 := Inf.of (by kernel_rfl)
instance : Und Tryd.prog 100 (.array 64 5) := ⟨Tryd.underlying100⟩
instance : Inf Tryd.prog 100 (.agg #[(.int .u8 0), (.int .u8 0), (.int .u8 0), (.int .u8 0), (.int .u8 0), (.int .u8 0), (.int .u8 0), (.int .u8 0), (.int .u8 0), (.int .u8 0), (.int .u8 0), (.int .u8 0), (.int .u8 0), (.int .u8 0), (.int .u8 0), (.int .u8 0), (.int .u8 0), (.int .u8 0), (.int .u8 0), (.int .u8 0), (.int .u8 0), (.int .u8 0), (.int .u8 0), (.int .u8 0), (.int .u8 0), (.int .u8 0), (.int .u8 0), (.int .u8 0), (.int .u8 0), (.int .u8 0), (.int .u8 0), (.int .u8 0), (.int .u8 0), (.int .u8 0), (.int .u8 0), (.int .u8 0), (.int .u8 0), (.int .u8 0), (.int .u8 0), (.int .u8 0), (.int .u8 0), (.int .u8 0), (.int .u8 0), (.int .u8 0), (.int .u8 0), (.int .u8 0), (.int .u8 0), (.int .u8 0), (.int .u8 0), (.int .u8 0), (.int .u8 0), (.int .u8 0), (.int .u8 0), (.int .u8 0), (.int .u8 0), (.int .u8 0), (.int .u8 0), (.int .u8 0), (.int .u8 0), (.int .u8 0), (.int .u8 0), (.int .u8 0), (.int .u8 0), (.int .u8 0)]) 64 64 := Inf.of (by kernel_rfl)
instance : Und Tryd.prog 101 (.func #[] #[9] false) := ⟨Tryd.underlying101⟩
instance : Inf Tryd.prog 101 .nilFunc 1 8 := Inf.of (by kernel_rfl)
instance : Und Tryd.prog 102 (.struct #[{ name := "_interface", type := 17, offset := 0, embedded := false, tag := "", pkgPath := "runtime", byteOffset := 0 }, { name := "concrete", type := 17, offset := 1, embedded := false, tag := "", pkgPath := "runtime", byteOffset := 8 }, { name := "asserted", type := 17, offset := 2, embedded := false, tag := "", pkgPath := "runtime", byteOffset := 16 }, { name := "missingMethod", type := 9, offset := 3, embedded := false, tag := "", pkgPath := "runtime", byteOffset := 24 }]) := ⟨Tryd.underlying102⟩
instance : Inf Tryd.prog 102 (.agg #[(.pointer none), (.pointer none), (.pointer none), (.string ByteArray.empty)]) 4 40 := Inf.of (by kernel_rfl)
instance : Und Tryd.prog 103 (.struct #[{ name := "_interface", type := 17, offset := 0, embedded := false, tag := "", pkgPath := "runtime", byteOffset := 0 }, { name := "concrete", type := 17, offset := 1, embedded := false, tag := "", pkgPath := "runtime", byteOffset := 8 }, { name := "asserted", type := 17, offset := 2, embedded := false, tag := "", pkgPath := "runtime", byteOffset := 16 }, { name := "missingMethod", type := 9, offset := 3, embedded := false, tag := "", pkgPath := "runtime", byteOffset := 24 }]) := ⟨Tryd.underlying103⟩
instance : Inf Tryd.prog 103 (.agg #[(.pointer none), (.pointer none), (.pointer none), (.string ByteArray.empty)]) 4 40 := Inf.of (by kernel_rfl)
instance : Und Tryd.prog 104 (.array 0 16) := ⟨Tryd.underlying104⟩
instance : Inf Tryd.prog 104 (.agg #[]) 0 0 := Inf.of (by kernel_rfl)
instance : Und Tryd.prog 105 (.struct #[{ name := "_", type := 104, offset := 0, embedded := false, tag := "", pkgPath := "runtime", byteOffset := 0 }]) := ⟨Tryd.underlying105⟩
instance : Inf Tryd.prog 105 (.agg #[]) 0 0 := Inf.of (by kernel_rfl)
instance : Und Tryd.prog 106 (.struct #[{ name := "_", type := 104, offset := 0, embedded := false, tag := "", pkgPath := "runtime", byteOffset := 0 }]) := ⟨Tryd.underlying106⟩
instance : Inf Tryd.prog 106 (.agg #[]) 0 0 := Inf.of (by kernel_rfl)
instance : Und Tryd.prog 107 (.int .u8) := ⟨Tryd.underlying107⟩
instance : Inf Tryd.prog 107 (.int .u8 0) 1 1 := Inf.of (by kernel_rfl)
instance : Und Tryd.prog 108 (.int .u8) := ⟨Tryd.underlying108⟩
instance : Inf Tryd.prog 108 (.int .u8 0) 1 1 := Inf.of (by kernel_rfl)
instance : Und Tryd.prog 109 (.func #[115, 115] #[4] false) := ⟨Tryd.underlying109⟩
instance : Inf Tryd.prog 109 .nilFunc 1 8 := Inf.of (by kernel_rfl)
instance : Und Tryd.prog 110 (.pointer 5) := ⟨Tryd.underlying110⟩
instance : Inf Tryd.prog 110 (.pointer none) 1 8 := Inf.of (by kernel_rfl)
instance : Und Tryd.prog 111 (.int .i32) := ⟨Tryd.underlying111⟩
instance : Inf Tryd.prog 111 (.int .i32 0) 1 4 := Inf.of (by kernel_rfl)
instance : Und Tryd.prog 112 (.int .i32) := ⟨Tryd.underlying112⟩
instance : Inf Tryd.prog 112 (.int .i32 0) 1 4 := Inf.of (by kernel_rfl)
instance : Und Tryd.prog 113 (.struct #[{ name := "Size_", type := 12, offset := 0, embedded := false, tag := "", pkgPath := "", byteOffset := 0 }, { name := "PtrBytes", type := 12, offset := 1, embedded := false, tag := "", pkgPath := "", byteOffset := 8 }, { name := "Hash", type := 96, offset := 2, embedded := false, tag := "", pkgPath := "", byteOffset := 16 }, { name := "TFlag", type := 107, offset := 3, embedded := false, tag := "", pkgPath := "", byteOffset := 20 }, { name := "Align_", type := 5, offset := 4, embedded := false, tag := "", pkgPath := "", byteOffset := 21 }, { name := "FieldAlign_", type := 5, offset := 5, embedded := false, tag := "", pkgPath := "", byteOffset := 22 }, { name := "Kind_", type := 108, offset := 6, embedded := false, tag := "", pkgPath := "", byteOffset := 23 }, { name := "Equal", type := 109, offset := 7, embedded := false, tag := "", pkgPath := "", byteOffset := 24 }, { name := "GCData", type := 110, offset := 8, embedded := false, tag := "", pkgPath := "", byteOffset := 32 }, { name := "Str", type := 111, offset := 9, embedded := false, tag := "", pkgPath := "", byteOffset := 40 }, { name := "PtrToThis", type := 112, offset := 10, embedded := false, tag := "", pkgPath := "", byteOffset := 44 }]) := ⟨Tryd.underlying113⟩
instance : Inf Tryd.prog 113 (.agg #[(.int .u64 0), (.int .u64 0), (.int .u32 0), (.int .u8 0), (.int .u8 0), (.int .u8 0), (.int .u8 0), .nilFunc, (.pointer none), (.int .i32 0), (.int .i32 0)]) 11 48 := Inf.of (by kernel_rfl)
instance : Und Tryd.prog 114 (.struct #[{ name := "Size_", type := 12, offset := 0, embedded := false, tag := "", pkgPath := "", byteOffset := 0 }, { name := "PtrBytes", type := 12, offset := 1, embedded := false, tag := "", pkgPath := "", byteOffset := 8 }, { name := "Hash", type := 96, offset := 2, embedded := false, tag := "", pkgPath := "", byteOffset := 16 }, { name := "TFlag", type := 107, offset := 3, embedded := false, tag := "", pkgPath := "", byteOffset := 20 }, { name := "Align_", type := 5, offset := 4, embedded := false, tag := "", pkgPath := "", byteOffset := 21 }, { name := "FieldAlign_", type := 5, offset := 5, embedded := false, tag := "", pkgPath := "", byteOffset := 22 }, { name := "Kind_", type := 108, offset := 6, embedded := false, tag := "", pkgPath := "", byteOffset := 23 }, { name := "Equal", type := 109, offset := 7, embedded := false, tag := "", pkgPath := "", byteOffset := 24 }, { name := "GCData", type := 110, offset := 8, embedded := false, tag := "", pkgPath := "", byteOffset := 32 }, { name := "Str", type := 111, offset := 9, embedded := false, tag := "", pkgPath := "", byteOffset := 40 }, { name := "PtrToThis", type := 112, offset := 10, embedded := false, tag := "", pkgPath := "", byteOffset := 44 }]) := ⟨Tryd.underlying114⟩
instance : Inf Tryd.prog 114 (.agg #[(.int .u64 0), (.int .u64 0), (.int .u32 0), (.int .u8 0), (.int .u8 0), (.int .u8 0), (.int .u8 0), .nilFunc, (.pointer none), (.int .i32 0), (.int .i32 0)]) 11 48 := Inf.of (by kernel_rfl)
instance : Und Tryd.prog 115 .unsafePointer := ⟨Tryd.underlying115⟩
instance : Inf Tryd.prog 115 (.pointer none) 1 8 := Inf.of (by kernel_rfl)
set_option maxRecDepth 100000 in
abbrev Trydtt : TT := [(1, (.func #[] #[] false), some (.nilFunc, 1, 8)),
  (2, (.int .i64), some ((.int .i64 0), 1, 8)),
  (3, (.int .i64), some ((.int .i64 0), 1, 8)),
  (4, .bool, some ((.bool false), 1, 1)),
  (5, (.int .u8), some ((.int .u8 0), 1, 1)),
  (6, (.int .u8), some ((.int .u8 0), 1, 1)),
  (7, (.struct #[{ name := "x", type := 2, offset := 0, embedded := false, tag := "", pkgPath := "runtime", byteOffset := 0 }, { name := "y", type := 3, offset := 1, embedded := false, tag := "", pkgPath := "runtime", byteOffset := 8 }, { name := "signed", type := 4, offset := 2, embedded := false, tag := "", pkgPath := "runtime", byteOffset := 16 }, { name := "code", type := 6, offset := 3, embedded := false, tag := "", pkgPath := "runtime", byteOffset := 17 }]), some ((.agg #[(.int .i64 0), (.int .i64 0), (.bool false), (.int .u8 0)]), 4, 24)),
  (8, (.struct #[{ name := "x", type := 2, offset := 0, embedded := false, tag := "", pkgPath := "runtime", byteOffset := 0 }, { name := "y", type := 3, offset := 1, embedded := false, tag := "", pkgPath := "runtime", byteOffset := 8 }, { name := "signed", type := 4, offset := 2, embedded := false, tag := "", pkgPath := "runtime", byteOffset := 16 }, { name := "code", type := 6, offset := 3, embedded := false, tag := "", pkgPath := "runtime", byteOffset := 17 }]), some ((.agg #[(.int .i64 0), (.int .i64 0), (.bool false), (.int .u8 0)]), 4, 24)),
  (9, .string, some ((.string ByteArray.empty), 1, 16)),
  (10, .string, some ((.string ByteArray.empty), 1, 16)),
  (11, .string, some ((.string ByteArray.empty), 1, 16)),
  (12, (.int .u64), some ((.int .u64 0), 1, 8)),
  (13, (.struct #[{ name := "msg", type := 9, offset := 0, embedded := false, tag := "", pkgPath := "runtime", byteOffset := 0 }, { name := "addr", type := 12, offset := 1, embedded := false, tag := "", pkgPath := "runtime", byteOffset := 16 }]), some ((.agg #[(.string ByteArray.empty), (.int .u64 0)]), 2, 24)),
  (14, (.struct #[{ name := "msg", type := 9, offset := 0, embedded := false, tag := "", pkgPath := "runtime", byteOffset := 0 }, { name := "addr", type := 12, offset := 1, embedded := false, tag := "", pkgPath := "runtime", byteOffset := 16 }]), some ((.agg #[(.string ByteArray.empty), (.int .u64 0)]), 2, 24)),
  (15, (.pointer 103), some ((.pointer none), 1, 8)),
  (16, (.pointer 106), some ((.pointer none), 1, 8)),
  (17, (.pointer 114), some ((.pointer none), 1, 8)),
  (18, (.struct #[{ name := "typ", type := 17, offset := 0, embedded := false, tag := "", pkgPath := "internal/runtime/maps", byteOffset := 0 }]), some ((.agg #[(.pointer none)]), 1, 8)),
  (19, (.struct #[{ name := "typ", type := 17, offset := 0, embedded := false, tag := "", pkgPath := "internal/runtime/maps", byteOffset := 0 }]), some ((.agg #[(.pointer none)]), 1, 8)),
  (21, (.int .i32), some ((.int .i32 0), 1, 4)),
  (22, (.slice 31), some ((.slice none 0 0), 1, 24)),
  (23, (.func #[3, 3] #[3] false), some (.nilFunc, 1, 8)),
  (24, (.pointer 81), some ((.pointer none), 1, 8)),
  (25, (.int .i64), some ((.int .i64 0), 1, 8)),
  (27, (.func #[3] #[24, 25] false), some (.nilFunc, 1, 8)),
  (29, (.func #[3, 3] #[3, 25] false), some (.nilFunc, 1, 8)),
  (30, (.slice 37), some ((.slice none 0 0), 1, 24)),
  (31, (.array 3 3), some ((.agg #[(.int .i64 0), (.int .i64 0), (.int .i64 0)]), 3, 24)),
  (32, (.slice 3), some ((.slice none 0 0), 1, 24)),
  (33, (.struct #[{ name := "Num", type := 3, offset := 0, embedded := false, tag := "", pkgPath := "", byteOffset := 0 }, { name := "Full", type := 3, offset := 1, embedded := false, tag := "", pkgPath := "", byteOffset := 8 }, { name := "Chain", type := 32, offset := 2, embedded := false, tag := "", pkgPath := "", byteOffset := 16 }]), some ((.agg #[(.int .i64 0), (.int .i64 0), (.slice none 0 0)]), 3, 40)),
  (34, (.struct #[{ name := "Num", type := 3, offset := 0, embedded := false, tag := "", pkgPath := "", byteOffset := 0 }, { name := "Full", type := 3, offset := 1, embedded := false, tag := "", pkgPath := "", byteOffset := 8 }, { name := "Chain", type := 32, offset := 2, embedded := false, tag := "", pkgPath := "", byteOffset := 16 }]), some ((.agg #[(.int .i64 0), (.int .i64 0), (.slice none 0 0)]), 3, 40)),
  (35, (.func #[3, 3] #[34] false), some (.nilFunc, 1, 8)),
  (36, (.struct #[{ name := "Ballot", type := 3, offset := 0, embedded := false, tag := "", pkgPath := "", byteOffset := 0 }, { name := "Conf", type := 34, offset := 1, embedded := false, tag := "", pkgPath := "", byteOffset := 8 }]), some ((.agg #[(.int .i64 0), (.int .i64 0), (.int .i64 0), (.slice none 0 0)]), 4, 48)),
  (37, (.struct #[{ name := "Ballot", type := 3, offset := 0, embedded := false, tag := "", pkgPath := "", byteOffset := 0 }, { name := "Conf", type := 34, offset := 1, embedded := false, tag := "", pkgPath := "", byteOffset := 8 }]), some ((.agg #[(.int .i64 0), (.int .i64 0), (.int .i64 0), (.slice none 0 0)]), 4, 48)),
  (39, (.func #[3, 3, 30] #[4, 25] false), some (.nilFunc, 1, 8)),
  (41, (.func #[3] #[34, 4] false), some (.nilFunc, 1, 8)),
  (42, (.func #[34, 3, 3] #[4] false), some (.nilFunc, 1, 8)),
  (43, (.func #[] #[3] false), some (.nilFunc, 1, 8)),
  (44, (.func #[] #[4] false), some (.nilFunc, 1, 8)),
  (45, (.func #[3, 22, 3] #[4] false), some (.nilFunc, 1, 8)),
  (46, (.slice 48), some ((.slice none 0 0), 1, 24)),
  (47, (.array 3 24), some ((.agg #[(.pointer none), (.pointer none), (.pointer none)]), 3, 24)),
  (48, (.array 2 3), some ((.agg #[(.int .i64 0), (.int .i64 0)]), 2, 16)),
  (49, (.func #[46] #[4] false), some (.nilFunc, 1, 8)),
  (50, (.array 3 4), some ((.agg #[(.bool false), (.bool false), (.bool false)]), 3, 3)),
  (52, (.func #[34] #[34, 25] false), some (.nilFunc, 1, 8)),
  (53, (.func #[3, 3, 3] #[4, 25] false), some (.nilFunc, 1, 8)),
  (54, (.func #[] #[34, 4] false), some (.nilFunc, 1, 8)),
  (55, (.func #[3, 32, 32] #[4] false), some (.nilFunc, 1, 8)),
  (56, (.slice 62), some ((.slice none 0 0), 1, 24)),
  (57, (.pointer 64), some ((.pointer none), 1, 8)),
  (59, (.func #[3] #[57, 25] false), some (.nilFunc, 1, 8)),
  (60, (.func #[24, 57, 62] #[4] false), some (.nilFunc, 1, 8)),
  (61, (.struct #[{ name := "Kind", type := 3, offset := 0, embedded := false, tag := "", pkgPath := "", byteOffset := 0 }, { name := "A", type := 3, offset := 1, embedded := false, tag := "", pkgPath := "", byteOffset := 8 }, { name := "B", type := 3, offset := 2, embedded := false, tag := "", pkgPath := "", byteOffset := 16 }, { name := "N", type := 3, offset := 3, embedded := false, tag := "", pkgPath := "", byteOffset := 24 }, { name := "Near", type := 4, offset := 4, embedded := false, tag := "", pkgPath := "", byteOffset := 32 }, { name := "C", type := 34, offset := 5, embedded := false, tag := "", pkgPath := "", byteOffset := 40 }, { name := "Votes", type := 30, offset := 8, embedded := false, tag := "", pkgPath := "", byteOffset := 80 }]), some ((.agg #[(.int .i64 0), (.int .i64 0), (.int .i64 0), (.int .i64 0), (.bool false), (.int .i64 0), (.int .i64 0), (.slice none 0 0), (.slice none 0 0)]), 9, 104)),
  (62, (.struct #[{ name := "Kind", type := 3, offset := 0, embedded := false, tag := "", pkgPath := "", byteOffset := 0 }, { name := "A", type := 3, offset := 1, embedded := false, tag := "", pkgPath := "", byteOffset := 8 }, { name := "B", type := 3, offset := 2, embedded := false, tag := "", pkgPath := "", byteOffset := 16 }, { name := "N", type := 3, offset := 3, embedded := false, tag := "", pkgPath := "", byteOffset := 24 }, { name := "Near", type := 4, offset := 4, embedded := false, tag := "", pkgPath := "", byteOffset := 32 }, { name := "C", type := 34, offset := 5, embedded := false, tag := "", pkgPath := "", byteOffset := 40 }, { name := "Votes", type := 30, offset := 8, embedded := false, tag := "", pkgPath := "", byteOffset := 80 }]), some ((.agg #[(.int .i64 0), (.int .i64 0), (.int .i64 0), (.int .i64 0), (.bool false), (.int .i64 0), (.int .i64 0), (.slice none 0 0), (.slice none 0 0)]), 9, 104)),
  (63, (.struct #[{ name := "Id", type := 3, offset := 0, embedded := false, tag := "", pkgPath := "", byteOffset := 0 }, { name := "B", type := 3, offset := 1, embedded := false, tag := "", pkgPath := "", byteOffset := 8 }, { name := "F", type := 3, offset := 2, embedded := false, tag := "", pkgPath := "", byteOffset := 16 }, { name := "P", type := 3, offset := 3, embedded := false, tag := "", pkgPath := "", byteOffset := 24 }, { name := "Promised", type := 50, offset := 4, embedded := false, tag := "", pkgPath := "", byteOffset := 32 }, { name := "Bounds", type := 30, offset := 7, embedded := false, tag := "", pkgPath := "", byteOffset := 40 }, { name := "Has", type := 4, offset := 8, embedded := false, tag := "", pkgPath := "", byteOffset := 64 }, { name := "C", type := 34, offset := 9, embedded := false, tag := "", pkgPath := "", byteOffset := 72 }, { name := "Said", type := 50, offset := 12, embedded := false, tag := "", pkgPath := "", byteOffset := 112 }]), some ((.agg #[(.int .i64 0), (.int .i64 0), (.int .i64 0), (.int .i64 0), (.bool false), (.bool false), (.bool false), (.slice none 0 0), (.bool false), (.int .i64 0), (.int .i64 0), (.slice none 0 0), (.bool false), (.bool false), (.bool false)]), 15, 120)),
  (64, (.struct #[{ name := "Id", type := 3, offset := 0, embedded := false, tag := "", pkgPath := "", byteOffset := 0 }, { name := "B", type := 3, offset := 1, embedded := false, tag := "", pkgPath := "", byteOffset := 8 }, { name := "F", type := 3, offset := 2, embedded := false, tag := "", pkgPath := "", byteOffset := 16 }, { name := "P", type := 3, offset := 3, embedded := false, tag := "", pkgPath := "", byteOffset := 24 }, { name := "Promised", type := 50, offset := 4, embedded := false, tag := "", pkgPath := "", byteOffset := 32 }, { name := "Bounds", type := 30, offset := 7, embedded := false, tag := "", pkgPath := "", byteOffset := 40 }, { name := "Has", type := 4, offset := 8, embedded := false, tag := "", pkgPath := "", byteOffset := 64 }, { name := "C", type := 34, offset := 9, embedded := false, tag := "", pkgPath := "", byteOffset := 72 }, { name := "Said", type := 50, offset := 12, embedded := false, tag := "", pkgPath := "", byteOffset := 112 }]), some ((.agg #[(.int .i64 0), (.int .i64 0), (.int .i64 0), (.int .i64 0), (.bool false), (.bool false), (.bool false), (.slice none 0 0), (.bool false), (.int .i64 0), (.int .i64 0), (.slice none 0 0), (.bool false), (.bool false), (.bool false)]), 15, 120)),
  (65, (.func #[34, 34] #[4] false), some (.nilFunc, 1, 8)),
  (66, (.func #[3, 56] #[4] false), some (.nilFunc, 1, 8)),
  (67, (.pointer 72), some ((.pointer none), 1, 8)),
  (68, (.struct #[{ name := "promised", type := 3, offset := 0, embedded := false, tag := "", pkgPath := "sealchain/sealchainlaw16", byteOffset := 0 }, { name := "vote", type := 37, offset := 1, embedded := false, tag := "", pkgPath := "sealchain/sealchainlaw16", byteOffset := 8 }]), some ((.agg #[(.int .i64 0), (.int .i64 0), (.int .i64 0), (.int .i64 0), (.slice none 0 0)]), 5, 56)),
  (69, (.struct #[{ name := "promised", type := 3, offset := 0, embedded := false, tag := "", pkgPath := "sealchain/sealchainlaw16", byteOffset := 0 }, { name := "vote", type := 37, offset := 1, embedded := false, tag := "", pkgPath := "sealchain/sealchainlaw16", byteOffset := 8 }]), some ((.agg #[(.int .i64 0), (.int .i64 0), (.int .i64 0), (.int .i64 0), (.slice none 0 0)]), 5, 56)),
  (70, (.array 3 69), some ((.agg #[(.int .i64 0), (.int .i64 0), (.int .i64 0), (.int .i64 0), (.slice none 0 0), (.int .i64 0), (.int .i64 0), (.int .i64 0), (.int .i64 0), (.slice none 0 0), (.int .i64 0), (.int .i64 0), (.int .i64 0), (.int .i64 0), (.slice none 0 0)]), 15, 168)),
  (71, (.struct #[{ name := "leads", type := 47, offset := 0, embedded := false, tag := "", pkgPath := "sealchain/sealchainlaw16", byteOffset := 0 }, { name := "votes", type := 70, offset := 3, embedded := false, tag := "", pkgPath := "sealchain/sealchainlaw16", byteOffset := 24 }, { name := "chosen", type := 3, offset := 18, embedded := false, tag := "", pkgPath := "sealchain/sealchainlaw16", byteOffset := 192 }]), some ((.agg #[(.pointer none), (.pointer none), (.pointer none), (.int .i64 0), (.int .i64 0), (.int .i64 0), (.int .i64 0), (.slice none 0 0), (.int .i64 0), (.int .i64 0), (.int .i64 0), (.int .i64 0), (.slice none 0 0), (.int .i64 0), (.int .i64 0), (.int .i64 0), (.int .i64 0), (.slice none 0 0), (.int .i64 0)]), 19, 200)),
  (72, (.struct #[{ name := "leads", type := 47, offset := 0, embedded := false, tag := "", pkgPath := "sealchain/sealchainlaw16", byteOffset := 0 }, { name := "votes", type := 70, offset := 3, embedded := false, tag := "", pkgPath := "sealchain/sealchainlaw16", byteOffset := 24 }, { name := "chosen", type := 3, offset := 18, embedded := false, tag := "", pkgPath := "sealchain/sealchainlaw16", byteOffset := 192 }]), some ((.agg #[(.pointer none), (.pointer none), (.pointer none), (.int .i64 0), (.int .i64 0), (.int .i64 0), (.int .i64 0), (.slice none 0 0), (.int .i64 0), (.int .i64 0), (.int .i64 0), (.int .i64 0), (.slice none 0 0), (.int .i64 0), (.int .i64 0), (.int .i64 0), (.int .i64 0), (.slice none 0 0), (.int .i64 0)]), 19, 200)),
  (73, (.func #[3, 3] #[4] false), some (.nilFunc, 1, 8)),
  (74, (.func #[22] #[4] false), some (.nilFunc, 1, 8)),
  (75, (.func #[3] #[25] false), some (.nilFunc, 1, 8)),
  (76, (.int .u64), some ((.int .u64 0), 1, 8)),
  (77, (.int .u64), some ((.int .u64 0), 1, 8)),
  (78, (.map 3 37), some ((.map none), 1, 8)),
  (79, (.pointer 34), some ((.pointer none), 1, 8)),
  (80, (.struct #[{ name := "id", type := 3, offset := 0, embedded := false, tag := "", pkgPath := "sealchain/lead", byteOffset := 0 }, { name := "ballot", type := 3, offset := 1, embedded := false, tag := "", pkgPath := "sealchain/lead", byteOffset := 8 }, { name := "from", type := 3, offset := 2, embedded := false, tag := "", pkgPath := "sealchain/lead", byteOffset := 16 }, { name := "phase", type := 3, offset := 3, embedded := false, tag := "", pkgPath := "sealchain/lead", byteOffset := 24 }, { name := "promised", type := 77, offset := 4, embedded := false, tag := "", pkgPath := "sealchain/lead", byteOffset := 32 }, { name := "bounds", type := 78, offset := 5, embedded := false, tag := "", pkgPath := "sealchain/lead", byteOffset := 40 }, { name := "pending", type := 79, offset := 6, embedded := false, tag := "", pkgPath := "sealchain/lead", byteOffset := 48 }, { name := "said", type := 77, offset := 7, embedded := false, tag := "", pkgPath := "sealchain/lead", byteOffset := 56 }, { name := "made", type := 4, offset := 8, embedded := false, tag := "", pkgPath := "sealchain/lead", byteOffset := 64 }]), some ((.agg #[(.int .i64 0), (.int .i64 0), (.int .i64 0), (.int .i64 0), (.int .u64 0), (.map none), (.pointer none), (.int .u64 0), (.bool false)]), 9, 72)),
  (81, (.struct #[{ name := "id", type := 3, offset := 0, embedded := false, tag := "", pkgPath := "sealchain/lead", byteOffset := 0 }, { name := "ballot", type := 3, offset := 1, embedded := false, tag := "", pkgPath := "sealchain/lead", byteOffset := 8 }, { name := "from", type := 3, offset := 2, embedded := false, tag := "", pkgPath := "sealchain/lead", byteOffset := 16 }, { name := "phase", type := 3, offset := 3, embedded := false, tag := "", pkgPath := "sealchain/lead", byteOffset := 24 }, { name := "promised", type := 77, offset := 4, embedded := false, tag := "", pkgPath := "sealchain/lead", byteOffset := 32 }, { name := "bounds", type := 78, offset := 5, embedded := false, tag := "", pkgPath := "sealchain/lead", byteOffset := 40 }, { name := "pending", type := 79, offset := 6, embedded := false, tag := "", pkgPath := "sealchain/lead", byteOffset := 48 }, { name := "said", type := 77, offset := 7, embedded := false, tag := "", pkgPath := "sealchain/lead", byteOffset := 56 }, { name := "made", type := 4, offset := 8, embedded := false, tag := "", pkgPath := "sealchain/lead", byteOffset := 64 }]), some ((.agg #[(.int .i64 0), (.int .i64 0), (.int .i64 0), (.int .i64 0), (.int .u64 0), (.map none), (.pointer none), (.int .u64 0), (.bool false)]), 9, 72)),
  (82, (.func #[3] #[77] false), some (.nilFunc, 1, 8)),
  (83, (.func #[34] #[34] false), some (.nilFunc, 1, 8)),
  (84, (.func #[77] #[4] false), some (.nilFunc, 1, 8)),
  (86, (.func #[32, 32] #[4] false), some (.nilFunc, 1, 8)),
  (87, (.func #[3] #[4] false), some (.nilFunc, 1, 8)),
  (88, (.func #[32] #[32] false), some (.nilFunc, 1, 8)),
  (89, (.func #[87] #[] false), some (.nilFunc, 1, 8)),
  (90, (.func #[87] #[] false), some (.nilFunc, 1, 8)),
  (91, (.func #[] #[90] false), some (.nilFunc, 1, 8)),
  (92, (.func #[76] #[3] false), some (.nilFunc, 1, 8)),
  (93, (.func #[37] #[] false), some (.nilFunc, 1, 8)),
  (94, (.func #[50] #[3] false), some (.nilFunc, 1, 8)),
  (95, (.func #[96] #[3] false), some (.nilFunc, 1, 8)),
  (96, (.int .u32), some ((.int .u32 0), 1, 4)),
  (97, (.func #[98] #[3] false), some (.nilFunc, 1, 8)),
  (98, (.int .u64), some ((.int .u64 0), 1, 8)),
  (99, (.array 32 5), some ((.agg #[(.int .u8 0), (.int .u8 0), (.int .u8 0), (.int .u8 0), (.int .u8 0), (.int .u8 0), (.int .u8 0), (.int .u8 0), (.int .u8 0), (.int .u8 0), (.int .u8 0), (.int .u8 0), (.int .u8 0), (.int .u8 0), (.int .u8 0), (.int .u8 0), (.int .u8 0), (.int .u8 0), (.int .u8 0), (.int .u8 0), (.int .u8 0), (.int .u8 0), (.int .u8 0), (.int .u8 0), (.int .u8 0), (.int .u8 0), (.int .u8 0), (.int .u8 0), (.int .u8 0), (.int .u8 0), (.int .u8 0), (.int .u8 0)]), 32, 32)),
  (100, (.array 64 5), some ((.agg #[(.int .u8 0), (.int .u8 0), (.int .u8 0), (.int .u8 0), (.int .u8 0), (.int .u8 0), (.int .u8 0), (.int .u8 0), (.int .u8 0), (.int .u8 0), (.int .u8 0), (.int .u8 0), (.int .u8 0), (.int .u8 0), (.int .u8 0), (.int .u8 0), (.int .u8 0), (.int .u8 0), (.int .u8 0), (.int .u8 0), (.int .u8 0), (.int .u8 0), (.int .u8 0), (.int .u8 0), (.int .u8 0), (.int .u8 0), (.int .u8 0), (.int .u8 0), (.int .u8 0), (.int .u8 0), (.int .u8 0), (.int .u8 0), (.int .u8 0), (.int .u8 0), (.int .u8 0), (.int .u8 0), (.int .u8 0), (.int .u8 0), (.int .u8 0), (.int .u8 0), (.int .u8 0), (.int .u8 0), (.int .u8 0), (.int .u8 0), (.int .u8 0), (.int .u8 0), (.int .u8 0), (.int .u8 0), (.int .u8 0), (.int .u8 0), (.int .u8 0), (.int .u8 0), (.int .u8 0), (.int .u8 0), (.int .u8 0), (.int .u8 0), (.int .u8 0), (.int .u8 0), (.int .u8 0), (.int .u8 0), (.int .u8 0), (.int .u8 0), (.int .u8 0), (.int .u8 0)]), 64, 64)),
  (101, (.func #[] #[9] false), some (.nilFunc, 1, 8)),
  (102, (.struct #[{ name := "_interface", type := 17, offset := 0, embedded := false, tag := "", pkgPath := "runtime", byteOffset := 0 }, { name := "concrete", type := 17, offset := 1, embedded := false, tag := "", pkgPath := "runtime", byteOffset := 8 }, { name := "asserted", type := 17, offset := 2, embedded := false, tag := "", pkgPath := "runtime", byteOffset := 16 }, { name := "missingMethod", type := 9, offset := 3, embedded := false, tag := "", pkgPath := "runtime", byteOffset := 24 }]), some ((.agg #[(.pointer none), (.pointer none), (.pointer none), (.string ByteArray.empty)]), 4, 40)),
  (103, (.struct #[{ name := "_interface", type := 17, offset := 0, embedded := false, tag := "", pkgPath := "runtime", byteOffset := 0 }, { name := "concrete", type := 17, offset := 1, embedded := false, tag := "", pkgPath := "runtime", byteOffset := 8 }, { name := "asserted", type := 17, offset := 2, embedded := false, tag := "", pkgPath := "runtime", byteOffset := 16 }, { name := "missingMethod", type := 9, offset := 3, embedded := false, tag := "", pkgPath := "runtime", byteOffset := 24 }]), some ((.agg #[(.pointer none), (.pointer none), (.pointer none), (.string ByteArray.empty)]), 4, 40)),
  (104, (.array 0 16), some ((.agg #[]), 0, 0)),
  (105, (.struct #[{ name := "_", type := 104, offset := 0, embedded := false, tag := "", pkgPath := "runtime", byteOffset := 0 }]), some ((.agg #[]), 0, 0)),
  (106, (.struct #[{ name := "_", type := 104, offset := 0, embedded := false, tag := "", pkgPath := "runtime", byteOffset := 0 }]), some ((.agg #[]), 0, 0)),
  (107, (.int .u8), some ((.int .u8 0), 1, 1)),
  (108, (.int .u8), some ((.int .u8 0), 1, 1)),
  (109, (.func #[115, 115] #[4] false), some (.nilFunc, 1, 8)),
  (110, (.pointer 5), some ((.pointer none), 1, 8)),
  (111, (.int .i32), some ((.int .i32 0), 1, 4)),
  (112, (.int .i32), some ((.int .i32 0), 1, 4)),
  (113, (.struct #[{ name := "Size_", type := 12, offset := 0, embedded := false, tag := "", pkgPath := "", byteOffset := 0 }, { name := "PtrBytes", type := 12, offset := 1, embedded := false, tag := "", pkgPath := "", byteOffset := 8 }, { name := "Hash", type := 96, offset := 2, embedded := false, tag := "", pkgPath := "", byteOffset := 16 }, { name := "TFlag", type := 107, offset := 3, embedded := false, tag := "", pkgPath := "", byteOffset := 20 }, { name := "Align_", type := 5, offset := 4, embedded := false, tag := "", pkgPath := "", byteOffset := 21 }, { name := "FieldAlign_", type := 5, offset := 5, embedded := false, tag := "", pkgPath := "", byteOffset := 22 }, { name := "Kind_", type := 108, offset := 6, embedded := false, tag := "", pkgPath := "", byteOffset := 23 }, { name := "Equal", type := 109, offset := 7, embedded := false, tag := "", pkgPath := "", byteOffset := 24 }, { name := "GCData", type := 110, offset := 8, embedded := false, tag := "", pkgPath := "", byteOffset := 32 }, { name := "Str", type := 111, offset := 9, embedded := false, tag := "", pkgPath := "", byteOffset := 40 }, { name := "PtrToThis", type := 112, offset := 10, embedded := false, tag := "", pkgPath := "", byteOffset := 44 }]), some ((.agg #[(.int .u64 0), (.int .u64 0), (.int .u32 0), (.int .u8 0), (.int .u8 0), (.int .u8 0), (.int .u8 0), .nilFunc, (.pointer none), (.int .i32 0), (.int .i32 0)]), 11, 48)),
  (114, (.struct #[{ name := "Size_", type := 12, offset := 0, embedded := false, tag := "", pkgPath := "", byteOffset := 0 }, { name := "PtrBytes", type := 12, offset := 1, embedded := false, tag := "", pkgPath := "", byteOffset := 8 }, { name := "Hash", type := 96, offset := 2, embedded := false, tag := "", pkgPath := "", byteOffset := 16 }, { name := "TFlag", type := 107, offset := 3, embedded := false, tag := "", pkgPath := "", byteOffset := 20 }, { name := "Align_", type := 5, offset := 4, embedded := false, tag := "", pkgPath := "", byteOffset := 21 }, { name := "FieldAlign_", type := 5, offset := 5, embedded := false, tag := "", pkgPath := "", byteOffset := 22 }, { name := "Kind_", type := 108, offset := 6, embedded := false, tag := "", pkgPath := "", byteOffset := 23 }, { name := "Equal", type := 109, offset := 7, embedded := false, tag := "", pkgPath := "", byteOffset := 24 }, { name := "GCData", type := 110, offset := 8, embedded := false, tag := "", pkgPath := "", byteOffset := 32 }, { name := "Str", type := 111, offset := 9, embedded := false, tag := "", pkgPath := "", byteOffset := 40 }, { name := "PtrToThis", type := 112, offset := 10, embedded := false, tag := "", pkgPath := "", byteOffset := 44 }]), some ((.agg #[(.int .u64 0), (.int .u64 0), (.int .u32 0), (.int .u8 0), (.int .u8 0), (.int .u8 0), (.int .u8 0), .nilFunc, (.pointer none), (.int .i32 0), (.int .i32 0)]), 11, 48)),
  (115, .unsafePointer, some ((.pointer none), 1, 8))]
set_option maxRecDepth 100000 in
instance : Tys Tryd.prog := ⟨Trydtt,
  ⟨⟨inferInstance, (inferInstance : Inf Tryd.prog 1 .nilFunc 1 8)⟩,
  ⟨⟨inferInstance, (inferInstance : Inf Tryd.prog 2 (.int .i64 0) 1 8)⟩,
  ⟨⟨inferInstance, (inferInstance : Inf Tryd.prog 3 (.int .i64 0) 1 8)⟩,
  ⟨⟨inferInstance, (inferInstance : Inf Tryd.prog 4 (.bool false) 1 1)⟩,
  ⟨⟨inferInstance, (inferInstance : Inf Tryd.prog 5 (.int .u8 0) 1 1)⟩,
  ⟨⟨inferInstance, (inferInstance : Inf Tryd.prog 6 (.int .u8 0) 1 1)⟩,
  ⟨⟨inferInstance, (inferInstance : Inf Tryd.prog 7 (.agg #[(.int .i64 0), (.int .i64 0), (.bool false), (.int .u8 0)]) 4 24)⟩,
  ⟨⟨inferInstance, (inferInstance : Inf Tryd.prog 8 (.agg #[(.int .i64 0), (.int .i64 0), (.bool false), (.int .u8 0)]) 4 24)⟩,
  ⟨⟨inferInstance, (inferInstance : Inf Tryd.prog 9 (.string ByteArray.empty) 1 16)⟩,
  ⟨⟨inferInstance, (inferInstance : Inf Tryd.prog 10 (.string ByteArray.empty) 1 16)⟩,
  ⟨⟨inferInstance, (inferInstance : Inf Tryd.prog 11 (.string ByteArray.empty) 1 16)⟩,
  ⟨⟨inferInstance, (inferInstance : Inf Tryd.prog 12 (.int .u64 0) 1 8)⟩,
  ⟨⟨inferInstance, (inferInstance : Inf Tryd.prog 13 (.agg #[(.string ByteArray.empty), (.int .u64 0)]) 2 24)⟩,
  ⟨⟨inferInstance, (inferInstance : Inf Tryd.prog 14 (.agg #[(.string ByteArray.empty), (.int .u64 0)]) 2 24)⟩,
  ⟨⟨inferInstance, (inferInstance : Inf Tryd.prog 15 (.pointer none) 1 8)⟩,
  ⟨⟨inferInstance, (inferInstance : Inf Tryd.prog 16 (.pointer none) 1 8)⟩,
  ⟨⟨inferInstance, (inferInstance : Inf Tryd.prog 17 (.pointer none) 1 8)⟩,
  ⟨⟨inferInstance, (inferInstance : Inf Tryd.prog 18 (.agg #[(.pointer none)]) 1 8)⟩,
  ⟨⟨inferInstance, (inferInstance : Inf Tryd.prog 19 (.agg #[(.pointer none)]) 1 8)⟩,
  ⟨⟨inferInstance, (inferInstance : Inf Tryd.prog 21 (.int .i32 0) 1 4)⟩,
  ⟨⟨inferInstance, (inferInstance : Inf Tryd.prog 22 (.slice none 0 0) 1 24)⟩,
  ⟨⟨inferInstance, (inferInstance : Inf Tryd.prog 23 .nilFunc 1 8)⟩,
  ⟨⟨inferInstance, (inferInstance : Inf Tryd.prog 24 (.pointer none) 1 8)⟩,
  ⟨⟨inferInstance, (inferInstance : Inf Tryd.prog 25 (.int .i64 0) 1 8)⟩,
  ⟨⟨inferInstance, (inferInstance : Inf Tryd.prog 27 .nilFunc 1 8)⟩,
  ⟨⟨inferInstance, (inferInstance : Inf Tryd.prog 29 .nilFunc 1 8)⟩,
  ⟨⟨inferInstance, (inferInstance : Inf Tryd.prog 30 (.slice none 0 0) 1 24)⟩,
  ⟨⟨inferInstance, (inferInstance : Inf Tryd.prog 31 (.agg #[(.int .i64 0), (.int .i64 0), (.int .i64 0)]) 3 24)⟩,
  ⟨⟨inferInstance, (inferInstance : Inf Tryd.prog 32 (.slice none 0 0) 1 24)⟩,
  ⟨⟨inferInstance, (inferInstance : Inf Tryd.prog 33 (.agg #[(.int .i64 0), (.int .i64 0), (.slice none 0 0)]) 3 40)⟩,
  ⟨⟨inferInstance, (inferInstance : Inf Tryd.prog 34 (.agg #[(.int .i64 0), (.int .i64 0), (.slice none 0 0)]) 3 40)⟩,
  ⟨⟨inferInstance, (inferInstance : Inf Tryd.prog 35 .nilFunc 1 8)⟩,
  ⟨⟨inferInstance, (inferInstance : Inf Tryd.prog 36 (.agg #[(.int .i64 0), (.int .i64 0), (.int .i64 0), (.slice none 0 0)]) 4 48)⟩,
  ⟨⟨inferInstance, (inferInstance : Inf Tryd.prog 37 (.agg #[(.int .i64 0), (.int .i64 0), (.int .i64 0), (.slice none 0 0)]) 4 48)⟩,
  ⟨⟨inferInstance, (inferInstance : Inf Tryd.prog 39 .nilFunc 1 8)⟩,
  ⟨⟨inferInstance, (inferInstance : Inf Tryd.prog 41 .nilFunc 1 8)⟩,
  ⟨⟨inferInstance, (inferInstance : Inf Tryd.prog 42 .nilFunc 1 8)⟩,
  ⟨⟨inferInstance, (inferInstance : Inf Tryd.prog 43 .nilFunc 1 8)⟩,
  ⟨⟨inferInstance, (inferInstance : Inf Tryd.prog 44 .nilFunc 1 8)⟩,
  ⟨⟨inferInstance, (inferInstance : Inf Tryd.prog 45 .nilFunc 1 8)⟩,
  ⟨⟨inferInstance, (inferInstance : Inf Tryd.prog 46 (.slice none 0 0) 1 24)⟩,
  ⟨⟨inferInstance, (inferInstance : Inf Tryd.prog 47 (.agg #[(.pointer none), (.pointer none), (.pointer none)]) 3 24)⟩,
  ⟨⟨inferInstance, (inferInstance : Inf Tryd.prog 48 (.agg #[(.int .i64 0), (.int .i64 0)]) 2 16)⟩,
  ⟨⟨inferInstance, (inferInstance : Inf Tryd.prog 49 .nilFunc 1 8)⟩,
  ⟨⟨inferInstance, (inferInstance : Inf Tryd.prog 50 (.agg #[(.bool false), (.bool false), (.bool false)]) 3 3)⟩,
  ⟨⟨inferInstance, (inferInstance : Inf Tryd.prog 52 .nilFunc 1 8)⟩,
  ⟨⟨inferInstance, (inferInstance : Inf Tryd.prog 53 .nilFunc 1 8)⟩,
  ⟨⟨inferInstance, (inferInstance : Inf Tryd.prog 54 .nilFunc 1 8)⟩,
  ⟨⟨inferInstance, (inferInstance : Inf Tryd.prog 55 .nilFunc 1 8)⟩,
  ⟨⟨inferInstance, (inferInstance : Inf Tryd.prog 56 (.slice none 0 0) 1 24)⟩,
  ⟨⟨inferInstance, (inferInstance : Inf Tryd.prog 57 (.pointer none) 1 8)⟩,
  ⟨⟨inferInstance, (inferInstance : Inf Tryd.prog 59 .nilFunc 1 8)⟩,
  ⟨⟨inferInstance, (inferInstance : Inf Tryd.prog 60 .nilFunc 1 8)⟩,
  ⟨⟨inferInstance, (inferInstance : Inf Tryd.prog 61 (.agg #[(.int .i64 0), (.int .i64 0), (.int .i64 0), (.int .i64 0), (.bool false), (.int .i64 0), (.int .i64 0), (.slice none 0 0), (.slice none 0 0)]) 9 104)⟩,
  ⟨⟨inferInstance, (inferInstance : Inf Tryd.prog 62 (.agg #[(.int .i64 0), (.int .i64 0), (.int .i64 0), (.int .i64 0), (.bool false), (.int .i64 0), (.int .i64 0), (.slice none 0 0), (.slice none 0 0)]) 9 104)⟩,
  ⟨⟨inferInstance, (inferInstance : Inf Tryd.prog 63 (.agg #[(.int .i64 0), (.int .i64 0), (.int .i64 0), (.int .i64 0), (.bool false), (.bool false), (.bool false), (.slice none 0 0), (.bool false), (.int .i64 0), (.int .i64 0), (.slice none 0 0), (.bool false), (.bool false), (.bool false)]) 15 120)⟩,
  ⟨⟨inferInstance, (inferInstance : Inf Tryd.prog 64 (.agg #[(.int .i64 0), (.int .i64 0), (.int .i64 0), (.int .i64 0), (.bool false), (.bool false), (.bool false), (.slice none 0 0), (.bool false), (.int .i64 0), (.int .i64 0), (.slice none 0 0), (.bool false), (.bool false), (.bool false)]) 15 120)⟩,
  ⟨⟨inferInstance, (inferInstance : Inf Tryd.prog 65 .nilFunc 1 8)⟩,
  ⟨⟨inferInstance, (inferInstance : Inf Tryd.prog 66 .nilFunc 1 8)⟩,
  ⟨⟨inferInstance, (inferInstance : Inf Tryd.prog 67 (.pointer none) 1 8)⟩,
  ⟨⟨inferInstance, (inferInstance : Inf Tryd.prog 68 (.agg #[(.int .i64 0), (.int .i64 0), (.int .i64 0), (.int .i64 0), (.slice none 0 0)]) 5 56)⟩,
  ⟨⟨inferInstance, (inferInstance : Inf Tryd.prog 69 (.agg #[(.int .i64 0), (.int .i64 0), (.int .i64 0), (.int .i64 0), (.slice none 0 0)]) 5 56)⟩,
  ⟨⟨inferInstance, (inferInstance : Inf Tryd.prog 70 (.agg #[(.int .i64 0), (.int .i64 0), (.int .i64 0), (.int .i64 0), (.slice none 0 0), (.int .i64 0), (.int .i64 0), (.int .i64 0), (.int .i64 0), (.slice none 0 0), (.int .i64 0), (.int .i64 0), (.int .i64 0), (.int .i64 0), (.slice none 0 0)]) 15 168)⟩,
  ⟨⟨inferInstance, (inferInstance : Inf Tryd.prog 71 (.agg #[(.pointer none), (.pointer none), (.pointer none), (.int .i64 0), (.int .i64 0), (.int .i64 0), (.int .i64 0), (.slice none 0 0), (.int .i64 0), (.int .i64 0), (.int .i64 0), (.int .i64 0), (.slice none 0 0), (.int .i64 0), (.int .i64 0), (.int .i64 0), (.int .i64 0), (.slice none 0 0), (.int .i64 0)]) 19 200)⟩,
  ⟨⟨inferInstance, (inferInstance : Inf Tryd.prog 72 (.agg #[(.pointer none), (.pointer none), (.pointer none), (.int .i64 0), (.int .i64 0), (.int .i64 0), (.int .i64 0), (.slice none 0 0), (.int .i64 0), (.int .i64 0), (.int .i64 0), (.int .i64 0), (.slice none 0 0), (.int .i64 0), (.int .i64 0), (.int .i64 0), (.int .i64 0), (.slice none 0 0), (.int .i64 0)]) 19 200)⟩,
  ⟨⟨inferInstance, (inferInstance : Inf Tryd.prog 73 .nilFunc 1 8)⟩,
  ⟨⟨inferInstance, (inferInstance : Inf Tryd.prog 74 .nilFunc 1 8)⟩,
  ⟨⟨inferInstance, (inferInstance : Inf Tryd.prog 75 .nilFunc 1 8)⟩,
  ⟨⟨inferInstance, (inferInstance : Inf Tryd.prog 76 (.int .u64 0) 1 8)⟩,
  ⟨⟨inferInstance, (inferInstance : Inf Tryd.prog 77 (.int .u64 0) 1 8)⟩,
  ⟨⟨inferInstance, (inferInstance : Inf Tryd.prog 78 (.map none) 1 8)⟩,
  ⟨⟨inferInstance, (inferInstance : Inf Tryd.prog 79 (.pointer none) 1 8)⟩,
  ⟨⟨inferInstance, (inferInstance : Inf Tryd.prog 80 (.agg #[(.int .i64 0), (.int .i64 0), (.int .i64 0), (.int .i64 0), (.int .u64 0), (.map none), (.pointer none), (.int .u64 0), (.bool false)]) 9 72)⟩,
  ⟨⟨inferInstance, (inferInstance : Inf Tryd.prog 81 (.agg #[(.int .i64 0), (.int .i64 0), (.int .i64 0), (.int .i64 0), (.int .u64 0), (.map none), (.pointer none), (.int .u64 0), (.bool false)]) 9 72)⟩,
  ⟨⟨inferInstance, (inferInstance : Inf Tryd.prog 82 .nilFunc 1 8)⟩,
  ⟨⟨inferInstance, (inferInstance : Inf Tryd.prog 83 .nilFunc 1 8)⟩,
  ⟨⟨inferInstance, (inferInstance : Inf Tryd.prog 84 .nilFunc 1 8)⟩,
  ⟨⟨inferInstance, (inferInstance : Inf Tryd.prog 86 .nilFunc 1 8)⟩,
  ⟨⟨inferInstance, (inferInstance : Inf Tryd.prog 87 .nilFunc 1 8)⟩,
  ⟨⟨inferInstance, (inferInstance : Inf Tryd.prog 88 .nilFunc 1 8)⟩,
  ⟨⟨inferInstance, (inferInstance : Inf Tryd.prog 89 .nilFunc 1 8)⟩,
  ⟨⟨inferInstance, (inferInstance : Inf Tryd.prog 90 .nilFunc 1 8)⟩,
  ⟨⟨inferInstance, (inferInstance : Inf Tryd.prog 91 .nilFunc 1 8)⟩,
  ⟨⟨inferInstance, (inferInstance : Inf Tryd.prog 92 .nilFunc 1 8)⟩,
  ⟨⟨inferInstance, (inferInstance : Inf Tryd.prog 93 .nilFunc 1 8)⟩,
  ⟨⟨inferInstance, (inferInstance : Inf Tryd.prog 94 .nilFunc 1 8)⟩,
  ⟨⟨inferInstance, (inferInstance : Inf Tryd.prog 95 .nilFunc 1 8)⟩,
  ⟨⟨inferInstance, (inferInstance : Inf Tryd.prog 96 (.int .u32 0) 1 4)⟩,
  ⟨⟨inferInstance, (inferInstance : Inf Tryd.prog 97 .nilFunc 1 8)⟩,
  ⟨⟨inferInstance, (inferInstance : Inf Tryd.prog 98 (.int .u64 0) 1 8)⟩,
  ⟨⟨inferInstance, (inferInstance : Inf Tryd.prog 99 (.agg #[(.int .u8 0), (.int .u8 0), (.int .u8 0), (.int .u8 0), (.int .u8 0), (.int .u8 0), (.int .u8 0), (.int .u8 0), (.int .u8 0), (.int .u8 0), (.int .u8 0), (.int .u8 0), (.int .u8 0), (.int .u8 0), (.int .u8 0), (.int .u8 0), (.int .u8 0), (.int .u8 0), (.int .u8 0), (.int .u8 0), (.int .u8 0), (.int .u8 0), (.int .u8 0), (.int .u8 0), (.int .u8 0), (.int .u8 0), (.int .u8 0), (.int .u8 0), (.int .u8 0), (.int .u8 0), (.int .u8 0), (.int .u8 0)]) 32 32)⟩,
  ⟨⟨inferInstance, (inferInstance : Inf Tryd.prog 100 (.agg #[(.int .u8 0), (.int .u8 0), (.int .u8 0), (.int .u8 0), (.int .u8 0), (.int .u8 0), (.int .u8 0), (.int .u8 0), (.int .u8 0), (.int .u8 0), (.int .u8 0), (.int .u8 0), (.int .u8 0), (.int .u8 0), (.int .u8 0), (.int .u8 0), (.int .u8 0), (.int .u8 0), (.int .u8 0), (.int .u8 0), (.int .u8 0), (.int .u8 0), (.int .u8 0), (.int .u8 0), (.int .u8 0), (.int .u8 0), (.int .u8 0), (.int .u8 0), (.int .u8 0), (.int .u8 0), (.int .u8 0), (.int .u8 0), (.int .u8 0), (.int .u8 0), (.int .u8 0), (.int .u8 0), (.int .u8 0), (.int .u8 0), (.int .u8 0), (.int .u8 0), (.int .u8 0), (.int .u8 0), (.int .u8 0), (.int .u8 0), (.int .u8 0), (.int .u8 0), (.int .u8 0), (.int .u8 0), (.int .u8 0), (.int .u8 0), (.int .u8 0), (.int .u8 0), (.int .u8 0), (.int .u8 0), (.int .u8 0), (.int .u8 0), (.int .u8 0), (.int .u8 0), (.int .u8 0), (.int .u8 0), (.int .u8 0), (.int .u8 0), (.int .u8 0), (.int .u8 0)]) 64 64)⟩,
  ⟨⟨inferInstance, (inferInstance : Inf Tryd.prog 101 .nilFunc 1 8)⟩,
  ⟨⟨inferInstance, (inferInstance : Inf Tryd.prog 102 (.agg #[(.pointer none), (.pointer none), (.pointer none), (.string ByteArray.empty)]) 4 40)⟩,
  ⟨⟨inferInstance, (inferInstance : Inf Tryd.prog 103 (.agg #[(.pointer none), (.pointer none), (.pointer none), (.string ByteArray.empty)]) 4 40)⟩,
  ⟨⟨inferInstance, (inferInstance : Inf Tryd.prog 104 (.agg #[]) 0 0)⟩,
  ⟨⟨inferInstance, (inferInstance : Inf Tryd.prog 105 (.agg #[]) 0 0)⟩,
  ⟨⟨inferInstance, (inferInstance : Inf Tryd.prog 106 (.agg #[]) 0 0)⟩,
  ⟨⟨inferInstance, (inferInstance : Inf Tryd.prog 107 (.int .u8 0) 1 1)⟩,
  ⟨⟨inferInstance, (inferInstance : Inf Tryd.prog 108 (.int .u8 0) 1 1)⟩,
  ⟨⟨inferInstance, (inferInstance : Inf Tryd.prog 109 .nilFunc 1 8)⟩,
  ⟨⟨inferInstance, (inferInstance : Inf Tryd.prog 110 (.pointer none) 1 8)⟩,
  ⟨⟨inferInstance, (inferInstance : Inf Tryd.prog 111 (.int .i32 0) 1 4)⟩,
  ⟨⟨inferInstance, (inferInstance : Inf Tryd.prog 112 (.int .i32 0) 1 4)⟩,
  ⟨⟨inferInstance, (inferInstance : Inf Tryd.prog 113 (.agg #[(.int .u64 0), (.int .u64 0), (.int .u32 0), (.int .u8 0), (.int .u8 0), (.int .u8 0), (.int .u8 0), .nilFunc, (.pointer none), (.int .i32 0), (.int .i32 0)]) 11 48)⟩,
  ⟨⟨inferInstance, (inferInstance : Inf Tryd.prog 114 (.agg #[(.int .u64 0), (.int .u64 0), (.int .u32 0), (.int .u8 0), (.int .u8 0), (.int .u8 0), (.int .u8 0), .nilFunc, (.pointer none), (.int .i32 0), (.int .i32 0)]) 11 48)⟩,
  ⟨⟨inferInstance, (inferInstance : Inf Tryd.prog 115 (.pointer none) 1 8)⟩, trivial⟩⟩⟩⟩⟩⟩⟩⟩⟩⟩⟩⟩⟩⟩⟩⟩⟩⟩⟩⟩⟩⟩⟩⟩⟩⟩⟩⟩⟩⟩⟩⟩⟩⟩⟩⟩⟩⟩⟩⟩⟩⟩⟩⟩⟩⟩⟩⟩⟩⟩⟩⟩⟩⟩⟩⟩⟩⟩⟩⟩⟩⟩⟩⟩⟩⟩⟩⟩⟩⟩⟩⟩⟩⟩⟩⟩⟩⟩⟩⟩⟩⟩⟩⟩⟩⟩⟩⟩⟩⟩⟩⟩⟩⟩⟩⟩⟩⟩⟩⟩⟩⟩⟩⟩⟩⟩⟩⟩
instance : Fun Tryd.prog 2 := ⟨_, _, Tryd.func2, rfl, by kernel_rfl⟩
instance : Fun Tryd.prog 3 := ⟨_, _, Tryd.func3, rfl, by kernel_rfl⟩
instance : Fun Tryd.prog 4 := ⟨_, _, Tryd.func4, rfl, by kernel_rfl⟩
instance : Fun Tryd.prog 5 := ⟨_, _, Tryd.func5, rfl, by kernel_rfl⟩
instance : Fun Tryd.prog 6 := ⟨_, _, Tryd.func6, rfl, by kernel_rfl⟩
instance : Fun Tryd.prog 7 := ⟨_, _, Tryd.func7, rfl, by kernel_rfl⟩
instance : Fun Tryd.prog 8 := ⟨_, _, Tryd.func8, rfl, by kernel_rfl⟩
instance : Fun Tryd.prog 9 := ⟨_, _, Tryd.func9, rfl, by kernel_rfl⟩
instance : Fun Tryd.prog 10 := ⟨_, _, Tryd.func10, rfl, by kernel_rfl⟩
instance : Fun Tryd.prog 11 := ⟨_, _, Tryd.func11, rfl, by kernel_rfl⟩
instance : Fun Tryd.prog 12 := ⟨_, _, Tryd.func12, rfl, by kernel_rfl⟩
instance : Fun Tryd.prog 13 := ⟨_, _, Tryd.func13, rfl, by kernel_rfl⟩
instance : Fun Tryd.prog 14 := ⟨_, _, Tryd.func14, rfl, by kernel_rfl⟩
instance : Fun Tryd.prog 15 := ⟨_, _, Tryd.func15, rfl, by kernel_rfl⟩
instance : Fun Tryd.prog 16 := ⟨_, _, Tryd.func16, rfl, by kernel_rfl⟩
instance : Fun Tryd.prog 17 := ⟨_, _, Tryd.func17, rfl, by kernel_rfl⟩
instance : Fun Tryd.prog 18 := ⟨_, _, Tryd.func18, rfl, by kernel_rfl⟩
instance : Fun Tryd.prog 19 := ⟨_, _, Tryd.func19, rfl, by kernel_rfl⟩
instance : Fun Tryd.prog 20 := ⟨_, _, Tryd.func20, rfl, by kernel_rfl⟩
instance : Fun Tryd.prog 21 := ⟨_, _, Tryd.func21, rfl, by kernel_rfl⟩
instance : Fun Tryd.prog 22 := ⟨_, _, Tryd.func22, rfl, by kernel_rfl⟩
instance : Fun Tryd.prog 23 := ⟨_, _, Tryd.func23, rfl, by kernel_rfl⟩
instance : Fun Tryd.prog 24 := ⟨_, _, Tryd.func24, rfl, by kernel_rfl⟩
instance : Fun Tryd.prog 25 := ⟨_, _, Tryd.func25, rfl, by kernel_rfl⟩
instance : Fun Tryd.prog 26 := ⟨_, _, Tryd.func26, rfl, by kernel_rfl⟩
instance : Fun Tryd.prog 27 := ⟨_, _, Tryd.func27, rfl, by kernel_rfl⟩
instance : Fun Tryd.prog 28 := ⟨_, _, Tryd.func28, rfl, by kernel_rfl⟩
instance : Fun Tryd.prog 29 := ⟨_, _, Tryd.func29, rfl, by kernel_rfl⟩
instance : Fun Tryd.prog 30 := ⟨_, _, Tryd.func30, rfl, by kernel_rfl⟩
instance : Fun Tryd.prog 31 := ⟨_, _, Tryd.func31, rfl, by kernel_rfl⟩
instance : Fun Tryd.prog 32 := ⟨_, _, Tryd.func32, rfl, by kernel_rfl⟩
instance : Fun Tryd.prog 33 := ⟨_, _, Tryd.func33, rfl, by kernel_rfl⟩
instance : Fun Tryd.prog 34 := ⟨_, _, Tryd.func34, rfl, by kernel_rfl⟩
instance : Fun Tryd.prog 35 := ⟨_, _, Tryd.func35, rfl, by kernel_rfl⟩
instance : Fun Tryd.prog 36 := ⟨_, _, Tryd.func36, rfl, by kernel_rfl⟩
instance : Fun Tryd.prog 37 := ⟨_, _, Tryd.func37, rfl, by kernel_rfl⟩
instance : Fun Tryd.prog 38 := ⟨_, _, Tryd.func38, rfl, by kernel_rfl⟩
instance : Fun Tryd.prog 39 := ⟨_, _, Tryd.func39, rfl, by kernel_rfl⟩
instance : Fun Tryd.prog 40 := ⟨_, _, Tryd.func40, rfl, by kernel_rfl⟩
instance : Fun Tryd.prog 41 := ⟨_, _, Tryd.func41, rfl, by kernel_rfl⟩
instance : Fun Tryd.prog 42 := ⟨_, _, Tryd.func42, rfl, by kernel_rfl⟩
instance : Fun Tryd.prog 43 := ⟨_, _, Tryd.func43, rfl, by kernel_rfl⟩
instance : Fun Tryd.prog 44 := ⟨_, _, Tryd.func44, rfl, by kernel_rfl⟩
instance : Fun Tryd.prog 45 := ⟨_, _, Tryd.func45, rfl, by kernel_rfl⟩
instance : Fun Tryd.prog 46 := ⟨_, _, Tryd.func46, rfl, by kernel_rfl⟩
instance : Fun Tryd.prog 47 := ⟨_, _, Tryd.func47, rfl, by kernel_rfl⟩
instance : Fun Tryd.prog 48 := ⟨_, _, Tryd.func48, rfl, by kernel_rfl⟩
instance : Fun Tryd.prog 49 := ⟨_, _, Tryd.func49, rfl, by kernel_rfl⟩
instance : Fun Tryd.prog 50 := ⟨_, _, Tryd.func50, rfl, by kernel_rfl⟩
instance : Fun Tryd.prog 51 := ⟨_, _, Tryd.func51, rfl, by kernel_rfl⟩
instance : Fun Tryd.prog 52 := ⟨_, _, Tryd.func52, rfl, by kernel_rfl⟩
instance : Fun Tryd.prog 53 := ⟨_, _, Tryd.func53, rfl, by kernel_rfl⟩
instance : Fun Tryd.prog 54 := ⟨_, _, Tryd.func54, rfl, by kernel_rfl⟩
instance : Fun Tryd.prog 55 := ⟨_, _, Tryd.func55, rfl, by kernel_rfl⟩
instance : Fun Tryd.prog 56 := ⟨_, _, Tryd.func56, rfl, by kernel_rfl⟩
instance : Fun Tryd.prog 77 := ⟨_, _, Tryd.func77, rfl, by kernel_rfl⟩
instance : Mix Tryd.prog := ⟨by kernel_rfl⟩
end Go.SX
