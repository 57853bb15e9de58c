/- The program's types in a table of the engine's kind, each row proved against the program. -/
import Derived.Test.YtekplmhmppdpcaaDoorProg
import Derived.Test.YtekplmhmppdpcaaDoorEng2
import Derived.KernelRfl
namespace Go.Proofs.YtekplmhmppdpcaaDoor
open Go.Proofs.YtekplmhmppdpcaaDoor.Eng Go.RowKit

def TT : List (Nat × TI) :=
  [(2, ⟨.int .i64, 1, 8, some [(.int .i64 0)]⟩),
   (3, ⟨.int .i64, 1, 8, some [(.int .i64 0)]⟩),
   (4, ⟨.bool, 1, 1, some [(.bool false)]⟩),
   (5, ⟨.int .u8, 1, 1, some [(.int .u8 0)]⟩),
   (9, ⟨.str, 1, 16, some [(.string ByteArray.empty)]⟩),
   (12, ⟨.int .u64, 1, 8, some [(.int .u64 0)]⟩),
   (21, ⟨.int .i32, 1, 4, some [(.int .i32 0)]⟩),
   (22, ⟨.int .u64, 1, 8, some [(.int .u64 0)]⟩),
   (23, ⟨.struct [(21, 0), (21, 1), (21, 2), (21, 3), (5, 4), (5, 5), (5, 6)], 7, 20, some [(.int .i32 0), (.int .i32 0), (.int .i32 0), (.int .i32 0), (.int .u8 0), (.int .u8 0), (.int .u8 0)]⟩),
   (24, ⟨.struct [(21, 0), (21, 1), (21, 2), (21, 3), (5, 4), (5, 5), (5, 6)], 7, 20, some [(.int .i32 0), (.int .i32 0), (.int .i32 0), (.int .i32 0), (.int .u8 0), (.int .u8 0), (.int .u8 0)]⟩),
   (25, ⟨.arr 2 24, 14, 40, some [(.int .i32 0), (.int .i32 0), (.int .i32 0), (.int .i32 0), (.int .u8 0), (.int .u8 0), (.int .u8 0), (.int .i32 0), (.int .i32 0), (.int .i32 0), (.int .i32 0), (.int .u8 0), (.int .u8 0), (.int .u8 0)]⟩),
   (26, ⟨.slice 50, 1, 24, some [(.slice none 0 0)]⟩),
   (27, ⟨.int .u16, 1, 2, some [(.int .u16 0)]⟩),
   (28, ⟨.arr 2 27, 2, 4, some [(.int .u16 0), (.int .u16 0)]⟩),
   (29, ⟨.struct [(22, 0), (22, 1), (25, 2), (26, 16), (28, 17)], 19, 88, some [(.int .u64 0), (.int .u64 0), (.int .i32 0), (.int .i32 0), (.int .i32 0), (.int .i32 0), (.int .u8 0), (.int .u8 0), (.int .u8 0), (.int .i32 0), (.int .i32 0), (.int .i32 0), (.int .i32 0), (.int .u8 0), (.int .u8 0), (.int .u8 0), (.slice none 0 0), (.int .u16 0), (.int .u16 0)]⟩),
   (30, ⟨.struct [(22, 0), (22, 1), (25, 2), (26, 16), (28, 17)], 19, 88, some [(.int .u64 0), (.int .u64 0), (.int .i32 0), (.int .i32 0), (.int .i32 0), (.int .i32 0), (.int .u8 0), (.int .u8 0), (.int .u8 0), (.int .i32 0), (.int .i32 0), (.int .i32 0), (.int .i32 0), (.int .u8 0), (.int .u8 0), (.int .u8 0), (.slice none 0 0), (.int .u16 0), (.int .u16 0)]⟩),
   (33, ⟨.int .i64, 1, 8, some [(.int .i64 0)]⟩),
   (48, ⟨.slice 30, 1, 24, some [(.slice none 0 0)]⟩),
   (49, ⟨.struct [(21, 0), (21, 1), (21, 2), (21, 3), (5, 4), (5, 5)], 6, 20, some [(.int .i32 0), (.int .i32 0), (.int .i32 0), (.int .i32 0), (.int .u8 0), (.int .u8 0)]⟩),
   (50, ⟨.struct [(21, 0), (21, 1), (21, 2), (21, 3), (5, 4), (5, 5)], 6, 20, some [(.int .i32 0), (.int .i32 0), (.int .i32 0), (.int .i32 0), (.int .u8 0), (.int .u8 0)]⟩),
   (51, ⟨.arr 2 21, 2, 8, some [(.int .i32 0), (.int .i32 0)]⟩),
   (52, ⟨.arr 7 51, 14, 56, some [(.int .i32 0), (.int .i32 0), (.int .i32 0), (.int .i32 0), (.int .i32 0), (.int .i32 0), (.int .i32 0), (.int .i32 0), (.int .i32 0), (.int .i32 0), (.int .i32 0), (.int .i32 0), (.int .i32 0), (.int .i32 0)]⟩),
   (53, ⟨.arr 6 51, 12, 48, some [(.int .i32 0), (.int .i32 0), (.int .i32 0), (.int .i32 0), (.int .i32 0), (.int .i32 0), (.int .i32 0), (.int .i32 0), (.int .i32 0), (.int .i32 0), (.int .i32 0), (.int .i32 0)]⟩),
   (55, ⟨.slice 21, 1, 24, some [(.slice none 0 0)]⟩),
   (57, ⟨.slice 51, 1, 24, some [(.slice none 0 0)]⟩),
   (62, ⟨.slice 5, 1, 24, some [(.slice none 0 0)]⟩),
   (63, ⟨.struct [(62, 0)], 1, 24, some [(.slice none 0 0)]⟩),
   (64, ⟨.struct [(62, 0)], 1, 24, some [(.slice none 0 0)]⟩),
   (67, ⟨.ptr 64, 1, 8, some [(.pointer none)]⟩),
   (73, ⟨.ptr 101, 1, 8, some [(.pointer none)]⟩),
   (82, ⟨.ptr 84, 1, 8, some [(.pointer none)]⟩),
   (83, ⟨.struct [(9, 0), (3, 1), (3, 2)], 3, 32, some [(.string ByteArray.empty), (.int .i64 0), (.int .i64 0)]⟩),
   (84, ⟨.struct [(9, 0), (3, 1), (3, 2)], 3, 32, some [(.string ByteArray.empty), (.int .i64 0), (.int .i64 0)]⟩),
   (95, ⟨.int .u64, 1, 8, some [(.int .u64 0)]⟩),
   (97, ⟨.int .u32, 1, 4, some [(.int .u32 0)]⟩),
   (98, ⟨.struct [(9, 0), (33, 1)], 2, 24, some [(.string ByteArray.empty), (.int .i64 0)]⟩),
   (99, ⟨.struct [(9, 0), (33, 1)], 2, 24, some [(.string ByteArray.empty), (.int .i64 0)]⟩),
   (100, ⟨.struct [(99, 0)], 2, 24, some [(.string ByteArray.empty), (.int .i64 0)]⟩),
   (101, ⟨.struct [(99, 0)], 2, 24, some [(.string ByteArray.empty), (.int .i64 0)]⟩),
   (114, ⟨.ptr 99, 1, 8, some [(.pointer none)]⟩),
   (124, ⟨.ptr 5, 1, 8, some [(.pointer none)]⟩)]

theorem tok2 : TOk Tryd.prog 2 ⟨.int .i64, 1, 8, some [(.int .i64 0)]⟩ := ⟨⟨_, Tryd.underlying2, rfl⟩, Tryd.sizeOf2, fun w => ⟨_, Tryd.typeInfo2 w, rfl⟩, fun z hz w => by cases hz; exact ⟨_, Tryd.zeroValue2 w, rfl⟩⟩
theorem tok3 : TOk Tryd.prog 3 ⟨.int .i64, 1, 8, some [(.int .i64 0)]⟩ := ⟨⟨_, Tryd.underlying3, rfl⟩, Tryd.sizeOf3, fun w => ⟨_, Tryd.typeInfo3 w, rfl⟩, fun z hz w => by cases hz; exact ⟨_, Tryd.zeroValue3 w, rfl⟩⟩
theorem tok4 : TOk Tryd.prog 4 ⟨.bool, 1, 1, some [(.bool false)]⟩ := ⟨⟨_, Tryd.underlying4, rfl⟩, Tryd.sizeOf4, fun w => ⟨_, Tryd.typeInfo4 w, rfl⟩, fun z hz w => by cases hz; exact ⟨_, Tryd.zeroValue4 w, rfl⟩⟩
theorem tok5 : TOk Tryd.prog 5 ⟨.int .u8, 1, 1, some [(.int .u8 0)]⟩ := ⟨⟨_, Tryd.underlying5, rfl⟩, Tryd.sizeOf5, fun w => ⟨_, Tryd.typeInfo5 w, rfl⟩, fun z hz w => by cases hz; exact ⟨_, Tryd.zeroValue5 w, rfl⟩⟩
theorem tok9 : TOk Tryd.prog 9 ⟨.str, 1, 16, some [(.string ByteArray.empty)]⟩ := ⟨⟨_, Tryd.underlying9, rfl⟩, Tryd.sizeOf9, fun w => ⟨_, Tryd.typeInfo9 w, rfl⟩, fun z hz w => by cases hz; exact ⟨_, Tryd.zeroValue9 w, rfl⟩⟩
theorem tok12 : TOk Tryd.prog 12 ⟨.int .u64, 1, 8, some [(.int .u64 0)]⟩ := ⟨⟨_, Tryd.underlying12, rfl⟩, Tryd.sizeOf12, fun w => ⟨_, Tryd.typeInfo12 w, rfl⟩, fun z hz w => by cases hz; exact ⟨_, Tryd.zeroValue12 w, rfl⟩⟩
theorem tok21 : TOk Tryd.prog 21 ⟨.int .i32, 1, 4, some [(.int .i32 0)]⟩ := ⟨⟨_, Tryd.underlying21, rfl⟩, Tryd.sizeOf21, fun w => ⟨_, Tryd.typeInfo21 w, rfl⟩, fun z hz w => by cases hz; exact ⟨_, Tryd.zeroValue21 w, rfl⟩⟩
theorem tok22 : TOk Tryd.prog 22 ⟨.int .u64, 1, 8, some [(.int .u64 0)]⟩ := ⟨⟨_, Tryd.underlying22, rfl⟩, Tryd.sizeOf22, fun w => ⟨_, Tryd.typeInfo22 w, rfl⟩, fun z hz w => by cases hz; exact ⟨_, Tryd.zeroValue22 w, rfl⟩⟩
theorem tok23 : TOk Tryd.prog 23 ⟨.struct [(21, 0), (21, 1), (21, 2), (21, 3), (5, 4), (5, 5), (5, 6)], 7, 20, some [(.int .i32 0), (.int .i32 0), (.int .i32 0), (.int .i32 0), (.int .u8 0), (.int .u8 0), (.int .u8 0)]⟩ := ⟨⟨_, Tryd.underlying23, ⟨_, rfl, rfl⟩⟩, Tryd.sizeOf23, fun w => ⟨_, Tryd.typeInfo23 w, rfl⟩, fun z hz w => by cases hz; exact ⟨_, Tryd.zeroValue23 w, rfl⟩⟩
theorem tok24 : TOk Tryd.prog 24 ⟨.struct [(21, 0), (21, 1), (21, 2), (21, 3), (5, 4), (5, 5), (5, 6)], 7, 20, some [(.int .i32 0), (.int .i32 0), (.int .i32 0), (.int .i32 0), (.int .u8 0), (.int .u8 0), (.int .u8 0)]⟩ := ⟨⟨_, Tryd.underlying24, ⟨_, rfl, rfl⟩⟩, Tryd.sizeOf24, fun w => ⟨_, Tryd.typeInfo24 w, rfl⟩, fun z hz w => by cases hz; exact ⟨_, Tryd.zeroValue24 w, rfl⟩⟩
theorem tok25 : TOk Tryd.prog 25 ⟨.arr 2 24, 14, 40, some [(.int .i32 0), (.int .i32 0), (.int .i32 0), (.int .i32 0), (.int .u8 0), (.int .u8 0), (.int .u8 0), (.int .i32 0), (.int .i32 0), (.int .i32 0), (.int .i32 0), (.int .u8 0), (.int .u8 0), (.int .u8 0)]⟩ := ⟨⟨_, Tryd.underlying25, rfl⟩, Tryd.sizeOf25, fun w => ⟨_, Tryd.typeInfo25 w, rfl⟩, fun z hz w => by cases hz; exact ⟨_, Tryd.zeroValue25 w, rfl⟩⟩
theorem tok26 : TOk Tryd.prog 26 ⟨.slice 50, 1, 24, some [(.slice none 0 0)]⟩ := ⟨⟨_, Tryd.underlying26, rfl⟩, Tryd.sizeOf26, fun w => ⟨_, Tryd.typeInfo26 w, rfl⟩, fun z hz w => by cases hz; exact ⟨_, Tryd.zeroValue26 w, rfl⟩⟩
theorem tok27 : TOk Tryd.prog 27 ⟨.int .u16, 1, 2, some [(.int .u16 0)]⟩ := ⟨⟨_, Tryd.underlying27, rfl⟩, Tryd.sizeOf27, fun w => ⟨_, Tryd.typeInfo27 w, rfl⟩, fun z hz w => by cases hz; exact ⟨_, Tryd.zeroValue27 w, rfl⟩⟩
theorem tok28 : TOk Tryd.prog 28 ⟨.arr 2 27, 2, 4, some [(.int .u16 0), (.int .u16 0)]⟩ := ⟨⟨_, Tryd.underlying28, rfl⟩, Tryd.sizeOf28, fun w => ⟨_, Tryd.typeInfo28 w, rfl⟩, fun z hz w => by cases hz; exact ⟨_, Tryd.zeroValue28 w, rfl⟩⟩
theorem tok29 : TOk Tryd.prog 29 ⟨.struct [(22, 0), (22, 1), (25, 2), (26, 16), (28, 17)], 19, 88, some [(.int .u64 0), (.int .u64 0), (.int .i32 0), (.int .i32 0), (.int .i32 0), (.int .i32 0), (.int .u8 0), (.int .u8 0), (.int .u8 0), (.int .i32 0), (.int .i32 0), (.int .i32 0), (.int .i32 0), (.int .u8 0), (.int .u8 0), (.int .u8 0), (.slice none 0 0), (.int .u16 0), (.int .u16 0)]⟩ := ⟨⟨_, Tryd.underlying29, ⟨_, rfl, rfl⟩⟩, Tryd.sizeOf29, fun w => ⟨_, Tryd.typeInfo29 w, rfl⟩, fun z hz w => by cases hz; exact ⟨_, Tryd.zeroValue29 w, rfl⟩⟩
theorem tok30 : TOk Tryd.prog 30 ⟨.struct [(22, 0), (22, 1), (25, 2), (26, 16), (28, 17)], 19, 88, some [(.int .u64 0), (.int .u64 0), (.int .i32 0), (.int .i32 0), (.int .i32 0), (.int .i32 0), (.int .u8 0), (.int .u8 0), (.int .u8 0), (.int .i32 0), (.int .i32 0), (.int .i32 0), (.int .i32 0), (.int .u8 0), (.int .u8 0), (.int .u8 0), (.slice none 0 0), (.int .u16 0), (.int .u16 0)]⟩ := ⟨⟨_, Tryd.underlying30, ⟨_, rfl, rfl⟩⟩, Tryd.sizeOf30, fun w => ⟨_, Tryd.typeInfo30 w, rfl⟩, fun z hz w => by cases hz; exact ⟨_, Tryd.zeroValue30 w, rfl⟩⟩
theorem tok33 : TOk Tryd.prog 33 ⟨.int .i64, 1, 8, some [(.int .i64 0)]⟩ := ⟨⟨_, Tryd.underlying33, rfl⟩, Tryd.sizeOf33, fun w => ⟨_, Tryd.typeInfo33 w, rfl⟩, fun z hz w => by cases hz; exact ⟨_, Tryd.zeroValue33 w, rfl⟩⟩
theorem tok48 : TOk Tryd.prog 48 ⟨.slice 30, 1, 24, some [(.slice none 0 0)]⟩ := ⟨⟨_, Tryd.underlying48, rfl⟩, Tryd.sizeOf48, fun w => ⟨_, Tryd.typeInfo48 w, rfl⟩, fun z hz w => by cases hz; exact ⟨_, Tryd.zeroValue48 w, rfl⟩⟩
theorem tok49 : TOk Tryd.prog 49 ⟨.struct [(21, 0), (21, 1), (21, 2), (21, 3), (5, 4), (5, 5)], 6, 20, some [(.int .i32 0), (.int .i32 0), (.int .i32 0), (.int .i32 0), (.int .u8 0), (.int .u8 0)]⟩ := ⟨⟨_, Tryd.underlying49, ⟨_, rfl, rfl⟩⟩, Tryd.sizeOf49, fun w => ⟨_, Tryd.typeInfo49 w, rfl⟩, fun z hz w => by cases hz; exact ⟨_, Tryd.zeroValue49 w, rfl⟩⟩
theorem tok50 : TOk Tryd.prog 50 ⟨.struct [(21, 0), (21, 1), (21, 2), (21, 3), (5, 4), (5, 5)], 6, 20, some [(.int .i32 0), (.int .i32 0), (.int .i32 0), (.int .i32 0), (.int .u8 0), (.int .u8 0)]⟩ := ⟨⟨_, Tryd.underlying50, ⟨_, rfl, rfl⟩⟩, Tryd.sizeOf50, fun w => ⟨_, Tryd.typeInfo50 w, rfl⟩, fun z hz w => by cases hz; exact ⟨_, Tryd.zeroValue50 w, rfl⟩⟩
theorem tok51 : TOk Tryd.prog 51 ⟨.arr 2 21, 2, 8, some [(.int .i32 0), (.int .i32 0)]⟩ := ⟨⟨_, Tryd.underlying51, rfl⟩, Tryd.sizeOf51, fun w => ⟨_, Tryd.typeInfo51 w, rfl⟩, fun z hz w => by cases hz; exact ⟨_, Tryd.zeroValue51 w, rfl⟩⟩
theorem tok52 : TOk Tryd.prog 52 ⟨.arr 7 51, 14, 56, some [(.int .i32 0), (.int .i32 0), (.int .i32 0), (.int .i32 0), (.int .i32 0), (.int .i32 0), (.int .i32 0), (.int .i32 0), (.int .i32 0), (.int .i32 0), (.int .i32 0), (.int .i32 0), (.int .i32 0), (.int .i32 0)]⟩ := ⟨⟨_, Tryd.underlying52, rfl⟩, Tryd.sizeOf52, fun w => ⟨_, Tryd.typeInfo52 w, rfl⟩, fun z hz w => by cases hz; exact ⟨_, Tryd.zeroValue52 w, rfl⟩⟩
theorem tok53 : TOk Tryd.prog 53 ⟨.arr 6 51, 12, 48, some [(.int .i32 0), (.int .i32 0), (.int .i32 0), (.int .i32 0), (.int .i32 0), (.int .i32 0), (.int .i32 0), (.int .i32 0), (.int .i32 0), (.int .i32 0), (.int .i32 0), (.int .i32 0)]⟩ := ⟨⟨_, Tryd.underlying53, rfl⟩, Tryd.sizeOf53, fun w => ⟨_, Tryd.typeInfo53 w, rfl⟩, fun z hz w => by cases hz; exact ⟨_, Tryd.zeroValue53 w, rfl⟩⟩
theorem tok55 : TOk Tryd.prog 55 ⟨.slice 21, 1, 24, some [(.slice none 0 0)]⟩ := ⟨⟨_, Tryd.underlying55, rfl⟩, Tryd.sizeOf55, fun w => ⟨_, Tryd.typeInfo55 w, rfl⟩, fun z hz w => by cases hz; exact ⟨_, Tryd.zeroValue55 w, rfl⟩⟩
theorem tok57 : TOk Tryd.prog 57 ⟨.slice 51, 1, 24, some [(.slice none 0 0)]⟩ := ⟨⟨_, Tryd.underlying57, rfl⟩, Tryd.sizeOf57, fun w => ⟨_, Tryd.typeInfo57 w, rfl⟩, fun z hz w => by cases hz; exact ⟨_, Tryd.zeroValue57 w, rfl⟩⟩
theorem tok62 : TOk Tryd.prog 62 ⟨.slice 5, 1, 24, some [(.slice none 0 0)]⟩ := ⟨⟨_, Tryd.underlying62, rfl⟩, Tryd.sizeOf62, fun w => ⟨_, Tryd.typeInfo62 w, rfl⟩, fun z hz w => by cases hz; exact ⟨_, Tryd.zeroValue62 w, rfl⟩⟩
theorem tok63 : TOk Tryd.prog 63 ⟨.struct [(62, 0)], 1, 24, some [(.slice none 0 0)]⟩ := ⟨⟨_, Tryd.underlying63, ⟨_, rfl, rfl⟩⟩, Tryd.sizeOf63, fun w => ⟨_, Tryd.typeInfo63 w, rfl⟩, fun z hz w => by cases hz; exact ⟨_, Tryd.zeroValue63 w, rfl⟩⟩
theorem tok64 : TOk Tryd.prog 64 ⟨.struct [(62, 0)], 1, 24, some [(.slice none 0 0)]⟩ := ⟨⟨_, Tryd.underlying64, ⟨_, rfl, rfl⟩⟩, Tryd.sizeOf64, fun w => ⟨_, Tryd.typeInfo64 w, rfl⟩, fun z hz w => by cases hz; exact ⟨_, Tryd.zeroValue64 w, rfl⟩⟩
theorem tok67 : TOk Tryd.prog 67 ⟨.ptr 64, 1, 8, some [(.pointer none)]⟩ := ⟨⟨_, Tryd.underlying67, rfl⟩, Tryd.sizeOf67, fun w => ⟨_, Tryd.typeInfo67 w, rfl⟩, fun z hz w => by cases hz; exact ⟨_, Tryd.zeroValue67 w, rfl⟩⟩
theorem tok73 : TOk Tryd.prog 73 ⟨.ptr 101, 1, 8, some [(.pointer none)]⟩ := ⟨⟨_, Tryd.underlying73, rfl⟩, Tryd.sizeOf73, fun w => ⟨_, Tryd.typeInfo73 w, rfl⟩, fun z hz w => by cases hz; exact ⟨_, Tryd.zeroValue73 w, rfl⟩⟩
theorem tok82 : TOk Tryd.prog 82 ⟨.ptr 84, 1, 8, some [(.pointer none)]⟩ := ⟨⟨_, Tryd.underlying82, rfl⟩, Tryd.sizeOf82, fun w => ⟨_, Tryd.typeInfo82 w, rfl⟩, fun z hz w => by cases hz; exact ⟨_, Tryd.zeroValue82 w, rfl⟩⟩
theorem tok83 : TOk Tryd.prog 83 ⟨.struct [(9, 0), (3, 1), (3, 2)], 3, 32, some [(.string ByteArray.empty), (.int .i64 0), (.int .i64 0)]⟩ := ⟨⟨_, Tryd.underlying83, ⟨_, rfl, rfl⟩⟩, Tryd.sizeOf83, fun w => ⟨_, Tryd.typeInfo83 w, rfl⟩, fun z hz w => by cases hz; exact ⟨_, Tryd.zeroValue83 w, rfl⟩⟩
theorem tok84 : TOk Tryd.prog 84 ⟨.struct [(9, 0), (3, 1), (3, 2)], 3, 32, some [(.string ByteArray.empty), (.int .i64 0), (.int .i64 0)]⟩ := ⟨⟨_, Tryd.underlying84, ⟨_, rfl, rfl⟩⟩, Tryd.sizeOf84, fun w => ⟨_, Tryd.typeInfo84 w, rfl⟩, fun z hz w => by cases hz; exact ⟨_, Tryd.zeroValue84 w, rfl⟩⟩
theorem tok95 : TOk Tryd.prog 95 ⟨.int .u64, 1, 8, some [(.int .u64 0)]⟩ := ⟨⟨_, Tryd.underlying95, rfl⟩, Tryd.sizeOf95, fun w => ⟨_, Tryd.typeInfo95 w, rfl⟩, fun z hz w => by cases hz; exact ⟨_, Tryd.zeroValue95 w, rfl⟩⟩
theorem tok97 : TOk Tryd.prog 97 ⟨.int .u32, 1, 4, some [(.int .u32 0)]⟩ := ⟨⟨_, Tryd.underlying97, rfl⟩, Tryd.sizeOf97, fun w => ⟨_, Tryd.typeInfo97 w, rfl⟩, fun z hz w => by cases hz; exact ⟨_, Tryd.zeroValue97 w, rfl⟩⟩
theorem tok98 : TOk Tryd.prog 98 ⟨.struct [(9, 0), (33, 1)], 2, 24, some [(.string ByteArray.empty), (.int .i64 0)]⟩ := ⟨⟨_, Tryd.underlying98, ⟨_, rfl, rfl⟩⟩, Tryd.sizeOf98, fun w => ⟨_, Tryd.typeInfo98 w, rfl⟩, fun z hz w => by cases hz; exact ⟨_, Tryd.zeroValue98 w, rfl⟩⟩
theorem tok99 : TOk Tryd.prog 99 ⟨.struct [(9, 0), (33, 1)], 2, 24, some [(.string ByteArray.empty), (.int .i64 0)]⟩ := ⟨⟨_, Tryd.underlying99, ⟨_, rfl, rfl⟩⟩, Tryd.sizeOf99, fun w => ⟨_, Tryd.typeInfo99 w, rfl⟩, fun z hz w => by cases hz; exact ⟨_, Tryd.zeroValue99 w, rfl⟩⟩
theorem tok100 : TOk Tryd.prog 100 ⟨.struct [(99, 0)], 2, 24, some [(.string ByteArray.empty), (.int .i64 0)]⟩ := ⟨⟨_, Tryd.underlying100, ⟨_, rfl, rfl⟩⟩, Tryd.sizeOf100, fun w => ⟨_, Tryd.typeInfo100 w, rfl⟩, fun z hz w => by cases hz; exact ⟨_, Tryd.zeroValue100 w, rfl⟩⟩
theorem tok101 : TOk Tryd.prog 101 ⟨.struct [(99, 0)], 2, 24, some [(.string ByteArray.empty), (.int .i64 0)]⟩ := ⟨⟨_, Tryd.underlying101, ⟨_, rfl, rfl⟩⟩, Tryd.sizeOf101, fun w => ⟨_, Tryd.typeInfo101 w, rfl⟩, fun z hz w => by cases hz; exact ⟨_, Tryd.zeroValue101 w, rfl⟩⟩
theorem tok114 : TOk Tryd.prog 114 ⟨.ptr 99, 1, 8, some [(.pointer none)]⟩ := ⟨⟨_, Tryd.underlying114, rfl⟩, Tryd.sizeOf114, fun w => ⟨_, Tryd.typeInfo114 w, rfl⟩, fun z hz w => by cases hz; exact ⟨_, Tryd.zeroValue114 w, rfl⟩⟩
theorem tok124 : TOk Tryd.prog 124 ⟨.ptr 5, 1, 8, some [(.pointer none)]⟩ := ⟨⟨_, Tryd.underlying124, rfl⟩, Tryd.sizeOf124, fun w => ⟨_, Tryd.typeInfo124 w, rfl⟩, fun z hz w => by cases hz; exact ⟨_, Tryd.zeroValue124 w, rfl⟩⟩
theorem ctt_ok : CTabOk Tryd.prog TT := by
  intro x hx
  simp only [TT, List.mem_cons, List.not_mem_nil, or_false] at hx
  rcases hx with rfl | rfl | rfl | rfl | rfl | rfl | rfl | rfl | rfl | rfl | rfl | rfl | rfl | rfl | rfl | rfl | rfl | rfl | rfl | rfl | rfl | rfl | rfl | rfl | rfl | rfl | rfl | rfl | rfl | rfl | rfl | rfl | rfl | rfl | rfl | rfl | rfl | rfl | rfl | rfl | rfl
  · exact ⟨by kernel_rfl, by kernel_rfl⟩
  · exact ⟨by kernel_rfl, by kernel_rfl⟩
  · exact ⟨by kernel_rfl, by kernel_rfl⟩
  · exact ⟨by kernel_rfl, by kernel_rfl⟩
  · exact ⟨by kernel_rfl, by kernel_rfl⟩
  · exact ⟨by kernel_rfl, by kernel_rfl⟩
  · exact ⟨by kernel_rfl, by kernel_rfl⟩
  · exact ⟨by kernel_rfl, by kernel_rfl⟩
  · exact ⟨by kernel_rfl, by kernel_rfl⟩
  · exact ⟨by kernel_rfl, by kernel_rfl⟩
  · exact ⟨by kernel_rfl, by kernel_rfl⟩
  · exact ⟨by kernel_rfl, by kernel_rfl⟩
  · exact ⟨by kernel_rfl, by kernel_rfl⟩
  · exact ⟨by kernel_rfl, by kernel_rfl⟩
  · exact ⟨by kernel_rfl, by kernel_rfl⟩
  · exact ⟨by kernel_rfl, by kernel_rfl⟩
  · exact ⟨by kernel_rfl, by kernel_rfl⟩
  · exact ⟨by kernel_rfl, by kernel_rfl⟩
  · exact ⟨by kernel_rfl, by kernel_rfl⟩
  · exact ⟨by kernel_rfl, by kernel_rfl⟩
  · exact ⟨by kernel_rfl, by kernel_rfl⟩
  · exact ⟨by kernel_rfl, by kernel_rfl⟩
  · exact ⟨by kernel_rfl, by kernel_rfl⟩
  · exact ⟨by kernel_rfl, by kernel_rfl⟩
  · exact ⟨by kernel_rfl, by kernel_rfl⟩
  · exact ⟨by kernel_rfl, by kernel_rfl⟩
  · exact ⟨by kernel_rfl, by kernel_rfl⟩
  · exact ⟨by kernel_rfl, by kernel_rfl⟩
  · exact ⟨by kernel_rfl, by kernel_rfl⟩
  · exact ⟨by kernel_rfl, by kernel_rfl⟩
  · exact ⟨by kernel_rfl, by kernel_rfl⟩
  · exact ⟨by kernel_rfl, by kernel_rfl⟩
  · exact ⟨by kernel_rfl, by kernel_rfl⟩
  · exact ⟨by kernel_rfl, by kernel_rfl⟩
  · exact ⟨by kernel_rfl, by kernel_rfl⟩
  · exact ⟨by kernel_rfl, by kernel_rfl⟩
  · exact ⟨by kernel_rfl, by kernel_rfl⟩
  · exact ⟨by kernel_rfl, by kernel_rfl⟩
  · exact ⟨by kernel_rfl, by kernel_rfl⟩
  · exact ⟨by kernel_rfl, by kernel_rfl⟩
  · exact ⟨by kernel_rfl, by kernel_rfl⟩
theorem tt_closed : structsIn TT TT = true := by kernel_rfl
theorem tt_ok : TabOk Tryd.prog TT := by
  intro x hx
  simp only [TT, List.mem_cons, List.not_mem_nil, or_false] at hx
  rcases hx with rfl | rfl | rfl | rfl | rfl | rfl | rfl | rfl | rfl | rfl | rfl | rfl | rfl | rfl | rfl | rfl | rfl | rfl | rfl | rfl | rfl | rfl | rfl | rfl | rfl | rfl | rfl | rfl | rfl | rfl | rfl | rfl | rfl | rfl | rfl | rfl | rfl | rfl | rfl | rfl | rfl
  · exact tok2
  · exact tok3
  · exact tok4
  · exact tok5
  · exact tok9
  · exact tok12
  · exact tok21
  · exact tok22
  · exact tok23
  · exact tok24
  · exact tok25
  · exact tok26
  · exact tok27
  · exact tok28
  · exact tok29
  · exact tok30
  · exact tok33
  · exact tok48
  · exact tok49
  · exact tok50
  · exact tok51
  · exact tok52
  · exact tok53
  · exact tok55
  · exact tok57
  · exact tok62
  · exact tok63
  · exact tok64
  · exact tok67
  · exact tok73
  · exact tok82
  · exact tok83
  · exact tok84
  · exact tok95
  · exact tok97
  · exact tok98
  · exact tok99
  · exact tok100
  · exact tok101
  · exact tok114
  · exact tok124
theorem tt_eq : eqOkB Tryd.prog TT = true := by kernel_rfl
theorem tt_one : oneB TT = true := by kernel_rfl


theorem sV {w0 : World} {A : List Nat} {n : Nat} {E : List (Nat × Value)} {L : List Blk} {op : Op} {ty : TypeId} {v : Value} (h : stepV TT E op = some v) : Val Tryd.prog w0 A n E L op ty v := stepV_ok tt_ok h
theorem wP {ops : Array Oper} {Q : Exit → Act → World → Prop} {w0 : World} {A : List Nat} {n : Nat} {rest : List Oper} {E : List (Nat × Value)} {L : List Blk} {d : Nat} {op : Op} {ty : TypeId} {pos : String} {aft : Array Edge} {v : Value} (h : stepV TT E op = some v) (hd : Nat.blt d n = true) (k : WL Tryd.prog ops Q w0 A n rest ((d, v) :: E) L) :
    WL Tryd.prog ops Q w0 A n (⟨some d, op, ty, pos, aft, none⟩ :: rest) E L := wl_pure tt_ok h hd k
theorem qP {ops : Array Oper} {Q : Exit → Act → World → Prop} {w0 : World} {A : List Nat} {n : Nat} {rest : List Oper} {E : List (Nat × Value)} {L : List Blk} {d : Nat} {op : Op} {ty : TypeId} {pos : String} {aft : Array Edge} {v : Value} (h : stepV TT E op = some v) (hd : Nat.blt d n = true) (k : WQ Tryd.prog ops Q w0 A n rest ((d, v) :: E) L) :
    WQ Tryd.prog ops Q w0 A n (⟨some d, op, ty, pos, aft, none⟩ :: rest) E L := wq_pure tt_ok h hd k

end Go.Proofs.YtekplmhmppdpcaaDoor
