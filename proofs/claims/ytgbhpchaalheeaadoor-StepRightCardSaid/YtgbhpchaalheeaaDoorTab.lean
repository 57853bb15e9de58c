/- The program's types in a table of the engine's kind, each row proved against the program. -/
import Derived.Test.YtgbhpchaalheeaaDoorProg
import Derived.Test.YtgbhpchaalheeaaDoorEng2
import Derived.KernelRfl
namespace Go.Proofs.YtgbhpchaalheeaaDoor
open Go.Proofs.YtgbhpchaalheeaaDoor.Eng Go.RowKit

def TT : List (Nat × TI) :=
  [(2, ⟨.int .i64, 1, 8, some [(.int .i64 0)]⟩),
   (3, ⟨.int .i64, 1, 8, some [(.int .i64 0)]⟩),
   (4, ⟨.bool, 1, 1, some [(.bool false)]⟩),
   (5, ⟨.int .u8, 1, 1, some [(.int .u8 0)]⟩),
   (9, ⟨.str, 1, 16, some [(.string ByteArray.empty)]⟩),
   (12, ⟨.int .u64, 1, 8, some [(.int .u64 0)]⟩),
   (21, ⟨.int .i32, 1, 4, some [(.int .i32 0)]⟩),
   (22, ⟨.int .u64, 1, 8, some [(.int .u64 0)]⟩),
   (23, ⟨.struct [(21, 0), (21, 1), (21, 2), (21, 3), (5, 4), (5, 5), (5, 6)], 7, 20, some [(.int .i32 0), (.int .i32 0), (.int .i32 0), (.int .i32 0), (.int .u8 0), (.int .u8 0), (.int .u8 0)]⟩),
   (24, ⟨.struct [(21, 0), (21, 1), (21, 2), (21, 3), (5, 4), (5, 5), (5, 6)], 7, 20, some [(.int .i32 0), (.int .i32 0), (.int .i32 0), (.int .i32 0), (.int .u8 0), (.int .u8 0), (.int .u8 0)]⟩),
   (25, ⟨.arr 2 24, 14, 40, some [(.int .i32 0), (.int .i32 0), (.int .i32 0), (.int .i32 0), (.int .u8 0), (.int .u8 0), (.int .u8 0), (.int .i32 0), (.int .i32 0), (.int .i32 0), (.int .i32 0), (.int .u8 0), (.int .u8 0), (.int .u8 0)]⟩),
   (26, ⟨.slice 39, 1, 24, some [(.slice none 0 0)]⟩),
   (27, ⟨.int .u16, 1, 2, some [(.int .u16 0)]⟩),
   (28, ⟨.arr 2 27, 2, 4, some [(.int .u16 0), (.int .u16 0)]⟩),
   (29, ⟨.struct [(22, 0), (22, 1), (25, 2), (26, 16), (28, 17)], 19, 88, some [(.int .u64 0), (.int .u64 0), (.int .i32 0), (.int .i32 0), (.int .i32 0), (.int .i32 0), (.int .u8 0), (.int .u8 0), (.int .u8 0), (.int .i32 0), (.int .i32 0), (.int .i32 0), (.int .i32 0), (.int .u8 0), (.int .u8 0), (.int .u8 0), (.slice none 0 0), (.int .u16 0), (.int .u16 0)]⟩),
   (30, ⟨.struct [(22, 0), (22, 1), (25, 2), (26, 16), (28, 17)], 19, 88, some [(.int .u64 0), (.int .u64 0), (.int .i32 0), (.int .i32 0), (.int .i32 0), (.int .i32 0), (.int .u8 0), (.int .u8 0), (.int .u8 0), (.int .i32 0), (.int .i32 0), (.int .i32 0), (.int .i32 0), (.int .u8 0), (.int .u8 0), (.int .u8 0), (.slice none 0 0), (.int .u16 0), (.int .u16 0)]⟩),
   (31, ⟨.int .u8, 1, 1, some [(.int .u8 0)]⟩),
   (32, ⟨.arr 2 31, 2, 2, some [(.int .u8 0), (.int .u8 0)]⟩),
   (33, ⟨.arr 2 31, 2, 2, some [(.int .u8 0), (.int .u8 0)]⟩),
   (38, ⟨.struct [(21, 0), (21, 1), (21, 2), (21, 3), (5, 4), (5, 5)], 6, 20, some [(.int .i32 0), (.int .i32 0), (.int .i32 0), (.int .i32 0), (.int .u8 0), (.int .u8 0)]⟩),
   (39, ⟨.struct [(21, 0), (21, 1), (21, 2), (21, 3), (5, 4), (5, 5)], 6, 20, some [(.int .i32 0), (.int .i32 0), (.int .i32 0), (.int .i32 0), (.int .u8 0), (.int .u8 0)]⟩),
   (41, ⟨.slice 33, 1, 24, some [(.slice none 0 0)]⟩),
   (44, ⟨.int .i64, 1, 8, some [(.int .i64 0)]⟩),
   (49, ⟨.struct [(21, 0), (21, 1), (21, 2), (21, 3)], 4, 16, some [(.int .i32 0), (.int .i32 0), (.int .i32 0), (.int .i32 0)]⟩),
   (50, ⟨.struct [(21, 0), (21, 1), (21, 2), (21, 3)], 4, 16, some [(.int .i32 0), (.int .i32 0), (.int .i32 0), (.int .i32 0)]⟩),
   (55, ⟨.ptr 24, 1, 8, some [(.pointer none)]⟩),
   (59, ⟨.ptr 30, 1, 8, some [(.pointer none)]⟩),
   (63, ⟨.arr 2 21, 2, 8, some [(.int .i32 0), (.int .i32 0)]⟩),
   (64, ⟨.arr 7 63, 14, 56, some [(.int .i32 0), (.int .i32 0), (.int .i32 0), (.int .i32 0), (.int .i32 0), (.int .i32 0), (.int .i32 0), (.int .i32 0), (.int .i32 0), (.int .i32 0), (.int .i32 0), (.int .i32 0), (.int .i32 0), (.int .i32 0)]⟩),
   (65, ⟨.arr 6 63, 12, 48, some [(.int .i32 0), (.int .i32 0), (.int .i32 0), (.int .i32 0), (.int .i32 0), (.int .i32 0), (.int .i32 0), (.int .i32 0), (.int .i32 0), (.int .i32 0), (.int .i32 0), (.int .i32 0)]⟩),
   (67, ⟨.slice 21, 1, 24, some [(.slice none 0 0)]⟩),
   (69, ⟨.slice 63, 1, 24, some [(.slice none 0 0)]⟩),
   (77, ⟨.struct [(2, 0), (2, 1)], 2, 16, some [(.int .i64 0), (.int .i64 0)]⟩),
   (78, ⟨.struct [(2, 0), (2, 1)], 2, 16, some [(.int .i64 0), (.int .i64 0)]⟩),
   (85, ⟨.struct [(22, 0)], 1, 8, some [(.int .u64 0)]⟩),
   (86, ⟨.struct [(22, 0)], 1, 8, some [(.int .u64 0)]⟩),
   (99, ⟨.int .u64, 1, 8, some [(.int .u64 0)]⟩),
   (118, ⟨.int .u32, 1, 4, some [(.int .u32 0)]⟩),
   (122, ⟨.ptr 5, 1, 8, some [(.pointer none)]⟩)]

theorem tok2 : TOk Tryd.prog 2 ⟨.int .i64, 1, 8, some [(.int .i64 0)]⟩ := ⟨⟨_, Tryd.underlying2, rfl⟩, Tryd.sizeOf2, fun w => ⟨_, Tryd.typeInfo2 w, rfl⟩, fun z hz w => by cases hz; exact ⟨_, Tryd.zeroValue2 w, rfl⟩⟩
theorem tok3 : TOk Tryd.prog 3 ⟨.int .i64, 1, 8, some [(.int .i64 0)]⟩ := ⟨⟨_, Tryd.underlying3, rfl⟩, Tryd.sizeOf3, fun w => ⟨_, Tryd.typeInfo3 w, rfl⟩, fun z hz w => by cases hz; exact ⟨_, Tryd.zeroValue3 w, rfl⟩⟩
theorem tok4 : TOk Tryd.prog 4 ⟨.bool, 1, 1, some [(.bool false)]⟩ := ⟨⟨_, Tryd.underlying4, rfl⟩, Tryd.sizeOf4, fun w => ⟨_, Tryd.typeInfo4 w, rfl⟩, fun z hz w => by cases hz; exact ⟨_, Tryd.zeroValue4 w, rfl⟩⟩
theorem tok5 : TOk Tryd.prog 5 ⟨.int .u8, 1, 1, some [(.int .u8 0)]⟩ := ⟨⟨_, Tryd.underlying5, rfl⟩, Tryd.sizeOf5, fun w => ⟨_, Tryd.typeInfo5 w, rfl⟩, fun z hz w => by cases hz; exact ⟨_, Tryd.zeroValue5 w, rfl⟩⟩
theorem tok9 : TOk Tryd.prog 9 ⟨.str, 1, 16, some [(.string ByteArray.empty)]⟩ := ⟨⟨_, Tryd.underlying9, rfl⟩, Tryd.sizeOf9, fun w => ⟨_, Tryd.typeInfo9 w, rfl⟩, fun z hz w => by cases hz; exact ⟨_, Tryd.zeroValue9 w, rfl⟩⟩
theorem tok12 : TOk Tryd.prog 12 ⟨.int .u64, 1, 8, some [(.int .u64 0)]⟩ := ⟨⟨_, Tryd.underlying12, rfl⟩, Tryd.sizeOf12, fun w => ⟨_, Tryd.typeInfo12 w, rfl⟩, fun z hz w => by cases hz; exact ⟨_, Tryd.zeroValue12 w, rfl⟩⟩
theorem tok21 : TOk Tryd.prog 21 ⟨.int .i32, 1, 4, some [(.int .i32 0)]⟩ := ⟨⟨_, Tryd.underlying21, rfl⟩, Tryd.sizeOf21, fun w => ⟨_, Tryd.typeInfo21 w, rfl⟩, fun z hz w => by cases hz; exact ⟨_, Tryd.zeroValue21 w, rfl⟩⟩
theorem tok22 : TOk Tryd.prog 22 ⟨.int .u64, 1, 8, some [(.int .u64 0)]⟩ := ⟨⟨_, Tryd.underlying22, rfl⟩, Tryd.sizeOf22, fun w => ⟨_, Tryd.typeInfo22 w, rfl⟩, fun z hz w => by cases hz; exact ⟨_, Tryd.zeroValue22 w, rfl⟩⟩
theorem tok23 : TOk Tryd.prog 23 ⟨.struct [(21, 0), (21, 1), (21, 2), (21, 3), (5, 4), (5, 5), (5, 6)], 7, 20, some [(.int .i32 0), (.int .i32 0), (.int .i32 0), (.int .i32 0), (.int .u8 0), (.int .u8 0), (.int .u8 0)]⟩ := ⟨⟨_, Tryd.underlying23, ⟨_, rfl, rfl⟩⟩, Tryd.sizeOf23, fun w => ⟨_, Tryd.typeInfo23 w, rfl⟩, fun z hz w => by cases hz; exact ⟨_, Tryd.zeroValue23 w, rfl⟩⟩
theorem tok24 : TOk Tryd.prog 24 ⟨.struct [(21, 0), (21, 1), (21, 2), (21, 3), (5, 4), (5, 5), (5, 6)], 7, 20, some [(.int .i32 0), (.int .i32 0), (.int .i32 0), (.int .i32 0), (.int .u8 0), (.int .u8 0), (.int .u8 0)]⟩ := ⟨⟨_, Tryd.underlying24, ⟨_, rfl, rfl⟩⟩, Tryd.sizeOf24, fun w => ⟨_, Tryd.typeInfo24 w, rfl⟩, fun z hz w => by cases hz; exact ⟨_, Tryd.zeroValue24 w, rfl⟩⟩
theorem tok25 : TOk Tryd.prog 25 ⟨.arr 2 24, 14, 40, some [(.int .i32 0), (.int .i32 0), (.int .i32 0), (.int .i32 0), (.int .u8 0), (.int .u8 0), (.int .u8 0), (.int .i32 0), (.int .i32 0), (.int .i32 0), (.int .i32 0), (.int .u8 0), (.int .u8 0), (.int .u8 0)]⟩ := ⟨⟨_, Tryd.underlying25, rfl⟩, Tryd.sizeOf25, fun w => ⟨_, Tryd.typeInfo25 w, rfl⟩, fun z hz w => by cases hz; exact ⟨_, Tryd.zeroValue25 w, rfl⟩⟩
theorem tok26 : TOk Tryd.prog 26 ⟨.slice 39, 1, 24, some [(.slice none 0 0)]⟩ := ⟨⟨_, Tryd.underlying26, rfl⟩, Tryd.sizeOf26, fun w => ⟨_, Tryd.typeInfo26 w, rfl⟩, fun z hz w => by cases hz; exact ⟨_, Tryd.zeroValue26 w, rfl⟩⟩
theorem tok27 : TOk Tryd.prog 27 ⟨.int .u16, 1, 2, some [(.int .u16 0)]⟩ := ⟨⟨_, Tryd.underlying27, rfl⟩, Tryd.sizeOf27, fun w => ⟨_, Tryd.typeInfo27 w, rfl⟩, fun z hz w => by cases hz; exact ⟨_, Tryd.zeroValue27 w, rfl⟩⟩
theorem tok28 : TOk Tryd.prog 28 ⟨.arr 2 27, 2, 4, some [(.int .u16 0), (.int .u16 0)]⟩ := ⟨⟨_, Tryd.underlying28, rfl⟩, Tryd.sizeOf28, fun w => ⟨_, Tryd.typeInfo28 w, rfl⟩, fun z hz w => by cases hz; exact ⟨_, Tryd.zeroValue28 w, rfl⟩⟩
theorem tok29 : TOk Tryd.prog 29 ⟨.struct [(22, 0), (22, 1), (25, 2), (26, 16), (28, 17)], 19, 88, some [(.int .u64 0), (.int .u64 0), (.int .i32 0), (.int .i32 0), (.int .i32 0), (.int .i32 0), (.int .u8 0), (.int .u8 0), (.int .u8 0), (.int .i32 0), (.int .i32 0), (.int .i32 0), (.int .i32 0), (.int .u8 0), (.int .u8 0), (.int .u8 0), (.slice none 0 0), (.int .u16 0), (.int .u16 0)]⟩ := ⟨⟨_, Tryd.underlying29, ⟨_, rfl, rfl⟩⟩, Tryd.sizeOf29, fun w => ⟨_, Tryd.typeInfo29 w, rfl⟩, fun z hz w => by cases hz; exact ⟨_, Tryd.zeroValue29 w, rfl⟩⟩
theorem tok30 : TOk Tryd.prog 30 ⟨.struct [(22, 0), (22, 1), (25, 2), (26, 16), (28, 17)], 19, 88, some [(.int .u64 0), (.int .u64 0), (.int .i32 0), (.int .i32 0), (.int .i32 0), (.int .i32 0), (.int .u8 0), (.int .u8 0), (.int .u8 0), (.int .i32 0), (.int .i32 0), (.int .i32 0), (.int .i32 0), (.int .u8 0), (.int .u8 0), (.int .u8 0), (.slice none 0 0), (.int .u16 0), (.int .u16 0)]⟩ := ⟨⟨_, Tryd.underlying30, ⟨_, rfl, rfl⟩⟩, Tryd.sizeOf30, fun w => ⟨_, Tryd.typeInfo30 w, rfl⟩, fun z hz w => by cases hz; exact ⟨_, Tryd.zeroValue30 w, rfl⟩⟩
theorem tok31 : TOk Tryd.prog 31 ⟨.int .u8, 1, 1, some [(.int .u8 0)]⟩ := ⟨⟨_, Tryd.underlying31, rfl⟩, Tryd.sizeOf31, fun w => ⟨_, Tryd.typeInfo31 w, rfl⟩, fun z hz w => by cases hz; exact ⟨_, Tryd.zeroValue31 w, rfl⟩⟩
theorem tok32 : TOk Tryd.prog 32 ⟨.arr 2 31, 2, 2, some [(.int .u8 0), (.int .u8 0)]⟩ := ⟨⟨_, Tryd.underlying32, rfl⟩, Tryd.sizeOf32, fun w => ⟨_, Tryd.typeInfo32 w, rfl⟩, fun z hz w => by cases hz; exact ⟨_, Tryd.zeroValue32 w, rfl⟩⟩
theorem tok33 : TOk Tryd.prog 33 ⟨.arr 2 31, 2, 2, some [(.int .u8 0), (.int .u8 0)]⟩ := ⟨⟨_, Tryd.underlying33, rfl⟩, Tryd.sizeOf33, fun w => ⟨_, Tryd.typeInfo33 w, rfl⟩, fun z hz w => by cases hz; exact ⟨_, Tryd.zeroValue33 w, rfl⟩⟩
theorem tok38 : TOk Tryd.prog 38 ⟨.struct [(21, 0), (21, 1), (21, 2), (21, 3), (5, 4), (5, 5)], 6, 20, some [(.int .i32 0), (.int .i32 0), (.int .i32 0), (.int .i32 0), (.int .u8 0), (.int .u8 0)]⟩ := ⟨⟨_, Tryd.underlying38, ⟨_, rfl, rfl⟩⟩, Tryd.sizeOf38, fun w => ⟨_, Tryd.typeInfo38 w, rfl⟩, fun z hz w => by cases hz; exact ⟨_, Tryd.zeroValue38 w, rfl⟩⟩
theorem tok39 : TOk Tryd.prog 39 ⟨.struct [(21, 0), (21, 1), (21, 2), (21, 3), (5, 4), (5, 5)], 6, 20, some [(.int .i32 0), (.int .i32 0), (.int .i32 0), (.int .i32 0), (.int .u8 0), (.int .u8 0)]⟩ := ⟨⟨_, Tryd.underlying39, ⟨_, rfl, rfl⟩⟩, Tryd.sizeOf39, fun w => ⟨_, Tryd.typeInfo39 w, rfl⟩, fun z hz w => by cases hz; exact ⟨_, Tryd.zeroValue39 w, rfl⟩⟩
theorem tok41 : TOk Tryd.prog 41 ⟨.slice 33, 1, 24, some [(.slice none 0 0)]⟩ := ⟨⟨_, Tryd.underlying41, rfl⟩, Tryd.sizeOf41, fun w => ⟨_, Tryd.typeInfo41 w, rfl⟩, fun z hz w => by cases hz; exact ⟨_, Tryd.zeroValue41 w, rfl⟩⟩
theorem tok44 : TOk Tryd.prog 44 ⟨.int .i64, 1, 8, some [(.int .i64 0)]⟩ := ⟨⟨_, Tryd.underlying44, rfl⟩, Tryd.sizeOf44, fun w => ⟨_, Tryd.typeInfo44 w, rfl⟩, fun z hz w => by cases hz; exact ⟨_, Tryd.zeroValue44 w, rfl⟩⟩
theorem tok49 : TOk Tryd.prog 49 ⟨.struct [(21, 0), (21, 1), (21, 2), (21, 3)], 4, 16, some [(.int .i32 0), (.int .i32 0), (.int .i32 0), (.int .i32 0)]⟩ := ⟨⟨_, Tryd.underlying49, ⟨_, rfl, rfl⟩⟩, Tryd.sizeOf49, fun w => ⟨_, Tryd.typeInfo49 w, rfl⟩, fun z hz w => by cases hz; exact ⟨_, Tryd.zeroValue49 w, rfl⟩⟩
theorem tok50 : TOk Tryd.prog 50 ⟨.struct [(21, 0), (21, 1), (21, 2), (21, 3)], 4, 16, some [(.int .i32 0), (.int .i32 0), (.int .i32 0), (.int .i32 0)]⟩ := ⟨⟨_, Tryd.underlying50, ⟨_, rfl, rfl⟩⟩, Tryd.sizeOf50, fun w => ⟨_, Tryd.typeInfo50 w, rfl⟩, fun z hz w => by cases hz; exact ⟨_, Tryd.zeroValue50 w, rfl⟩⟩
theorem tok55 : TOk Tryd.prog 55 ⟨.ptr 24, 1, 8, some [(.pointer none)]⟩ := ⟨⟨_, Tryd.underlying55, rfl⟩, Tryd.sizeOf55, fun w => ⟨_, Tryd.typeInfo55 w, rfl⟩, fun z hz w => by cases hz; exact ⟨_, Tryd.zeroValue55 w, rfl⟩⟩
theorem tok59 : TOk Tryd.prog 59 ⟨.ptr 30, 1, 8, some [(.pointer none)]⟩ := ⟨⟨_, Tryd.underlying59, rfl⟩, Tryd.sizeOf59, fun w => ⟨_, Tryd.typeInfo59 w, rfl⟩, fun z hz w => by cases hz; exact ⟨_, Tryd.zeroValue59 w, rfl⟩⟩
theorem tok63 : TOk Tryd.prog 63 ⟨.arr 2 21, 2, 8, some [(.int .i32 0), (.int .i32 0)]⟩ := ⟨⟨_, Tryd.underlying63, rfl⟩, Tryd.sizeOf63, fun w => ⟨_, Tryd.typeInfo63 w, rfl⟩, fun z hz w => by cases hz; exact ⟨_, Tryd.zeroValue63 w, rfl⟩⟩
theorem tok64 : TOk Tryd.prog 64 ⟨.arr 7 63, 14, 56, some [(.int .i32 0), (.int .i32 0), (.int .i32 0), (.int .i32 0), (.int .i32 0), (.int .i32 0), (.int .i32 0), (.int .i32 0), (.int .i32 0), (.int .i32 0), (.int .i32 0), (.int .i32 0), (.int .i32 0), (.int .i32 0)]⟩ := ⟨⟨_, Tryd.underlying64, rfl⟩, Tryd.sizeOf64, fun w => ⟨_, Tryd.typeInfo64 w, rfl⟩, fun z hz w => by cases hz; exact ⟨_, Tryd.zeroValue64 w, rfl⟩⟩
theorem tok65 : TOk Tryd.prog 65 ⟨.arr 6 63, 12, 48, some [(.int .i32 0), (.int .i32 0), (.int .i32 0), (.int .i32 0), (.int .i32 0), (.int .i32 0), (.int .i32 0), (.int .i32 0), (.int .i32 0), (.int .i32 0), (.int .i32 0), (.int .i32 0)]⟩ := ⟨⟨_, Tryd.underlying65, rfl⟩, Tryd.sizeOf65, fun w => ⟨_, Tryd.typeInfo65 w, rfl⟩, fun z hz w => by cases hz; exact ⟨_, Tryd.zeroValue65 w, rfl⟩⟩
theorem tok67 : TOk Tryd.prog 67 ⟨.slice 21, 1, 24, some [(.slice none 0 0)]⟩ := ⟨⟨_, Tryd.underlying67, rfl⟩, Tryd.sizeOf67, fun w => ⟨_, Tryd.typeInfo67 w, rfl⟩, fun z hz w => by cases hz; exact ⟨_, Tryd.zeroValue67 w, rfl⟩⟩
theorem tok69 : TOk Tryd.prog 69 ⟨.slice 63, 1, 24, some [(.slice none 0 0)]⟩ := ⟨⟨_, Tryd.underlying69, rfl⟩, Tryd.sizeOf69, fun w => ⟨_, Tryd.typeInfo69 w, rfl⟩, fun z hz w => by cases hz; exact ⟨_, Tryd.zeroValue69 w, rfl⟩⟩
theorem tok77 : TOk Tryd.prog 77 ⟨.struct [(2, 0), (2, 1)], 2, 16, some [(.int .i64 0), (.int .i64 0)]⟩ := ⟨⟨_, Tryd.underlying77, ⟨_, rfl, rfl⟩⟩, Tryd.sizeOf77, fun w => ⟨_, Tryd.typeInfo77 w, rfl⟩, fun z hz w => by cases hz; exact ⟨_, Tryd.zeroValue77 w, rfl⟩⟩
theorem tok78 : TOk Tryd.prog 78 ⟨.struct [(2, 0), (2, 1)], 2, 16, some [(.int .i64 0), (.int .i64 0)]⟩ := ⟨⟨_, Tryd.underlying78, ⟨_, rfl, rfl⟩⟩, Tryd.sizeOf78, fun w => ⟨_, Tryd.typeInfo78 w, rfl⟩, fun z hz w => by cases hz; exact ⟨_, Tryd.zeroValue78 w, rfl⟩⟩
theorem tok85 : TOk Tryd.prog 85 ⟨.struct [(22, 0)], 1, 8, some [(.int .u64 0)]⟩ := ⟨⟨_, Tryd.underlying85, ⟨_, rfl, rfl⟩⟩, Tryd.sizeOf85, fun w => ⟨_, Tryd.typeInfo85 w, rfl⟩, fun z hz w => by cases hz; exact ⟨_, Tryd.zeroValue85 w, rfl⟩⟩
theorem tok86 : TOk Tryd.prog 86 ⟨.struct [(22, 0)], 1, 8, some [(.int .u64 0)]⟩ := ⟨⟨_, Tryd.underlying86, ⟨_, rfl, rfl⟩⟩, Tryd.sizeOf86, fun w => ⟨_, Tryd.typeInfo86 w, rfl⟩, fun z hz w => by cases hz; exact ⟨_, Tryd.zeroValue86 w, rfl⟩⟩
theorem tok99 : TOk Tryd.prog 99 ⟨.int .u64, 1, 8, some [(.int .u64 0)]⟩ := ⟨⟨_, Tryd.underlying99, rfl⟩, Tryd.sizeOf99, fun w => ⟨_, Tryd.typeInfo99 w, rfl⟩, fun z hz w => by cases hz; exact ⟨_, Tryd.zeroValue99 w, rfl⟩⟩
theorem tok118 : TOk Tryd.prog 118 ⟨.int .u32, 1, 4, some [(.int .u32 0)]⟩ := ⟨⟨_, Tryd.underlying118, rfl⟩, Tryd.sizeOf118, fun w => ⟨_, Tryd.typeInfo118 w, rfl⟩, fun z hz w => by cases hz; exact ⟨_, Tryd.zeroValue118 w, rfl⟩⟩
theorem tok122 : TOk Tryd.prog 122 ⟨.ptr 5, 1, 8, some [(.pointer none)]⟩ := ⟨⟨_, Tryd.underlying122, rfl⟩, Tryd.sizeOf122, fun w => ⟨_, Tryd.typeInfo122 w, rfl⟩, fun z hz w => by cases hz; exact ⟨_, Tryd.zeroValue122 w, rfl⟩⟩
theorem ctt_ok : CTabOk Tryd.prog TT := by
  intro x hx
  simp only [TT, List.mem_cons, List.not_mem_nil, or_false] at hx
  rcases hx with rfl | rfl | rfl | rfl | rfl | rfl | rfl | rfl | rfl | rfl | rfl | rfl | rfl | rfl | rfl | rfl | rfl | rfl | rfl | rfl | rfl | rfl | rfl | rfl | rfl | rfl | rfl | rfl | rfl | rfl | rfl | rfl | rfl | rfl | rfl | rfl | rfl | rfl | rfl
  · exact ⟨by kernel_rfl, by kernel_rfl⟩
  · exact ⟨by kernel_rfl, by kernel_rfl⟩
  · exact ⟨by kernel_rfl, by kernel_rfl⟩
  · exact ⟨by kernel_rfl, by kernel_rfl⟩
  · exact ⟨by kernel_rfl, by kernel_rfl⟩
  · exact ⟨by kernel_rfl, by kernel_rfl⟩
  · exact ⟨by kernel_rfl, by kernel_rfl⟩
  · exact ⟨by kernel_rfl, by kernel_rfl⟩
  · exact ⟨by kernel_rfl, by kernel_rfl⟩
  · exact ⟨by kernel_rfl, by kernel_rfl⟩
  · exact ⟨by kernel_rfl, by kernel_rfl⟩
  · exact ⟨by kernel_rfl, by kernel_rfl⟩
  · exact ⟨by kernel_rfl, by kernel_rfl⟩
  · exact ⟨by kernel_rfl, by kernel_rfl⟩
  · exact ⟨by kernel_rfl, by kernel_rfl⟩
  · exact ⟨by kernel_rfl, by kernel_rfl⟩
  · exact ⟨by kernel_rfl, by kernel_rfl⟩
  · exact ⟨by kernel_rfl, by kernel_rfl⟩
  · exact ⟨by kernel_rfl, by kernel_rfl⟩
  · exact ⟨by kernel_rfl, by kernel_rfl⟩
  · exact ⟨by kernel_rfl, by kernel_rfl⟩
  · exact ⟨by kernel_rfl, by kernel_rfl⟩
  · exact ⟨by kernel_rfl, by kernel_rfl⟩
  · exact ⟨by kernel_rfl, by kernel_rfl⟩
  · exact ⟨by kernel_rfl, by kernel_rfl⟩
  · exact ⟨by kernel_rfl, by kernel_rfl⟩
  · exact ⟨by kernel_rfl, by kernel_rfl⟩
  · exact ⟨by kernel_rfl, by kernel_rfl⟩
  · exact ⟨by kernel_rfl, by kernel_rfl⟩
  · exact ⟨by kernel_rfl, by kernel_rfl⟩
  · exact ⟨by kernel_rfl, by kernel_rfl⟩
  · exact ⟨by kernel_rfl, by kernel_rfl⟩
  · exact ⟨by kernel_rfl, by kernel_rfl⟩
  · exact ⟨by kernel_rfl, by kernel_rfl⟩
  · exact ⟨by kernel_rfl, by kernel_rfl⟩
  · exact ⟨by kernel_rfl, by kernel_rfl⟩
  · exact ⟨by kernel_rfl, by kernel_rfl⟩
  · exact ⟨by kernel_rfl, by kernel_rfl⟩
  · exact ⟨by kernel_rfl, by kernel_rfl⟩
theorem tt_closed : structsIn TT TT = true := by kernel_rfl
theorem tt_ok : TabOk Tryd.prog TT := by
  intro x hx
  simp only [TT, List.mem_cons, List.not_mem_nil, or_false] at hx
  rcases hx with rfl | rfl | rfl | rfl | rfl | rfl | rfl | rfl | rfl | rfl | rfl | rfl | rfl | rfl | rfl | rfl | rfl | rfl | rfl | rfl | rfl | rfl | rfl | rfl | rfl | rfl | rfl | rfl | rfl | rfl | rfl | rfl | rfl | rfl | rfl | rfl | rfl | rfl | rfl
  · exact tok2
  · exact tok3
  · exact tok4
  · exact tok5
  · exact tok9
  · exact tok12
  · exact tok21
  · exact tok22
  · exact tok23
  · exact tok24
  · exact tok25
  · exact tok26
  · exact tok27
  · exact tok28
  · exact tok29
  · exact tok30
  · exact tok31
  · exact tok32
  · exact tok33
  · exact tok38
  · exact tok39
  · exact tok41
  · exact tok44
  · exact tok49
  · exact tok50
  · exact tok55
  · exact tok59
  · exact tok63
  · exact tok64
  · exact tok65
  · exact tok67
  · exact tok69
  · exact tok77
  · exact tok78
  · exact tok85
  · exact tok86
  · exact tok99
  · exact tok118
  · exact tok122
theorem tt_eq : eqOkB Tryd.prog TT = true := by kernel_rfl
theorem tt_one : oneB TT = true := by kernel_rfl


end Go.Proofs.YtgbhpchaalheeaaDoor
