/- The program's types in a table of the engine's kind, each row proved against the program. -/
import Derived.Test.YtbbkblolaficdaaDoorProg
import Derived.Test.YtbbkblolaficdaaDoorEng2
import Derived.KernelRfl
namespace Go.Proofs.YtbbkblolaficdaaDoor
open Go.Proofs.YtbbkblolaficdaaDoor.Eng Go.RowKit

def TT : List (Nat × TI) :=
  [(2, ⟨.int .i64, 1, 8, some [(.int .i64 0)]⟩),
   (3, ⟨.int .i64, 1, 8, some [(.int .i64 0)]⟩),
   (4, ⟨.bool, 1, 1, some [(.bool false)]⟩),
   (5, ⟨.int .u8, 1, 1, some [(.int .u8 0)]⟩),
   (9, ⟨.str, 1, 16, some [(.string ByteArray.empty)]⟩),
   (12, ⟨.int .u64, 1, 8, some [(.int .u64 0)]⟩),
   (21, ⟨.int .i32, 1, 4, some [(.int .i32 0)]⟩),
   (22, ⟨.int .u64, 1, 8, some [(.int .u64 0)]⟩),
   (23, ⟨.struct [(21, 0), (21, 1), (21, 2), (21, 3), (5, 4), (5, 5), (5, 6)], 7, 20, some [(.int .i32 0), (.int .i32 0), (.int .i32 0), (.int .i32 0), (.int .u8 0), (.int .u8 0), (.int .u8 0)]⟩),
   (24, ⟨.struct [(21, 0), (21, 1), (21, 2), (21, 3), (5, 4), (5, 5), (5, 6)], 7, 20, some [(.int .i32 0), (.int .i32 0), (.int .i32 0), (.int .i32 0), (.int .u8 0), (.int .u8 0), (.int .u8 0)]⟩),
   (25, ⟨.arr 2 24, 14, 40, some [(.int .i32 0), (.int .i32 0), (.int .i32 0), (.int .i32 0), (.int .u8 0), (.int .u8 0), (.int .u8 0), (.int .i32 0), (.int .i32 0), (.int .i32 0), (.int .i32 0), (.int .u8 0), (.int .u8 0), (.int .u8 0)]⟩),
   (26, ⟨.slice 76, 1, 24, some [(.slice none 0 0)]⟩),
   (27, ⟨.int .u16, 1, 2, some [(.int .u16 0)]⟩),
   (28, ⟨.arr 2 27, 2, 4, some [(.int .u16 0), (.int .u16 0)]⟩),
   (29, ⟨.struct [(22, 0), (22, 1), (25, 2), (26, 16), (28, 17)], 19, 88, some [(.int .u64 0), (.int .u64 0), (.int .i32 0), (.int .i32 0), (.int .i32 0), (.int .i32 0), (.int .u8 0), (.int .u8 0), (.int .u8 0), (.int .i32 0), (.int .i32 0), (.int .i32 0), (.int .i32 0), (.int .u8 0), (.int .u8 0), (.int .u8 0), (.slice none 0 0), (.int .u16 0), (.int .u16 0)]⟩),
   (30, ⟨.struct [(22, 0), (22, 1), (25, 2), (26, 16), (28, 17)], 19, 88, some [(.int .u64 0), (.int .u64 0), (.int .i32 0), (.int .i32 0), (.int .i32 0), (.int .i32 0), (.int .u8 0), (.int .u8 0), (.int .u8 0), (.int .i32 0), (.int .i32 0), (.int .i32 0), (.int .i32 0), (.int .u8 0), (.int .u8 0), (.int .u8 0), (.slice none 0 0), (.int .u16 0), (.int .u16 0)]⟩),
   (31, ⟨.slice 40, 1, 24, some [(.slice none 0 0)]⟩),
   (32, ⟨.ptr 66, 1, 8, some [(.pointer none)]⟩),
   (35, ⟨.int .i64, 1, 8, some [(.int .i64 0)]⟩),
   (37, ⟨.slice 30, 1, 24, some [(.slice none 0 0)]⟩),
   (38, ⟨.int .u8, 1, 1, some [(.int .u8 0)]⟩),
   (39, ⟨.arr 2 38, 2, 2, some [(.int .u8 0), (.int .u8 0)]⟩),
   (40, ⟨.arr 2 38, 2, 2, some [(.int .u8 0), (.int .u8 0)]⟩),
   (50, ⟨.slice 58, 1, 24, some [(.slice none 0 0)]⟩),
   (53, ⟨.ptr 55, 1, 8, some [(.pointer none)]⟩),
   (54, ⟨.struct [(3, 0), (37, 1)], 2, 32, some [(.int .i64 0), (.slice none 0 0)]⟩),
   (55, ⟨.struct [(3, 0), (37, 1)], 2, 32, some [(.int .i64 0), (.slice none 0 0)]⟩),
   (57, ⟨.struct [(5, 0), (30, 1), (22, 20)], 21, 104, some [(.int .u8 0), (.int .u64 0), (.int .u64 0), (.int .i32 0), (.int .i32 0), (.int .i32 0), (.int .i32 0), (.int .u8 0), (.int .u8 0), (.int .u8 0), (.int .i32 0), (.int .i32 0), (.int .i32 0), (.int .i32 0), (.int .u8 0), (.int .u8 0), (.int .u8 0), (.slice none 0 0), (.int .u16 0), (.int .u16 0), (.int .u64 0)]⟩),
   (58, ⟨.struct [(5, 0), (30, 1), (22, 20)], 21, 104, some [(.int .u8 0), (.int .u64 0), (.int .u64 0), (.int .i32 0), (.int .i32 0), (.int .i32 0), (.int .i32 0), (.int .u8 0), (.int .u8 0), (.int .u8 0), (.int .i32 0), (.int .i32 0), (.int .i32 0), (.int .i32 0), (.int .u8 0), (.int .u8 0), (.int .u8 0), (.slice none 0 0), (.int .u16 0), (.int .u16 0), (.int .u64 0)]⟩),
   (62, ⟨.struct [(30, 0), (4, 19)], 20, 96, some [(.int .u64 0), (.int .u64 0), (.int .i32 0), (.int .i32 0), (.int .i32 0), (.int .i32 0), (.int .u8 0), (.int .u8 0), (.int .u8 0), (.int .i32 0), (.int .i32 0), (.int .i32 0), (.int .i32 0), (.int .u8 0), (.int .u8 0), (.int .u8 0), (.slice none 0 0), (.int .u16 0), (.int .u16 0), (.bool false)]⟩),
   (63, ⟨.struct [(30, 0), (4, 19)], 20, 96, some [(.int .u64 0), (.int .u64 0), (.int .i32 0), (.int .i32 0), (.int .i32 0), (.int .i32 0), (.int .u8 0), (.int .u8 0), (.int .u8 0), (.int .i32 0), (.int .i32 0), (.int .i32 0), (.int .i32 0), (.int .u8 0), (.int .u8 0), (.int .u8 0), (.slice none 0 0), (.int .u16 0), (.int .u16 0), (.bool false)]⟩),
   (64, ⟨.arr 14 63, 280, 1344, none⟩),
   (65, ⟨.struct [(3, 0), (64, 1)], 281, 1352, some (([(.int .i64 0)] ++ repO 14 [(.int .u64 0), (.int .u64 0), (.int .i32 0), (.int .i32 0), (.int .i32 0), (.int .i32 0), (.int .u8 0), (.int .u8 0), (.int .u8 0), (.int .i32 0), (.int .i32 0), (.int .i32 0), (.int .i32 0), (.int .u8 0), (.int .u8 0), (.int .u8 0), (.slice none 0 0), (.int .u16 0), (.int .u16 0), (.bool false)]))⟩),
   (66, ⟨.struct [(3, 0), (64, 1)], 281, 1352, some (([(.int .i64 0)] ++ repO 14 [(.int .u64 0), (.int .u64 0), (.int .i32 0), (.int .i32 0), (.int .i32 0), (.int .i32 0), (.int .u8 0), (.int .u8 0), (.int .u8 0), (.int .i32 0), (.int .i32 0), (.int .i32 0), (.int .i32 0), (.int .u8 0), (.int .u8 0), (.int .u8 0), (.slice none 0 0), (.int .u16 0), (.int .u16 0), (.bool false)]))⟩),
   (67, ⟨.arr 2 21, 2, 8, some [(.int .i32 0), (.int .i32 0)]⟩),
   (68, ⟨.arr 7 67, 14, 56, some [(.int .i32 0), (.int .i32 0), (.int .i32 0), (.int .i32 0), (.int .i32 0), (.int .i32 0), (.int .i32 0), (.int .i32 0), (.int .i32 0), (.int .i32 0), (.int .i32 0), (.int .i32 0), (.int .i32 0), (.int .i32 0)]⟩),
   (69, ⟨.arr 6 67, 12, 48, some [(.int .i32 0), (.int .i32 0), (.int .i32 0), (.int .i32 0), (.int .i32 0), (.int .i32 0), (.int .i32 0), (.int .i32 0), (.int .i32 0), (.int .i32 0), (.int .i32 0), (.int .i32 0)]⟩),
   (71, ⟨.slice 21, 1, 24, some [(.slice none 0 0)]⟩),
   (73, ⟨.slice 67, 1, 24, some [(.slice none 0 0)]⟩),
   (75, ⟨.struct [(21, 0), (21, 1), (21, 2), (21, 3), (5, 4), (5, 5)], 6, 20, some [(.int .i32 0), (.int .i32 0), (.int .i32 0), (.int .i32 0), (.int .u8 0), (.int .u8 0)]⟩),
   (76, ⟨.struct [(21, 0), (21, 1), (21, 2), (21, 3), (5, 4), (5, 5)], 6, 20, some [(.int .i32 0), (.int .i32 0), (.int .i32 0), (.int .i32 0), (.int .u8 0), (.int .u8 0)]⟩),
   (82, ⟨.ptr 24, 1, 8, some [(.pointer none)]⟩),
   (86, ⟨.struct [(21, 0), (21, 1), (21, 2), (21, 3)], 4, 16, some [(.int .i32 0), (.int .i32 0), (.int .i32 0), (.int .i32 0)]⟩),
   (87, ⟨.struct [(21, 0), (21, 1), (21, 2), (21, 3)], 4, 16, some [(.int .i32 0), (.int .i32 0), (.int .i32 0), (.int .i32 0)]⟩),
   (90, ⟨.ptr 30, 1, 8, some [(.pointer none)]⟩),
   (92, ⟨.ptr 63, 1, 8, some [(.pointer none)]⟩),
   (94, ⟨.slice 63, 1, 24, some [(.slice none 0 0)]⟩),
   (108, ⟨.struct [(2, 0), (2, 1)], 2, 16, some [(.int .i64 0), (.int .i64 0)]⟩),
   (109, ⟨.struct [(2, 0), (2, 1)], 2, 16, some [(.int .i64 0), (.int .i64 0)]⟩),
   (110, ⟨.struct [(22, 0)], 1, 8, some [(.int .u64 0)]⟩),
   (111, ⟨.struct [(22, 0)], 1, 8, some [(.int .u64 0)]⟩),
   (121, ⟨.int .u64, 1, 8, some [(.int .u64 0)]⟩),
   (132, ⟨.int .u32, 1, 4, some [(.int .u32 0)]⟩),
   (136, ⟨.ptr 5, 1, 8, some [(.pointer none)]⟩)]

theorem tok2 : TOk Tryd.prog 2 ⟨.int .i64, 1, 8, some [(.int .i64 0)]⟩ := ⟨⟨_, Tryd.underlying2, rfl⟩, Tryd.sizeOf2, fun w => ⟨_, Tryd.typeInfo2 w, rfl⟩, fun z hz w => by cases hz; exact ⟨_, Tryd.zeroValue2 w, rfl⟩⟩
theorem tok3 : TOk Tryd.prog 3 ⟨.int .i64, 1, 8, some [(.int .i64 0)]⟩ := ⟨⟨_, Tryd.underlying3, rfl⟩, Tryd.sizeOf3, fun w => ⟨_, Tryd.typeInfo3 w, rfl⟩, fun z hz w => by cases hz; exact ⟨_, Tryd.zeroValue3 w, rfl⟩⟩
theorem tok4 : TOk Tryd.prog 4 ⟨.bool, 1, 1, some [(.bool false)]⟩ := ⟨⟨_, Tryd.underlying4, rfl⟩, Tryd.sizeOf4, fun w => ⟨_, Tryd.typeInfo4 w, rfl⟩, fun z hz w => by cases hz; exact ⟨_, Tryd.zeroValue4 w, rfl⟩⟩
theorem tok5 : TOk Tryd.prog 5 ⟨.int .u8, 1, 1, some [(.int .u8 0)]⟩ := ⟨⟨_, Tryd.underlying5, rfl⟩, Tryd.sizeOf5, fun w => ⟨_, Tryd.typeInfo5 w, rfl⟩, fun z hz w => by cases hz; exact ⟨_, Tryd.zeroValue5 w, rfl⟩⟩
theorem tok9 : TOk Tryd.prog 9 ⟨.str, 1, 16, some [(.string ByteArray.empty)]⟩ := ⟨⟨_, Tryd.underlying9, rfl⟩, Tryd.sizeOf9, fun w => ⟨_, Tryd.typeInfo9 w, rfl⟩, fun z hz w => by cases hz; exact ⟨_, Tryd.zeroValue9 w, rfl⟩⟩
theorem tok12 : TOk Tryd.prog 12 ⟨.int .u64, 1, 8, some [(.int .u64 0)]⟩ := ⟨⟨_, Tryd.underlying12, rfl⟩, Tryd.sizeOf12, fun w => ⟨_, Tryd.typeInfo12 w, rfl⟩, fun z hz w => by cases hz; exact ⟨_, Tryd.zeroValue12 w, rfl⟩⟩
theorem tok21 : TOk Tryd.prog 21 ⟨.int .i32, 1, 4, some [(.int .i32 0)]⟩ := ⟨⟨_, Tryd.underlying21, rfl⟩, Tryd.sizeOf21, fun w => ⟨_, Tryd.typeInfo21 w, rfl⟩, fun z hz w => by cases hz; exact ⟨_, Tryd.zeroValue21 w, rfl⟩⟩
theorem tok22 : TOk Tryd.prog 22 ⟨.int .u64, 1, 8, some [(.int .u64 0)]⟩ := ⟨⟨_, Tryd.underlying22, rfl⟩, Tryd.sizeOf22, fun w => ⟨_, Tryd.typeInfo22 w, rfl⟩, fun z hz w => by cases hz; exact ⟨_, Tryd.zeroValue22 w, rfl⟩⟩
theorem tok23 : TOk Tryd.prog 23 ⟨.struct [(21, 0), (21, 1), (21, 2), (21, 3), (5, 4), (5, 5), (5, 6)], 7, 20, some [(.int .i32 0), (.int .i32 0), (.int .i32 0), (.int .i32 0), (.int .u8 0), (.int .u8 0), (.int .u8 0)]⟩ := ⟨⟨_, Tryd.underlying23, ⟨_, rfl, rfl⟩⟩, Tryd.sizeOf23, fun w => ⟨_, Tryd.typeInfo23 w, rfl⟩, fun z hz w => by cases hz; exact ⟨_, Tryd.zeroValue23 w, rfl⟩⟩
theorem tok24 : TOk Tryd.prog 24 ⟨.struct [(21, 0), (21, 1), (21, 2), (21, 3), (5, 4), (5, 5), (5, 6)], 7, 20, some [(.int .i32 0), (.int .i32 0), (.int .i32 0), (.int .i32 0), (.int .u8 0), (.int .u8 0), (.int .u8 0)]⟩ := ⟨⟨_, Tryd.underlying24, ⟨_, rfl, rfl⟩⟩, Tryd.sizeOf24, fun w => ⟨_, Tryd.typeInfo24 w, rfl⟩, fun z hz w => by cases hz; exact ⟨_, Tryd.zeroValue24 w, rfl⟩⟩
theorem tok25 : TOk Tryd.prog 25 ⟨.arr 2 24, 14, 40, some [(.int .i32 0), (.int .i32 0), (.int .i32 0), (.int .i32 0), (.int .u8 0), (.int .u8 0), (.int .u8 0), (.int .i32 0), (.int .i32 0), (.int .i32 0), (.int .i32 0), (.int .u8 0), (.int .u8 0), (.int .u8 0)]⟩ := ⟨⟨_, Tryd.underlying25, rfl⟩, Tryd.sizeOf25, fun w => ⟨_, Tryd.typeInfo25 w, rfl⟩, fun z hz w => by cases hz; exact ⟨_, Tryd.zeroValue25 w, rfl⟩⟩
theorem tok26 : TOk Tryd.prog 26 ⟨.slice 76, 1, 24, some [(.slice none 0 0)]⟩ := ⟨⟨_, Tryd.underlying26, rfl⟩, Tryd.sizeOf26, fun w => ⟨_, Tryd.typeInfo26 w, rfl⟩, fun z hz w => by cases hz; exact ⟨_, Tryd.zeroValue26 w, rfl⟩⟩
theorem tok27 : TOk Tryd.prog 27 ⟨.int .u16, 1, 2, some [(.int .u16 0)]⟩ := ⟨⟨_, Tryd.underlying27, rfl⟩, Tryd.sizeOf27, fun w => ⟨_, Tryd.typeInfo27 w, rfl⟩, fun z hz w => by cases hz; exact ⟨_, Tryd.zeroValue27 w, rfl⟩⟩
theorem tok28 : TOk Tryd.prog 28 ⟨.arr 2 27, 2, 4, some [(.int .u16 0), (.int .u16 0)]⟩ := ⟨⟨_, Tryd.underlying28, rfl⟩, Tryd.sizeOf28, fun w => ⟨_, Tryd.typeInfo28 w, rfl⟩, fun z hz w => by cases hz; exact ⟨_, Tryd.zeroValue28 w, rfl⟩⟩
theorem tok29 : TOk Tryd.prog 29 ⟨.struct [(22, 0), (22, 1), (25, 2), (26, 16), (28, 17)], 19, 88, some [(.int .u64 0), (.int .u64 0), (.int .i32 0), (.int .i32 0), (.int .i32 0), (.int .i32 0), (.int .u8 0), (.int .u8 0), (.int .u8 0), (.int .i32 0), (.int .i32 0), (.int .i32 0), (.int .i32 0), (.int .u8 0), (.int .u8 0), (.int .u8 0), (.slice none 0 0), (.int .u16 0), (.int .u16 0)]⟩ := ⟨⟨_, Tryd.underlying29, ⟨_, rfl, rfl⟩⟩, Tryd.sizeOf29, fun w => ⟨_, Tryd.typeInfo29 w, rfl⟩, fun z hz w => by cases hz; exact ⟨_, Tryd.zeroValue29 w, rfl⟩⟩
theorem tok30 : TOk Tryd.prog 30 ⟨.struct [(22, 0), (22, 1), (25, 2), (26, 16), (28, 17)], 19, 88, some [(.int .u64 0), (.int .u64 0), (.int .i32 0), (.int .i32 0), (.int .i32 0), (.int .i32 0), (.int .u8 0), (.int .u8 0), (.int .u8 0), (.int .i32 0), (.int .i32 0), (.int .i32 0), (.int .i32 0), (.int .u8 0), (.int .u8 0), (.int .u8 0), (.slice none 0 0), (.int .u16 0), (.int .u16 0)]⟩ := ⟨⟨_, Tryd.underlying30, ⟨_, rfl, rfl⟩⟩, Tryd.sizeOf30, fun w => ⟨_, Tryd.typeInfo30 w, rfl⟩, fun z hz w => by cases hz; exact ⟨_, Tryd.zeroValue30 w, rfl⟩⟩
theorem tok31 : TOk Tryd.prog 31 ⟨.slice 40, 1, 24, some [(.slice none 0 0)]⟩ := ⟨⟨_, Tryd.underlying31, rfl⟩, Tryd.sizeOf31, fun w => ⟨_, Tryd.typeInfo31 w, rfl⟩, fun z hz w => by cases hz; exact ⟨_, Tryd.zeroValue31 w, rfl⟩⟩
theorem tok32 : TOk Tryd.prog 32 ⟨.ptr 66, 1, 8, some [(.pointer none)]⟩ := ⟨⟨_, Tryd.underlying32, rfl⟩, Tryd.sizeOf32, fun w => ⟨_, Tryd.typeInfo32 w, rfl⟩, fun z hz w => by cases hz; exact ⟨_, Tryd.zeroValue32 w, rfl⟩⟩
theorem tok35 : TOk Tryd.prog 35 ⟨.int .i64, 1, 8, some [(.int .i64 0)]⟩ := ⟨⟨_, Tryd.underlying35, rfl⟩, Tryd.sizeOf35, fun w => ⟨_, Tryd.typeInfo35 w, rfl⟩, fun z hz w => by cases hz; exact ⟨_, Tryd.zeroValue35 w, rfl⟩⟩
theorem tok37 : TOk Tryd.prog 37 ⟨.slice 30, 1, 24, some [(.slice none 0 0)]⟩ := ⟨⟨_, Tryd.underlying37, rfl⟩, Tryd.sizeOf37, fun w => ⟨_, Tryd.typeInfo37 w, rfl⟩, fun z hz w => by cases hz; exact ⟨_, Tryd.zeroValue37 w, rfl⟩⟩
theorem tok38 : TOk Tryd.prog 38 ⟨.int .u8, 1, 1, some [(.int .u8 0)]⟩ := ⟨⟨_, Tryd.underlying38, rfl⟩, Tryd.sizeOf38, fun w => ⟨_, Tryd.typeInfo38 w, rfl⟩, fun z hz w => by cases hz; exact ⟨_, Tryd.zeroValue38 w, rfl⟩⟩
theorem tok39 : TOk Tryd.prog 39 ⟨.arr 2 38, 2, 2, some [(.int .u8 0), (.int .u8 0)]⟩ := ⟨⟨_, Tryd.underlying39, rfl⟩, Tryd.sizeOf39, fun w => ⟨_, Tryd.typeInfo39 w, rfl⟩, fun z hz w => by cases hz; exact ⟨_, Tryd.zeroValue39 w, rfl⟩⟩
theorem tok40 : TOk Tryd.prog 40 ⟨.arr 2 38, 2, 2, some [(.int .u8 0), (.int .u8 0)]⟩ := ⟨⟨_, Tryd.underlying40, rfl⟩, Tryd.sizeOf40, fun w => ⟨_, Tryd.typeInfo40 w, rfl⟩, fun z hz w => by cases hz; exact ⟨_, Tryd.zeroValue40 w, rfl⟩⟩
theorem tok50 : TOk Tryd.prog 50 ⟨.slice 58, 1, 24, some [(.slice none 0 0)]⟩ := ⟨⟨_, Tryd.underlying50, rfl⟩, Tryd.sizeOf50, fun w => ⟨_, Tryd.typeInfo50 w, rfl⟩, fun z hz w => by cases hz; exact ⟨_, Tryd.zeroValue50 w, rfl⟩⟩
theorem tok53 : TOk Tryd.prog 53 ⟨.ptr 55, 1, 8, some [(.pointer none)]⟩ := ⟨⟨_, Tryd.underlying53, rfl⟩, Tryd.sizeOf53, fun w => ⟨_, Tryd.typeInfo53 w, rfl⟩, fun z hz w => by cases hz; exact ⟨_, Tryd.zeroValue53 w, rfl⟩⟩
theorem tok54 : TOk Tryd.prog 54 ⟨.struct [(3, 0), (37, 1)], 2, 32, some [(.int .i64 0), (.slice none 0 0)]⟩ := ⟨⟨_, Tryd.underlying54, ⟨_, rfl, rfl⟩⟩, Tryd.sizeOf54, fun w => ⟨_, Tryd.typeInfo54 w, rfl⟩, fun z hz w => by cases hz; exact ⟨_, Tryd.zeroValue54 w, rfl⟩⟩
theorem tok55 : TOk Tryd.prog 55 ⟨.struct [(3, 0), (37, 1)], 2, 32, some [(.int .i64 0), (.slice none 0 0)]⟩ := ⟨⟨_, Tryd.underlying55, ⟨_, rfl, rfl⟩⟩, Tryd.sizeOf55, fun w => ⟨_, Tryd.typeInfo55 w, rfl⟩, fun z hz w => by cases hz; exact ⟨_, Tryd.zeroValue55 w, rfl⟩⟩
theorem tok57 : TOk Tryd.prog 57 ⟨.struct [(5, 0), (30, 1), (22, 20)], 21, 104, some [(.int .u8 0), (.int .u64 0), (.int .u64 0), (.int .i32 0), (.int .i32 0), (.int .i32 0), (.int .i32 0), (.int .u8 0), (.int .u8 0), (.int .u8 0), (.int .i32 0), (.int .i32 0), (.int .i32 0), (.int .i32 0), (.int .u8 0), (.int .u8 0), (.int .u8 0), (.slice none 0 0), (.int .u16 0), (.int .u16 0), (.int .u64 0)]⟩ := ⟨⟨_, Tryd.underlying57, ⟨_, rfl, rfl⟩⟩, Tryd.sizeOf57, fun w => ⟨_, Tryd.typeInfo57 w, rfl⟩, fun z hz w => by cases hz; exact ⟨_, Tryd.zeroValue57 w, rfl⟩⟩
theorem tok58 : TOk Tryd.prog 58 ⟨.struct [(5, 0), (30, 1), (22, 20)], 21, 104, some [(.int .u8 0), (.int .u64 0), (.int .u64 0), (.int .i32 0), (.int .i32 0), (.int .i32 0), (.int .i32 0), (.int .u8 0), (.int .u8 0), (.int .u8 0), (.int .i32 0), (.int .i32 0), (.int .i32 0), (.int .i32 0), (.int .u8 0), (.int .u8 0), (.int .u8 0), (.slice none 0 0), (.int .u16 0), (.int .u16 0), (.int .u64 0)]⟩ := ⟨⟨_, Tryd.underlying58, ⟨_, rfl, rfl⟩⟩, Tryd.sizeOf58, fun w => ⟨_, Tryd.typeInfo58 w, rfl⟩, fun z hz w => by cases hz; exact ⟨_, Tryd.zeroValue58 w, rfl⟩⟩
theorem tok62 : TOk Tryd.prog 62 ⟨.struct [(30, 0), (4, 19)], 20, 96, some [(.int .u64 0), (.int .u64 0), (.int .i32 0), (.int .i32 0), (.int .i32 0), (.int .i32 0), (.int .u8 0), (.int .u8 0), (.int .u8 0), (.int .i32 0), (.int .i32 0), (.int .i32 0), (.int .i32 0), (.int .u8 0), (.int .u8 0), (.int .u8 0), (.slice none 0 0), (.int .u16 0), (.int .u16 0), (.bool false)]⟩ := ⟨⟨_, Tryd.underlying62, ⟨_, rfl, rfl⟩⟩, Tryd.sizeOf62, fun w => ⟨_, Tryd.typeInfo62 w, rfl⟩, fun z hz w => by cases hz; exact ⟨_, Tryd.zeroValue62 w, rfl⟩⟩
theorem tok63 : TOk Tryd.prog 63 ⟨.struct [(30, 0), (4, 19)], 20, 96, some [(.int .u64 0), (.int .u64 0), (.int .i32 0), (.int .i32 0), (.int .i32 0), (.int .i32 0), (.int .u8 0), (.int .u8 0), (.int .u8 0), (.int .i32 0), (.int .i32 0), (.int .i32 0), (.int .i32 0), (.int .u8 0), (.int .u8 0), (.int .u8 0), (.slice none 0 0), (.int .u16 0), (.int .u16 0), (.bool false)]⟩ := ⟨⟨_, Tryd.underlying63, ⟨_, rfl, rfl⟩⟩, Tryd.sizeOf63, fun w => ⟨_, Tryd.typeInfo63 w, rfl⟩, fun z hz w => by cases hz; exact ⟨_, Tryd.zeroValue63 w, rfl⟩⟩
theorem tok64 : TOk Tryd.prog 64 ⟨.arr 14 63, 280, 1344, none⟩ := ⟨⟨_, Tryd.underlying64, rfl⟩, Tryd.sizeOf64, fun w => ⟨_, Tryd.typeInfo64 w, rfl⟩, fun z hz w => by cases hz⟩
theorem tok65 : TOk Tryd.prog 65 ⟨.struct [(3, 0), (64, 1)], 281, 1352, some (([(.int .i64 0)] ++ repO 14 [(.int .u64 0), (.int .u64 0), (.int .i32 0), (.int .i32 0), (.int .i32 0), (.int .i32 0), (.int .u8 0), (.int .u8 0), (.int .u8 0), (.int .i32 0), (.int .i32 0), (.int .i32 0), (.int .i32 0), (.int .u8 0), (.int .u8 0), (.int .u8 0), (.slice none 0 0), (.int .u16 0), (.int .u16 0), (.bool false)]))⟩ := ⟨⟨_, Tryd.underlying65, ⟨_, rfl, rfl⟩⟩, Tryd.sizeOf65, fun w => ⟨_, Tryd.typeInfo65 w, rfl⟩, fun z hz w => by cases hz; exact ⟨_, Tryd.zeroValue65 w, by kernel_rfl⟩⟩
theorem tok66 : TOk Tryd.prog 66 ⟨.struct [(3, 0), (64, 1)], 281, 1352, some (([(.int .i64 0)] ++ repO 14 [(.int .u64 0), (.int .u64 0), (.int .i32 0), (.int .i32 0), (.int .i32 0), (.int .i32 0), (.int .u8 0), (.int .u8 0), (.int .u8 0), (.int .i32 0), (.int .i32 0), (.int .i32 0), (.int .i32 0), (.int .u8 0), (.int .u8 0), (.int .u8 0), (.slice none 0 0), (.int .u16 0), (.int .u16 0), (.bool false)]))⟩ := ⟨⟨_, Tryd.underlying66, ⟨_, rfl, rfl⟩⟩, Tryd.sizeOf66, fun w => ⟨_, Tryd.typeInfo66 w, rfl⟩, fun z hz w => by cases hz; exact ⟨_, Tryd.zeroValue66 w, by kernel_rfl⟩⟩
theorem tok67 : TOk Tryd.prog 67 ⟨.arr 2 21, 2, 8, some [(.int .i32 0), (.int .i32 0)]⟩ := ⟨⟨_, Tryd.underlying67, rfl⟩, Tryd.sizeOf67, fun w => ⟨_, Tryd.typeInfo67 w, rfl⟩, fun z hz w => by cases hz; exact ⟨_, Tryd.zeroValue67 w, rfl⟩⟩
theorem tok68 : TOk Tryd.prog 68 ⟨.arr 7 67, 14, 56, some [(.int .i32 0), (.int .i32 0), (.int .i32 0), (.int .i32 0), (.int .i32 0), (.int .i32 0), (.int .i32 0), (.int .i32 0), (.int .i32 0), (.int .i32 0), (.int .i32 0), (.int .i32 0), (.int .i32 0), (.int .i32 0)]⟩ := ⟨⟨_, Tryd.underlying68, rfl⟩, Tryd.sizeOf68, fun w => ⟨_, Tryd.typeInfo68 w, rfl⟩, fun z hz w => by cases hz; exact ⟨_, Tryd.zeroValue68 w, rfl⟩⟩
theorem tok69 : TOk Tryd.prog 69 ⟨.arr 6 67, 12, 48, some [(.int .i32 0), (.int .i32 0), (.int .i32 0), (.int .i32 0), (.int .i32 0), (.int .i32 0), (.int .i32 0), (.int .i32 0), (.int .i32 0), (.int .i32 0), (.int .i32 0), (.int .i32 0)]⟩ := ⟨⟨_, Tryd.underlying69, rfl⟩, Tryd.sizeOf69, fun w => ⟨_, Tryd.typeInfo69 w, rfl⟩, fun z hz w => by cases hz; exact ⟨_, Tryd.zeroValue69 w, rfl⟩⟩
theorem tok71 : TOk Tryd.prog 71 ⟨.slice 21, 1, 24, some [(.slice none 0 0)]⟩ := ⟨⟨_, Tryd.underlying71, rfl⟩, Tryd.sizeOf71, fun w => ⟨_, Tryd.typeInfo71 w, rfl⟩, fun z hz w => by cases hz; exact ⟨_, Tryd.zeroValue71 w, rfl⟩⟩
theorem tok73 : TOk Tryd.prog 73 ⟨.slice 67, 1, 24, some [(.slice none 0 0)]⟩ := ⟨⟨_, Tryd.underlying73, rfl⟩, Tryd.sizeOf73, fun w => ⟨_, Tryd.typeInfo73 w, rfl⟩, fun z hz w => by cases hz; exact ⟨_, Tryd.zeroValue73 w, rfl⟩⟩
theorem tok75 : TOk Tryd.prog 75 ⟨.struct [(21, 0), (21, 1), (21, 2), (21, 3), (5, 4), (5, 5)], 6, 20, some [(.int .i32 0), (.int .i32 0), (.int .i32 0), (.int .i32 0), (.int .u8 0), (.int .u8 0)]⟩ := ⟨⟨_, Tryd.underlying75, ⟨_, rfl, rfl⟩⟩, Tryd.sizeOf75, fun w => ⟨_, Tryd.typeInfo75 w, rfl⟩, fun z hz w => by cases hz; exact ⟨_, Tryd.zeroValue75 w, rfl⟩⟩
theorem tok76 : TOk Tryd.prog 76 ⟨.struct [(21, 0), (21, 1), (21, 2), (21, 3), (5, 4), (5, 5)], 6, 20, some [(.int .i32 0), (.int .i32 0), (.int .i32 0), (.int .i32 0), (.int .u8 0), (.int .u8 0)]⟩ := ⟨⟨_, Tryd.underlying76, ⟨_, rfl, rfl⟩⟩, Tryd.sizeOf76, fun w => ⟨_, Tryd.typeInfo76 w, rfl⟩, fun z hz w => by cases hz; exact ⟨_, Tryd.zeroValue76 w, rfl⟩⟩
theorem tok82 : TOk Tryd.prog 82 ⟨.ptr 24, 1, 8, some [(.pointer none)]⟩ := ⟨⟨_, Tryd.underlying82, rfl⟩, Tryd.sizeOf82, fun w => ⟨_, Tryd.typeInfo82 w, rfl⟩, fun z hz w => by cases hz; exact ⟨_, Tryd.zeroValue82 w, rfl⟩⟩
theorem tok86 : TOk Tryd.prog 86 ⟨.struct [(21, 0), (21, 1), (21, 2), (21, 3)], 4, 16, some [(.int .i32 0), (.int .i32 0), (.int .i32 0), (.int .i32 0)]⟩ := ⟨⟨_, Tryd.underlying86, ⟨_, rfl, rfl⟩⟩, Tryd.sizeOf86, fun w => ⟨_, Tryd.typeInfo86 w, rfl⟩, fun z hz w => by cases hz; exact ⟨_, Tryd.zeroValue86 w, rfl⟩⟩
theorem tok87 : TOk Tryd.prog 87 ⟨.struct [(21, 0), (21, 1), (21, 2), (21, 3)], 4, 16, some [(.int .i32 0), (.int .i32 0), (.int .i32 0), (.int .i32 0)]⟩ := ⟨⟨_, Tryd.underlying87, ⟨_, rfl, rfl⟩⟩, Tryd.sizeOf87, fun w => ⟨_, Tryd.typeInfo87 w, rfl⟩, fun z hz w => by cases hz; exact ⟨_, Tryd.zeroValue87 w, rfl⟩⟩
theorem tok90 : TOk Tryd.prog 90 ⟨.ptr 30, 1, 8, some [(.pointer none)]⟩ := ⟨⟨_, Tryd.underlying90, rfl⟩, Tryd.sizeOf90, fun w => ⟨_, Tryd.typeInfo90 w, rfl⟩, fun z hz w => by cases hz; exact ⟨_, Tryd.zeroValue90 w, rfl⟩⟩
theorem tok92 : TOk Tryd.prog 92 ⟨.ptr 63, 1, 8, some [(.pointer none)]⟩ := ⟨⟨_, Tryd.underlying92, rfl⟩, Tryd.sizeOf92, fun w => ⟨_, Tryd.typeInfo92 w, rfl⟩, fun z hz w => by cases hz; exact ⟨_, Tryd.zeroValue92 w, rfl⟩⟩
theorem tok94 : TOk Tryd.prog 94 ⟨.slice 63, 1, 24, some [(.slice none 0 0)]⟩ := ⟨⟨_, Tryd.underlying94, rfl⟩, Tryd.sizeOf94, fun w => ⟨_, Tryd.typeInfo94 w, rfl⟩, fun z hz w => by cases hz; exact ⟨_, Tryd.zeroValue94 w, rfl⟩⟩
theorem tok108 : TOk Tryd.prog 108 ⟨.struct [(2, 0), (2, 1)], 2, 16, some [(.int .i64 0), (.int .i64 0)]⟩ := ⟨⟨_, Tryd.underlying108, ⟨_, rfl, rfl⟩⟩, Tryd.sizeOf108, fun w => ⟨_, Tryd.typeInfo108 w, rfl⟩, fun z hz w => by cases hz; exact ⟨_, Tryd.zeroValue108 w, rfl⟩⟩
theorem tok109 : TOk Tryd.prog 109 ⟨.struct [(2, 0), (2, 1)], 2, 16, some [(.int .i64 0), (.int .i64 0)]⟩ := ⟨⟨_, Tryd.underlying109, ⟨_, rfl, rfl⟩⟩, Tryd.sizeOf109, fun w => ⟨_, Tryd.typeInfo109 w, rfl⟩, fun z hz w => by cases hz; exact ⟨_, Tryd.zeroValue109 w, rfl⟩⟩
theorem tok110 : TOk Tryd.prog 110 ⟨.struct [(22, 0)], 1, 8, some [(.int .u64 0)]⟩ := ⟨⟨_, Tryd.underlying110, ⟨_, rfl, rfl⟩⟩, Tryd.sizeOf110, fun w => ⟨_, Tryd.typeInfo110 w, rfl⟩, fun z hz w => by cases hz; exact ⟨_, Tryd.zeroValue110 w, rfl⟩⟩
theorem tok111 : TOk Tryd.prog 111 ⟨.struct [(22, 0)], 1, 8, some [(.int .u64 0)]⟩ := ⟨⟨_, Tryd.underlying111, ⟨_, rfl, rfl⟩⟩, Tryd.sizeOf111, fun w => ⟨_, Tryd.typeInfo111 w, rfl⟩, fun z hz w => by cases hz; exact ⟨_, Tryd.zeroValue111 w, rfl⟩⟩
theorem tok121 : TOk Tryd.prog 121 ⟨.int .u64, 1, 8, some [(.int .u64 0)]⟩ := ⟨⟨_, Tryd.underlying121, rfl⟩, Tryd.sizeOf121, fun w => ⟨_, Tryd.typeInfo121 w, rfl⟩, fun z hz w => by cases hz; exact ⟨_, Tryd.zeroValue121 w, rfl⟩⟩
theorem tok132 : TOk Tryd.prog 132 ⟨.int .u32, 1, 4, some [(.int .u32 0)]⟩ := ⟨⟨_, Tryd.underlying132, rfl⟩, Tryd.sizeOf132, fun w => ⟨_, Tryd.typeInfo132 w, rfl⟩, fun z hz w => by cases hz; exact ⟨_, Tryd.zeroValue132 w, rfl⟩⟩
theorem tok136 : TOk Tryd.prog 136 ⟨.ptr 5, 1, 8, some [(.pointer none)]⟩ := ⟨⟨_, Tryd.underlying136, rfl⟩, Tryd.sizeOf136, fun w => ⟨_, Tryd.typeInfo136 w, rfl⟩, fun z hz w => by cases hz; exact ⟨_, Tryd.zeroValue136 w, rfl⟩⟩
theorem ctt_ok : CTabOk Tryd.prog TT := by
  intro x hx
  simp only [TT, List.mem_cons, List.not_mem_nil, or_false] at hx
  rcases hx with rfl | rfl | rfl | rfl | rfl | rfl | rfl | rfl | rfl | rfl | rfl | rfl | rfl | rfl | rfl | rfl | rfl | rfl | rfl | rfl | rfl | rfl | rfl | rfl | rfl | rfl | rfl | rfl | rfl | rfl | rfl | rfl | rfl | rfl | rfl | rfl | rfl | rfl | rfl | rfl | rfl | rfl | rfl | rfl | rfl | rfl | rfl | rfl | rfl | rfl | rfl | rfl | rfl | rfl
  · exact ⟨by kernel_rfl, by kernel_rfl⟩
  · exact ⟨by kernel_rfl, by kernel_rfl⟩
  · exact ⟨by kernel_rfl, by kernel_rfl⟩
  · exact ⟨by kernel_rfl, by kernel_rfl⟩
  · exact ⟨by kernel_rfl, by kernel_rfl⟩
  · exact ⟨by kernel_rfl, by kernel_rfl⟩
  · exact ⟨by kernel_rfl, by kernel_rfl⟩
  · exact ⟨by kernel_rfl, by kernel_rfl⟩
  · exact ⟨by kernel_rfl, by kernel_rfl⟩
  · exact ⟨by kernel_rfl, by kernel_rfl⟩
  · exact ⟨by kernel_rfl, by kernel_rfl⟩
  · exact ⟨by kernel_rfl, by kernel_rfl⟩
  · exact ⟨by kernel_rfl, by kernel_rfl⟩
  · exact ⟨by kernel_rfl, by kernel_rfl⟩
  · exact ⟨by kernel_rfl, by kernel_rfl⟩
  · exact ⟨by kernel_rfl, by kernel_rfl⟩
  · exact ⟨by kernel_rfl, by kernel_rfl⟩
  · exact ⟨by kernel_rfl, by kernel_rfl⟩
  · exact ⟨by kernel_rfl, by kernel_rfl⟩
  · exact ⟨by kernel_rfl, by kernel_rfl⟩
  · exact ⟨by kernel_rfl, by kernel_rfl⟩
  · exact ⟨by kernel_rfl, by kernel_rfl⟩
  · exact ⟨by kernel_rfl, by kernel_rfl⟩
  · exact ⟨by kernel_rfl, by kernel_rfl⟩
  · exact ⟨by kernel_rfl, by kernel_rfl⟩
  · exact ⟨by kernel_rfl, by kernel_rfl⟩
  · exact ⟨by kernel_rfl, by kernel_rfl⟩
  · exact ⟨by kernel_rfl, by kernel_rfl⟩
  · exact ⟨by kernel_rfl, by kernel_rfl⟩
  · exact ⟨by kernel_rfl, by kernel_rfl⟩
  · exact ⟨by kernel_rfl, by kernel_rfl⟩
  · exact ⟨by kernel_rfl, by kernel_rfl⟩
  · exact ⟨by kernel_rfl, by kernel_rfl⟩
  · exact ⟨by kernel_rfl, by kernel_rfl⟩
  · exact ⟨by kernel_rfl, by kernel_rfl⟩
  · exact ⟨by kernel_rfl, by kernel_rfl⟩
  · exact ⟨by kernel_rfl, by kernel_rfl⟩
  · exact ⟨by kernel_rfl, by kernel_rfl⟩
  · exact ⟨by kernel_rfl, by kernel_rfl⟩
  · exact ⟨by kernel_rfl, by kernel_rfl⟩
  · exact ⟨by kernel_rfl, by kernel_rfl⟩
  · exact ⟨by kernel_rfl, by kernel_rfl⟩
  · exact ⟨by kernel_rfl, by kernel_rfl⟩
  · exact ⟨by kernel_rfl, by kernel_rfl⟩
  · exact ⟨by kernel_rfl, by kernel_rfl⟩
  · exact ⟨by kernel_rfl, by kernel_rfl⟩
  · exact ⟨by kernel_rfl, by kernel_rfl⟩
  · exact ⟨by kernel_rfl, by kernel_rfl⟩
  · exact ⟨by kernel_rfl, by kernel_rfl⟩
  · exact ⟨by kernel_rfl, by kernel_rfl⟩
  · exact ⟨by kernel_rfl, by kernel_rfl⟩
  · exact ⟨by kernel_rfl, by kernel_rfl⟩
  · exact ⟨by kernel_rfl, by kernel_rfl⟩
  · exact ⟨by kernel_rfl, by kernel_rfl⟩
theorem tt_closed : structsIn TT TT = true := by kernel_rfl
theorem tt_ok : TabOk Tryd.prog TT := by
  intro x hx
  simp only [TT, List.mem_cons, List.not_mem_nil, or_false] at hx
  rcases hx with rfl | rfl | rfl | rfl | rfl | rfl | rfl | rfl | rfl | rfl | rfl | rfl | rfl | rfl | rfl | rfl | rfl | rfl | rfl | rfl | rfl | rfl | rfl | rfl | rfl | rfl | rfl | rfl | rfl | rfl | rfl | rfl | rfl | rfl | rfl | rfl | rfl | rfl | rfl | rfl | rfl | rfl | rfl | rfl | rfl | rfl | rfl | rfl | rfl | rfl | rfl | rfl | rfl | rfl
  · exact tok2
  · exact tok3
  · exact tok4
  · exact tok5
  · exact tok9
  · exact tok12
  · exact tok21
  · exact tok22
  · exact tok23
  · exact tok24
  · exact tok25
  · exact tok26
  · exact tok27
  · exact tok28
  · exact tok29
  · exact tok30
  · exact tok31
  · exact tok32
  · exact tok35
  · exact tok37
  · exact tok38
  · exact tok39
  · exact tok40
  · exact tok50
  · exact tok53
  · exact tok54
  · exact tok55
  · exact tok57
  · exact tok58
  · exact tok62
  · exact tok63
  · exact tok64
  · exact tok65
  · exact tok66
  · exact tok67
  · exact tok68
  · exact tok69
  · exact tok71
  · exact tok73
  · exact tok75
  · exact tok76
  · exact tok82
  · exact tok86
  · exact tok87
  · exact tok90
  · exact tok92
  · exact tok94
  · exact tok108
  · exact tok109
  · exact tok110
  · exact tok111
  · exact tok121
  · exact tok132
  · exact tok136
theorem tt_eq : eqOkB Tryd.prog TT = true := by kernel_rfl
theorem tt_one : oneB TT = true := by kernel_rfl


end Go.Proofs.YtbbkblolaficdaaDoor
