/- The program's types in a table of the engine's kind, each row proved against the program. -/
import Derived.Test.YtkekgagekgadmaaGreatDoorProg
import Derived.Test.YtkekgagekgadmaaGreatDoorEng2
import Derived.KernelRfl
namespace Go.Proofs.YtkekgagekgadmaaGreatDoor
open Go.Proofs.YtkekgagekgadmaaGreatDoor.Eng Go.RowKit

def TT : List (Nat × TI) :=
  [(2, ⟨.int .i64, 1, 8, some [(.int .i64 0)]⟩),
   (3, ⟨.int .i64, 1, 8, some [(.int .i64 0)]⟩),
   (4, ⟨.bool, 1, 1, some [(.bool false)]⟩),
   (5, ⟨.int .u8, 1, 1, some [(.int .u8 0)]⟩),
   (9, ⟨.str, 1, 16, some [(.string ByteArray.empty)]⟩),
   (12, ⟨.int .u64, 1, 8, some [(.int .u64 0)]⟩),
   (21, ⟨.int .i32, 1, 4, some [(.int .i32 0)]⟩),
   (22, ⟨.int .u64, 1, 8, some [(.int .u64 0)]⟩),
   (23, ⟨.struct [(21, 0), (21, 1), (21, 2), (21, 3), (5, 4), (5, 5), (5, 6)], 7, 20, some [(.int .i32 0), (.int .i32 0), (.int .i32 0), (.int .i32 0), (.int .u8 0), (.int .u8 0), (.int .u8 0)]⟩),
   (24, ⟨.struct [(21, 0), (21, 1), (21, 2), (21, 3), (5, 4), (5, 5), (5, 6)], 7, 20, some [(.int .i32 0), (.int .i32 0), (.int .i32 0), (.int .i32 0), (.int .u8 0), (.int .u8 0), (.int .u8 0)]⟩),
   (25, ⟨.arr 2 24, 14, 40, some [(.int .i32 0), (.int .i32 0), (.int .i32 0), (.int .i32 0), (.int .u8 0), (.int .u8 0), (.int .u8 0), (.int .i32 0), (.int .i32 0), (.int .i32 0), (.int .i32 0), (.int .u8 0), (.int .u8 0), (.int .u8 0)]⟩),
   (26, ⟨.slice 93, 1, 24, some [(.slice none 0 0)]⟩),
   (27, ⟨.int .u16, 1, 2, some [(.int .u16 0)]⟩),
   (28, ⟨.arr 2 27, 2, 4, some [(.int .u16 0), (.int .u16 0)]⟩),
   (29, ⟨.struct [(22, 0), (22, 1), (25, 2), (26, 16), (28, 17)], 19, 88, some [(.int .u64 0), (.int .u64 0), (.int .i32 0), (.int .i32 0), (.int .i32 0), (.int .i32 0), (.int .u8 0), (.int .u8 0), (.int .u8 0), (.int .i32 0), (.int .i32 0), (.int .i32 0), (.int .i32 0), (.int .u8 0), (.int .u8 0), (.int .u8 0), (.slice none 0 0), (.int .u16 0), (.int .u16 0)]⟩),
   (30, ⟨.struct [(22, 0), (22, 1), (25, 2), (26, 16), (28, 17)], 19, 88, some [(.int .u64 0), (.int .u64 0), (.int .i32 0), (.int .i32 0), (.int .i32 0), (.int .i32 0), (.int .u8 0), (.int .u8 0), (.int .u8 0), (.int .i32 0), (.int .i32 0), (.int .i32 0), (.int .i32 0), (.int .u8 0), (.int .u8 0), (.int .u8 0), (.slice none 0 0), (.int .u16 0), (.int .u16 0)]⟩),
   (31, ⟨.struct [(30, 0), (5, 19), (3, 20)], 21, 104, some [(.int .u64 0), (.int .u64 0), (.int .i32 0), (.int .i32 0), (.int .i32 0), (.int .i32 0), (.int .u8 0), (.int .u8 0), (.int .u8 0), (.int .i32 0), (.int .i32 0), (.int .i32 0), (.int .i32 0), (.int .u8 0), (.int .u8 0), (.int .u8 0), (.slice none 0 0), (.int .u16 0), (.int .u16 0), (.int .u8 0), (.int .i64 0)]⟩),
   (32, ⟨.struct [(30, 0), (5, 19), (3, 20)], 21, 104, some [(.int .u64 0), (.int .u64 0), (.int .i32 0), (.int .i32 0), (.int .i32 0), (.int .i32 0), (.int .u8 0), (.int .u8 0), (.int .u8 0), (.int .i32 0), (.int .i32 0), (.int .i32 0), (.int .i32 0), (.int .u8 0), (.int .u8 0), (.int .u8 0), (.slice none 0 0), (.int .u16 0), (.int .u16 0), (.int .u8 0), (.int .i64 0)]⟩),
   (33, ⟨.slice 42, 1, 24, some [(.slice none 0 0)]⟩),
   (35, ⟨.ptr 64, 1, 8, some [(.pointer none)]⟩),
   (38, ⟨.ptr 70, 1, 8, some [(.pointer none)]⟩),
   (40, ⟨.int .u8, 1, 1, some [(.int .u8 0)]⟩),
   (41, ⟨.struct [(5, 0), (22, 1), (40, 2), (4, 3)], 4, 24, some [(.int .u8 0), (.int .u64 0), (.int .u8 0), (.bool false)]⟩),
   (42, ⟨.struct [(5, 0), (22, 1), (40, 2), (4, 3)], 4, 24, some [(.int .u8 0), (.int .u64 0), (.int .u8 0), (.bool false)]⟩),
   (43, ⟨.int .i64, 1, 8, some [(.int .i64 0)]⟩),
   (48, ⟨.arr 2 40, 2, 2, some [(.int .u8 0), (.int .u8 0)]⟩),
   (49, ⟨.arr 2 40, 2, 2, some [(.int .u8 0), (.int .u8 0)]⟩),
   (58, ⟨.ptr 98, 1, 8, some [(.pointer none)]⟩),
   (60, ⟨.ptr 103, 1, 8, some [(.pointer none)]⟩),
   (62, ⟨.slice 40, 1, 24, some [(.slice none 0 0)]⟩),
   (63, ⟨.struct [(5, 0), (3, 1), (30, 2), (62, 21), (58, 22), (60, 23)], 24, 144, some [(.int .u8 0), (.int .i64 0), (.int .u64 0), (.int .u64 0), (.int .i32 0), (.int .i32 0), (.int .i32 0), (.int .i32 0), (.int .u8 0), (.int .u8 0), (.int .u8 0), (.int .i32 0), (.int .i32 0), (.int .i32 0), (.int .i32 0), (.int .u8 0), (.int .u8 0), (.int .u8 0), (.slice none 0 0), (.int .u16 0), (.int .u16 0), (.slice none 0 0), (.pointer none), (.pointer none)]⟩),
   (64, ⟨.struct [(5, 0), (3, 1), (30, 2), (62, 21), (58, 22), (60, 23)], 24, 144, some [(.int .u8 0), (.int .i64 0), (.int .u64 0), (.int .u64 0), (.int .i32 0), (.int .i32 0), (.int .i32 0), (.int .i32 0), (.int .u8 0), (.int .u8 0), (.int .u8 0), (.int .i32 0), (.int .i32 0), (.int .i32 0), (.int .i32 0), (.int .u8 0), (.int .u8 0), (.int .u8 0), (.slice none 0 0), (.int .u16 0), (.int .u16 0), (.slice none 0 0), (.pointer none), (.pointer none)]⟩),
   (67, ⟨.ptr 108, 1, 8, some [(.pointer none)]⟩),
   (69, ⟨.struct [(5, 0), (3, 1), (30, 2), (62, 21), (67, 22)], 23, 136, some [(.int .u8 0), (.int .i64 0), (.int .u64 0), (.int .u64 0), (.int .i32 0), (.int .i32 0), (.int .i32 0), (.int .i32 0), (.int .u8 0), (.int .u8 0), (.int .u8 0), (.int .i32 0), (.int .i32 0), (.int .i32 0), (.int .i32 0), (.int .u8 0), (.int .u8 0), (.int .u8 0), (.slice none 0 0), (.int .u16 0), (.int .u16 0), (.slice none 0 0), (.pointer none)]⟩),
   (70, ⟨.struct [(5, 0), (3, 1), (30, 2), (62, 21), (67, 22)], 23, 136, some [(.int .u8 0), (.int .i64 0), (.int .u64 0), (.int .u64 0), (.int .i32 0), (.int .i32 0), (.int .i32 0), (.int .i32 0), (.int .u8 0), (.int .u8 0), (.int .u8 0), (.int .i32 0), (.int .i32 0), (.int .i32 0), (.int .i32 0), (.int .u8 0), (.int .u8 0), (.int .u8 0), (.slice none 0 0), (.int .u16 0), (.int .u16 0), (.slice none 0 0), (.pointer none)]⟩),
   (84, ⟨.arr 2 21, 2, 8, some [(.int .i32 0), (.int .i32 0)]⟩),
   (85, ⟨.arr 7 84, 14, 56, some [(.int .i32 0), (.int .i32 0), (.int .i32 0), (.int .i32 0), (.int .i32 0), (.int .i32 0), (.int .i32 0), (.int .i32 0), (.int .i32 0), (.int .i32 0), (.int .i32 0), (.int .i32 0), (.int .i32 0), (.int .i32 0)]⟩),
   (86, ⟨.arr 6 84, 12, 48, some [(.int .i32 0), (.int .i32 0), (.int .i32 0), (.int .i32 0), (.int .i32 0), (.int .i32 0), (.int .i32 0), (.int .i32 0), (.int .i32 0), (.int .i32 0), (.int .i32 0), (.int .i32 0)]⟩),
   (88, ⟨.slice 21, 1, 24, some [(.slice none 0 0)]⟩),
   (90, ⟨.slice 84, 1, 24, some [(.slice none 0 0)]⟩),
   (92, ⟨.struct [(21, 0), (21, 1), (21, 2), (21, 3), (5, 4), (5, 5)], 6, 20, some [(.int .i32 0), (.int .i32 0), (.int .i32 0), (.int .i32 0), (.int .u8 0), (.int .u8 0)]⟩),
   (93, ⟨.struct [(21, 0), (21, 1), (21, 2), (21, 3), (5, 4), (5, 5)], 6, 20, some [(.int .i32 0), (.int .i32 0), (.int .i32 0), (.int .i32 0), (.int .u8 0), (.int .u8 0)]⟩),
   (97, ⟨.struct [(22, 0), (62, 1), (40, 2)], 3, 40, some [(.int .u64 0), (.slice none 0 0), (.int .u8 0)]⟩),
   (98, ⟨.struct [(22, 0), (62, 1), (40, 2)], 3, 40, some [(.int .u64 0), (.slice none 0 0), (.int .u8 0)]⟩),
   (99, ⟨.struct [(30, 0), (4, 19)], 20, 96, some [(.int .u64 0), (.int .u64 0), (.int .i32 0), (.int .i32 0), (.int .i32 0), (.int .i32 0), (.int .u8 0), (.int .u8 0), (.int .u8 0), (.int .i32 0), (.int .i32 0), (.int .i32 0), (.int .i32 0), (.int .u8 0), (.int .u8 0), (.int .u8 0), (.slice none 0 0), (.int .u16 0), (.int .u16 0), (.bool false)]⟩),
   (100, ⟨.struct [(30, 0), (4, 19)], 20, 96, some [(.int .u64 0), (.int .u64 0), (.int .i32 0), (.int .i32 0), (.int .i32 0), (.int .i32 0), (.int .u8 0), (.int .u8 0), (.int .u8 0), (.int .i32 0), (.int .i32 0), (.int .i32 0), (.int .i32 0), (.int .u8 0), (.int .u8 0), (.int .u8 0), (.slice none 0 0), (.int .u16 0), (.int .u16 0), (.bool false)]⟩),
   (101, ⟨.arr 14 100, 280, 1344, none⟩),
   (102, ⟨.struct [(3, 0), (101, 1)], 281, 1352, some (([(.int .i64 0)] ++ repO 14 [(.int .u64 0), (.int .u64 0), (.int .i32 0), (.int .i32 0), (.int .i32 0), (.int .i32 0), (.int .u8 0), (.int .u8 0), (.int .u8 0), (.int .i32 0), (.int .i32 0), (.int .i32 0), (.int .i32 0), (.int .u8 0), (.int .u8 0), (.int .u8 0), (.slice none 0 0), (.int .u16 0), (.int .u16 0), (.bool false)]))⟩),
   (103, ⟨.struct [(3, 0), (101, 1)], 281, 1352, some (([(.int .i64 0)] ++ repO 14 [(.int .u64 0), (.int .u64 0), (.int .i32 0), (.int .i32 0), (.int .i32 0), (.int .i32 0), (.int .u8 0), (.int .u8 0), (.int .u8 0), (.int .i32 0), (.int .i32 0), (.int .i32 0), (.int .i32 0), (.int .u8 0), (.int .u8 0), (.int .u8 0), (.slice none 0 0), (.int .u16 0), (.int .u16 0), (.bool false)]))⟩),
   (104, ⟨.ptr 100, 1, 8, some [(.pointer none)]⟩),
   (107, ⟨.struct [(22, 0), (22, 1), (62, 2)], 3, 40, some [(.int .u64 0), (.int .u64 0), (.slice none 0 0)]⟩),
   (108, ⟨.struct [(22, 0), (22, 1), (62, 2)], 3, 40, some [(.int .u64 0), (.int .u64 0), (.slice none 0 0)]⟩),
   (113, ⟨.ptr 24, 1, 8, some [(.pointer none)]⟩),
   (117, ⟨.struct [(21, 0), (21, 1), (21, 2), (21, 3)], 4, 16, some [(.int .i32 0), (.int .i32 0), (.int .i32 0), (.int .i32 0)]⟩),
   (118, ⟨.struct [(21, 0), (21, 1), (21, 2), (21, 3)], 4, 16, some [(.int .i32 0), (.int .i32 0), (.int .i32 0), (.int .i32 0)]⟩),
   (121, ⟨.ptr 30, 1, 8, some [(.pointer none)]⟩),
   (124, ⟨.slice 100, 1, 24, some [(.slice none 0 0)]⟩),
   (136, ⟨.struct [(2, 0), (2, 1)], 2, 16, some [(.int .i64 0), (.int .i64 0)]⟩),
   (137, ⟨.struct [(2, 0), (2, 1)], 2, 16, some [(.int .i64 0), (.int .i64 0)]⟩),
   (138, ⟨.struct [(22, 0)], 1, 8, some [(.int .u64 0)]⟩),
   (139, ⟨.struct [(22, 0)], 1, 8, some [(.int .u64 0)]⟩),
   (150, ⟨.int .u64, 1, 8, some [(.int .u64 0)]⟩),
   (167, ⟨.int .u32, 1, 4, some [(.int .u32 0)]⟩),
   (171, ⟨.ptr 5, 1, 8, some [(.pointer none)]⟩)]

theorem tok2 : TOk Tryz.prog 2 ⟨.int .i64, 1, 8, some [(.int .i64 0)]⟩ := ⟨⟨_, Tryz.underlying2, rfl⟩, Tryz.sizeOf2, fun w => ⟨_, Tryz.typeInfo2 w, rfl⟩, fun z hz w => by cases hz; exact ⟨_, Tryz.zeroValue2 w, rfl⟩⟩
theorem tok3 : TOk Tryz.prog 3 ⟨.int .i64, 1, 8, some [(.int .i64 0)]⟩ := ⟨⟨_, Tryz.underlying3, rfl⟩, Tryz.sizeOf3, fun w => ⟨_, Tryz.typeInfo3 w, rfl⟩, fun z hz w => by cases hz; exact ⟨_, Tryz.zeroValue3 w, rfl⟩⟩
theorem tok4 : TOk Tryz.prog 4 ⟨.bool, 1, 1, some [(.bool false)]⟩ := ⟨⟨_, Tryz.underlying4, rfl⟩, Tryz.sizeOf4, fun w => ⟨_, Tryz.typeInfo4 w, rfl⟩, fun z hz w => by cases hz; exact ⟨_, Tryz.zeroValue4 w, rfl⟩⟩
theorem tok5 : TOk Tryz.prog 5 ⟨.int .u8, 1, 1, some [(.int .u8 0)]⟩ := ⟨⟨_, Tryz.underlying5, rfl⟩, Tryz.sizeOf5, fun w => ⟨_, Tryz.typeInfo5 w, rfl⟩, fun z hz w => by cases hz; exact ⟨_, Tryz.zeroValue5 w, rfl⟩⟩
theorem tok9 : TOk Tryz.prog 9 ⟨.str, 1, 16, some [(.string ByteArray.empty)]⟩ := ⟨⟨_, Tryz.underlying9, rfl⟩, Tryz.sizeOf9, fun w => ⟨_, Tryz.typeInfo9 w, rfl⟩, fun z hz w => by cases hz; exact ⟨_, Tryz.zeroValue9 w, rfl⟩⟩
theorem tok12 : TOk Tryz.prog 12 ⟨.int .u64, 1, 8, some [(.int .u64 0)]⟩ := ⟨⟨_, Tryz.underlying12, rfl⟩, Tryz.sizeOf12, fun w => ⟨_, Tryz.typeInfo12 w, rfl⟩, fun z hz w => by cases hz; exact ⟨_, Tryz.zeroValue12 w, rfl⟩⟩
theorem tok21 : TOk Tryz.prog 21 ⟨.int .i32, 1, 4, some [(.int .i32 0)]⟩ := ⟨⟨_, Tryz.underlying21, rfl⟩, Tryz.sizeOf21, fun w => ⟨_, Tryz.typeInfo21 w, rfl⟩, fun z hz w => by cases hz; exact ⟨_, Tryz.zeroValue21 w, rfl⟩⟩
theorem tok22 : TOk Tryz.prog 22 ⟨.int .u64, 1, 8, some [(.int .u64 0)]⟩ := ⟨⟨_, Tryz.underlying22, rfl⟩, Tryz.sizeOf22, fun w => ⟨_, Tryz.typeInfo22 w, rfl⟩, fun z hz w => by cases hz; exact ⟨_, Tryz.zeroValue22 w, rfl⟩⟩
theorem tok23 : TOk Tryz.prog 23 ⟨.struct [(21, 0), (21, 1), (21, 2), (21, 3), (5, 4), (5, 5), (5, 6)], 7, 20, some [(.int .i32 0), (.int .i32 0), (.int .i32 0), (.int .i32 0), (.int .u8 0), (.int .u8 0), (.int .u8 0)]⟩ := ⟨⟨_, Tryz.underlying23, ⟨_, rfl, rfl⟩⟩, Tryz.sizeOf23, fun w => ⟨_, Tryz.typeInfo23 w, rfl⟩, fun z hz w => by cases hz; exact ⟨_, Tryz.zeroValue23 w, rfl⟩⟩
theorem tok24 : TOk Tryz.prog 24 ⟨.struct [(21, 0), (21, 1), (21, 2), (21, 3), (5, 4), (5, 5), (5, 6)], 7, 20, some [(.int .i32 0), (.int .i32 0), (.int .i32 0), (.int .i32 0), (.int .u8 0), (.int .u8 0), (.int .u8 0)]⟩ := ⟨⟨_, Tryz.underlying24, ⟨_, rfl, rfl⟩⟩, Tryz.sizeOf24, fun w => ⟨_, Tryz.typeInfo24 w, rfl⟩, fun z hz w => by cases hz; exact ⟨_, Tryz.zeroValue24 w, rfl⟩⟩
theorem tok25 : TOk Tryz.prog 25 ⟨.arr 2 24, 14, 40, some [(.int .i32 0), (.int .i32 0), (.int .i32 0), (.int .i32 0), (.int .u8 0), (.int .u8 0), (.int .u8 0), (.int .i32 0), (.int .i32 0), (.int .i32 0), (.int .i32 0), (.int .u8 0), (.int .u8 0), (.int .u8 0)]⟩ := ⟨⟨_, Tryz.underlying25, rfl⟩, Tryz.sizeOf25, fun w => ⟨_, Tryz.typeInfo25 w, rfl⟩, fun z hz w => by cases hz; exact ⟨_, Tryz.zeroValue25 w, rfl⟩⟩
theorem tok26 : TOk Tryz.prog 26 ⟨.slice 93, 1, 24, some [(.slice none 0 0)]⟩ := ⟨⟨_, Tryz.underlying26, rfl⟩, Tryz.sizeOf26, fun w => ⟨_, Tryz.typeInfo26 w, rfl⟩, fun z hz w => by cases hz; exact ⟨_, Tryz.zeroValue26 w, rfl⟩⟩
theorem tok27 : TOk Tryz.prog 27 ⟨.int .u16, 1, 2, some [(.int .u16 0)]⟩ := ⟨⟨_, Tryz.underlying27, rfl⟩, Tryz.sizeOf27, fun w => ⟨_, Tryz.typeInfo27 w, rfl⟩, fun z hz w => by cases hz; exact ⟨_, Tryz.zeroValue27 w, rfl⟩⟩
theorem tok28 : TOk Tryz.prog 28 ⟨.arr 2 27, 2, 4, some [(.int .u16 0), (.int .u16 0)]⟩ := ⟨⟨_, Tryz.underlying28, rfl⟩, Tryz.sizeOf28, fun w => ⟨_, Tryz.typeInfo28 w, rfl⟩, fun z hz w => by cases hz; exact ⟨_, Tryz.zeroValue28 w, rfl⟩⟩
theorem tok29 : TOk Tryz.prog 29 ⟨.struct [(22, 0), (22, 1), (25, 2), (26, 16), (28, 17)], 19, 88, some [(.int .u64 0), (.int .u64 0), (.int .i32 0), (.int .i32 0), (.int .i32 0), (.int .i32 0), (.int .u8 0), (.int .u8 0), (.int .u8 0), (.int .i32 0), (.int .i32 0), (.int .i32 0), (.int .i32 0), (.int .u8 0), (.int .u8 0), (.int .u8 0), (.slice none 0 0), (.int .u16 0), (.int .u16 0)]⟩ := ⟨⟨_, Tryz.underlying29, ⟨_, rfl, rfl⟩⟩, Tryz.sizeOf29, fun w => ⟨_, Tryz.typeInfo29 w, rfl⟩, fun z hz w => by cases hz; exact ⟨_, Tryz.zeroValue29 w, rfl⟩⟩
theorem tok30 : TOk Tryz.prog 30 ⟨.struct [(22, 0), (22, 1), (25, 2), (26, 16), (28, 17)], 19, 88, some [(.int .u64 0), (.int .u64 0), (.int .i32 0), (.int .i32 0), (.int .i32 0), (.int .i32 0), (.int .u8 0), (.int .u8 0), (.int .u8 0), (.int .i32 0), (.int .i32 0), (.int .i32 0), (.int .i32 0), (.int .u8 0), (.int .u8 0), (.int .u8 0), (.slice none 0 0), (.int .u16 0), (.int .u16 0)]⟩ := ⟨⟨_, Tryz.underlying30, ⟨_, rfl, rfl⟩⟩, Tryz.sizeOf30, fun w => ⟨_, Tryz.typeInfo30 w, rfl⟩, fun z hz w => by cases hz; exact ⟨_, Tryz.zeroValue30 w, rfl⟩⟩
theorem tok31 : TOk Tryz.prog 31 ⟨.struct [(30, 0), (5, 19), (3, 20)], 21, 104, some [(.int .u64 0), (.int .u64 0), (.int .i32 0), (.int .i32 0), (.int .i32 0), (.int .i32 0), (.int .u8 0), (.int .u8 0), (.int .u8 0), (.int .i32 0), (.int .i32 0), (.int .i32 0), (.int .i32 0), (.int .u8 0), (.int .u8 0), (.int .u8 0), (.slice none 0 0), (.int .u16 0), (.int .u16 0), (.int .u8 0), (.int .i64 0)]⟩ := ⟨⟨_, Tryz.underlying31, ⟨_, rfl, rfl⟩⟩, Tryz.sizeOf31, fun w => ⟨_, Tryz.typeInfo31 w, rfl⟩, fun z hz w => by cases hz; exact ⟨_, Tryz.zeroValue31 w, rfl⟩⟩
theorem tok32 : TOk Tryz.prog 32 ⟨.struct [(30, 0), (5, 19), (3, 20)], 21, 104, some [(.int .u64 0), (.int .u64 0), (.int .i32 0), (.int .i32 0), (.int .i32 0), (.int .i32 0), (.int .u8 0), (.int .u8 0), (.int .u8 0), (.int .i32 0), (.int .i32 0), (.int .i32 0), (.int .i32 0), (.int .u8 0), (.int .u8 0), (.int .u8 0), (.slice none 0 0), (.int .u16 0), (.int .u16 0), (.int .u8 0), (.int .i64 0)]⟩ := ⟨⟨_, Tryz.underlying32, ⟨_, rfl, rfl⟩⟩, Tryz.sizeOf32, fun w => ⟨_, Tryz.typeInfo32 w, rfl⟩, fun z hz w => by cases hz; exact ⟨_, Tryz.zeroValue32 w, rfl⟩⟩
theorem tok33 : TOk Tryz.prog 33 ⟨.slice 42, 1, 24, some [(.slice none 0 0)]⟩ := ⟨⟨_, Tryz.underlying33, rfl⟩, Tryz.sizeOf33, fun w => ⟨_, Tryz.typeInfo33 w, rfl⟩, fun z hz w => by cases hz; exact ⟨_, Tryz.zeroValue33 w, rfl⟩⟩
theorem tok35 : TOk Tryz.prog 35 ⟨.ptr 64, 1, 8, some [(.pointer none)]⟩ := ⟨⟨_, Tryz.underlying35, rfl⟩, Tryz.sizeOf35, fun w => ⟨_, Tryz.typeInfo35 w, rfl⟩, fun z hz w => by cases hz; exact ⟨_, Tryz.zeroValue35 w, rfl⟩⟩
theorem tok38 : TOk Tryz.prog 38 ⟨.ptr 70, 1, 8, some [(.pointer none)]⟩ := ⟨⟨_, Tryz.underlying38, rfl⟩, Tryz.sizeOf38, fun w => ⟨_, Tryz.typeInfo38 w, rfl⟩, fun z hz w => by cases hz; exact ⟨_, Tryz.zeroValue38 w, rfl⟩⟩
theorem tok40 : TOk Tryz.prog 40 ⟨.int .u8, 1, 1, some [(.int .u8 0)]⟩ := ⟨⟨_, Tryz.underlying40, rfl⟩, Tryz.sizeOf40, fun w => ⟨_, Tryz.typeInfo40 w, rfl⟩, fun z hz w => by cases hz; exact ⟨_, Tryz.zeroValue40 w, rfl⟩⟩
theorem tok41 : TOk Tryz.prog 41 ⟨.struct [(5, 0), (22, 1), (40, 2), (4, 3)], 4, 24, some [(.int .u8 0), (.int .u64 0), (.int .u8 0), (.bool false)]⟩ := ⟨⟨_, Tryz.underlying41, ⟨_, rfl, rfl⟩⟩, Tryz.sizeOf41, fun w => ⟨_, Tryz.typeInfo41 w, rfl⟩, fun z hz w => by cases hz; exact ⟨_, Tryz.zeroValue41 w, rfl⟩⟩
theorem tok42 : TOk Tryz.prog 42 ⟨.struct [(5, 0), (22, 1), (40, 2), (4, 3)], 4, 24, some [(.int .u8 0), (.int .u64 0), (.int .u8 0), (.bool false)]⟩ := ⟨⟨_, Tryz.underlying42, ⟨_, rfl, rfl⟩⟩, Tryz.sizeOf42, fun w => ⟨_, Tryz.typeInfo42 w, rfl⟩, fun z hz w => by cases hz; exact ⟨_, Tryz.zeroValue42 w, rfl⟩⟩
theorem tok43 : TOk Tryz.prog 43 ⟨.int .i64, 1, 8, some [(.int .i64 0)]⟩ := ⟨⟨_, Tryz.underlying43, rfl⟩, Tryz.sizeOf43, fun w => ⟨_, Tryz.typeInfo43 w, rfl⟩, fun z hz w => by cases hz; exact ⟨_, Tryz.zeroValue43 w, rfl⟩⟩
theorem tok48 : TOk Tryz.prog 48 ⟨.arr 2 40, 2, 2, some [(.int .u8 0), (.int .u8 0)]⟩ := ⟨⟨_, Tryz.underlying48, rfl⟩, Tryz.sizeOf48, fun w => ⟨_, Tryz.typeInfo48 w, rfl⟩, fun z hz w => by cases hz; exact ⟨_, Tryz.zeroValue48 w, rfl⟩⟩
theorem tok49 : TOk Tryz.prog 49 ⟨.arr 2 40, 2, 2, some [(.int .u8 0), (.int .u8 0)]⟩ := ⟨⟨_, Tryz.underlying49, rfl⟩, Tryz.sizeOf49, fun w => ⟨_, Tryz.typeInfo49 w, rfl⟩, fun z hz w => by cases hz; exact ⟨_, Tryz.zeroValue49 w, rfl⟩⟩
theorem tok58 : TOk Tryz.prog 58 ⟨.ptr 98, 1, 8, some [(.pointer none)]⟩ := ⟨⟨_, Tryz.underlying58, rfl⟩, Tryz.sizeOf58, fun w => ⟨_, Tryz.typeInfo58 w, rfl⟩, fun z hz w => by cases hz; exact ⟨_, Tryz.zeroValue58 w, rfl⟩⟩
theorem tok60 : TOk Tryz.prog 60 ⟨.ptr 103, 1, 8, some [(.pointer none)]⟩ := ⟨⟨_, Tryz.underlying60, rfl⟩, Tryz.sizeOf60, fun w => ⟨_, Tryz.typeInfo60 w, rfl⟩, fun z hz w => by cases hz; exact ⟨_, Tryz.zeroValue60 w, rfl⟩⟩
theorem tok62 : TOk Tryz.prog 62 ⟨.slice 40, 1, 24, some [(.slice none 0 0)]⟩ := ⟨⟨_, Tryz.underlying62, rfl⟩, Tryz.sizeOf62, fun w => ⟨_, Tryz.typeInfo62 w, rfl⟩, fun z hz w => by cases hz; exact ⟨_, Tryz.zeroValue62 w, rfl⟩⟩
theorem tok63 : TOk Tryz.prog 63 ⟨.struct [(5, 0), (3, 1), (30, 2), (62, 21), (58, 22), (60, 23)], 24, 144, some [(.int .u8 0), (.int .i64 0), (.int .u64 0), (.int .u64 0), (.int .i32 0), (.int .i32 0), (.int .i32 0), (.int .i32 0), (.int .u8 0), (.int .u8 0), (.int .u8 0), (.int .i32 0), (.int .i32 0), (.int .i32 0), (.int .i32 0), (.int .u8 0), (.int .u8 0), (.int .u8 0), (.slice none 0 0), (.int .u16 0), (.int .u16 0), (.slice none 0 0), (.pointer none), (.pointer none)]⟩ := ⟨⟨_, Tryz.underlying63, ⟨_, rfl, rfl⟩⟩, Tryz.sizeOf63, fun w => ⟨_, Tryz.typeInfo63 w, rfl⟩, fun z hz w => by cases hz; exact ⟨_, Tryz.zeroValue63 w, rfl⟩⟩
theorem tok64 : TOk Tryz.prog 64 ⟨.struct [(5, 0), (3, 1), (30, 2), (62, 21), (58, 22), (60, 23)], 24, 144, some [(.int .u8 0), (.int .i64 0), (.int .u64 0), (.int .u64 0), (.int .i32 0), (.int .i32 0), (.int .i32 0), (.int .i32 0), (.int .u8 0), (.int .u8 0), (.int .u8 0), (.int .i32 0), (.int .i32 0), (.int .i32 0), (.int .i32 0), (.int .u8 0), (.int .u8 0), (.int .u8 0), (.slice none 0 0), (.int .u16 0), (.int .u16 0), (.slice none 0 0), (.pointer none), (.pointer none)]⟩ := ⟨⟨_, Tryz.underlying64, ⟨_, rfl, rfl⟩⟩, Tryz.sizeOf64, fun w => ⟨_, Tryz.typeInfo64 w, rfl⟩, fun z hz w => by cases hz; exact ⟨_, Tryz.zeroValue64 w, rfl⟩⟩
theorem tok67 : TOk Tryz.prog 67 ⟨.ptr 108, 1, 8, some [(.pointer none)]⟩ := ⟨⟨_, Tryz.underlying67, rfl⟩, Tryz.sizeOf67, fun w => ⟨_, Tryz.typeInfo67 w, rfl⟩, fun z hz w => by cases hz; exact ⟨_, Tryz.zeroValue67 w, rfl⟩⟩
theorem tok69 : TOk Tryz.prog 69 ⟨.struct [(5, 0), (3, 1), (30, 2), (62, 21), (67, 22)], 23, 136, some [(.int .u8 0), (.int .i64 0), (.int .u64 0), (.int .u64 0), (.int .i32 0), (.int .i32 0), (.int .i32 0), (.int .i32 0), (.int .u8 0), (.int .u8 0), (.int .u8 0), (.int .i32 0), (.int .i32 0), (.int .i32 0), (.int .i32 0), (.int .u8 0), (.int .u8 0), (.int .u8 0), (.slice none 0 0), (.int .u16 0), (.int .u16 0), (.slice none 0 0), (.pointer none)]⟩ := ⟨⟨_, Tryz.underlying69, ⟨_, rfl, rfl⟩⟩, Tryz.sizeOf69, fun w => ⟨_, Tryz.typeInfo69 w, rfl⟩, fun z hz w => by cases hz; exact ⟨_, Tryz.zeroValue69 w, rfl⟩⟩
theorem tok70 : TOk Tryz.prog 70 ⟨.struct [(5, 0), (3, 1), (30, 2), (62, 21), (67, 22)], 23, 136, some [(.int .u8 0), (.int .i64 0), (.int .u64 0), (.int .u64 0), (.int .i32 0), (.int .i32 0), (.int .i32 0), (.int .i32 0), (.int .u8 0), (.int .u8 0), (.int .u8 0), (.int .i32 0), (.int .i32 0), (.int .i32 0), (.int .i32 0), (.int .u8 0), (.int .u8 0), (.int .u8 0), (.slice none 0 0), (.int .u16 0), (.int .u16 0), (.slice none 0 0), (.pointer none)]⟩ := ⟨⟨_, Tryz.underlying70, ⟨_, rfl, rfl⟩⟩, Tryz.sizeOf70, fun w => ⟨_, Tryz.typeInfo70 w, rfl⟩, fun z hz w => by cases hz; exact ⟨_, Tryz.zeroValue70 w, rfl⟩⟩
theorem tok84 : TOk Tryz.prog 84 ⟨.arr 2 21, 2, 8, some [(.int .i32 0), (.int .i32 0)]⟩ := ⟨⟨_, Tryz.underlying84, rfl⟩, Tryz.sizeOf84, fun w => ⟨_, Tryz.typeInfo84 w, rfl⟩, fun z hz w => by cases hz; exact ⟨_, Tryz.zeroValue84 w, rfl⟩⟩
theorem tok85 : TOk Tryz.prog 85 ⟨.arr 7 84, 14, 56, some [(.int .i32 0), (.int .i32 0), (.int .i32 0), (.int .i32 0), (.int .i32 0), (.int .i32 0), (.int .i32 0), (.int .i32 0), (.int .i32 0), (.int .i32 0), (.int .i32 0), (.int .i32 0), (.int .i32 0), (.int .i32 0)]⟩ := ⟨⟨_, Tryz.underlying85, rfl⟩, Tryz.sizeOf85, fun w => ⟨_, Tryz.typeInfo85 w, rfl⟩, fun z hz w => by cases hz; exact ⟨_, Tryz.zeroValue85 w, rfl⟩⟩
theorem tok86 : TOk Tryz.prog 86 ⟨.arr 6 84, 12, 48, some [(.int .i32 0), (.int .i32 0), (.int .i32 0), (.int .i32 0), (.int .i32 0), (.int .i32 0), (.int .i32 0), (.int .i32 0), (.int .i32 0), (.int .i32 0), (.int .i32 0), (.int .i32 0)]⟩ := ⟨⟨_, Tryz.underlying86, rfl⟩, Tryz.sizeOf86, fun w => ⟨_, Tryz.typeInfo86 w, rfl⟩, fun z hz w => by cases hz; exact ⟨_, Tryz.zeroValue86 w, rfl⟩⟩
theorem tok88 : TOk Tryz.prog 88 ⟨.slice 21, 1, 24, some [(.slice none 0 0)]⟩ := ⟨⟨_, Tryz.underlying88, rfl⟩, Tryz.sizeOf88, fun w => ⟨_, Tryz.typeInfo88 w, rfl⟩, fun z hz w => by cases hz; exact ⟨_, Tryz.zeroValue88 w, rfl⟩⟩
theorem tok90 : TOk Tryz.prog 90 ⟨.slice 84, 1, 24, some [(.slice none 0 0)]⟩ := ⟨⟨_, Tryz.underlying90, rfl⟩, Tryz.sizeOf90, fun w => ⟨_, Tryz.typeInfo90 w, rfl⟩, fun z hz w => by cases hz; exact ⟨_, Tryz.zeroValue90 w, rfl⟩⟩
theorem tok92 : TOk Tryz.prog 92 ⟨.struct [(21, 0), (21, 1), (21, 2), (21, 3), (5, 4), (5, 5)], 6, 20, some [(.int .i32 0), (.int .i32 0), (.int .i32 0), (.int .i32 0), (.int .u8 0), (.int .u8 0)]⟩ := ⟨⟨_, Tryz.underlying92, ⟨_, rfl, rfl⟩⟩, Tryz.sizeOf92, fun w => ⟨_, Tryz.typeInfo92 w, rfl⟩, fun z hz w => by cases hz; exact ⟨_, Tryz.zeroValue92 w, rfl⟩⟩
theorem tok93 : TOk Tryz.prog 93 ⟨.struct [(21, 0), (21, 1), (21, 2), (21, 3), (5, 4), (5, 5)], 6, 20, some [(.int .i32 0), (.int .i32 0), (.int .i32 0), (.int .i32 0), (.int .u8 0), (.int .u8 0)]⟩ := ⟨⟨_, Tryz.underlying93, ⟨_, rfl, rfl⟩⟩, Tryz.sizeOf93, fun w => ⟨_, Tryz.typeInfo93 w, rfl⟩, fun z hz w => by cases hz; exact ⟨_, Tryz.zeroValue93 w, rfl⟩⟩
theorem tok97 : TOk Tryz.prog 97 ⟨.struct [(22, 0), (62, 1), (40, 2)], 3, 40, some [(.int .u64 0), (.slice none 0 0), (.int .u8 0)]⟩ := ⟨⟨_, Tryz.underlying97, ⟨_, rfl, rfl⟩⟩, Tryz.sizeOf97, fun w => ⟨_, Tryz.typeInfo97 w, rfl⟩, fun z hz w => by cases hz; exact ⟨_, Tryz.zeroValue97 w, rfl⟩⟩
theorem tok98 : TOk Tryz.prog 98 ⟨.struct [(22, 0), (62, 1), (40, 2)], 3, 40, some [(.int .u64 0), (.slice none 0 0), (.int .u8 0)]⟩ := ⟨⟨_, Tryz.underlying98, ⟨_, rfl, rfl⟩⟩, Tryz.sizeOf98, fun w => ⟨_, Tryz.typeInfo98 w, rfl⟩, fun z hz w => by cases hz; exact ⟨_, Tryz.zeroValue98 w, rfl⟩⟩
theorem tok99 : TOk Tryz.prog 99 ⟨.struct [(30, 0), (4, 19)], 20, 96, some [(.int .u64 0), (.int .u64 0), (.int .i32 0), (.int .i32 0), (.int .i32 0), (.int .i32 0), (.int .u8 0), (.int .u8 0), (.int .u8 0), (.int .i32 0), (.int .i32 0), (.int .i32 0), (.int .i32 0), (.int .u8 0), (.int .u8 0), (.int .u8 0), (.slice none 0 0), (.int .u16 0), (.int .u16 0), (.bool false)]⟩ := ⟨⟨_, Tryz.underlying99, ⟨_, rfl, rfl⟩⟩, Tryz.sizeOf99, fun w => ⟨_, Tryz.typeInfo99 w, rfl⟩, fun z hz w => by cases hz; exact ⟨_, Tryz.zeroValue99 w, rfl⟩⟩
theorem tok100 : TOk Tryz.prog 100 ⟨.struct [(30, 0), (4, 19)], 20, 96, some [(.int .u64 0), (.int .u64 0), (.int .i32 0), (.int .i32 0), (.int .i32 0), (.int .i32 0), (.int .u8 0), (.int .u8 0), (.int .u8 0), (.int .i32 0), (.int .i32 0), (.int .i32 0), (.int .i32 0), (.int .u8 0), (.int .u8 0), (.int .u8 0), (.slice none 0 0), (.int .u16 0), (.int .u16 0), (.bool false)]⟩ := ⟨⟨_, Tryz.underlying100, ⟨_, rfl, rfl⟩⟩, Tryz.sizeOf100, fun w => ⟨_, Tryz.typeInfo100 w, rfl⟩, fun z hz w => by cases hz; exact ⟨_, Tryz.zeroValue100 w, rfl⟩⟩
theorem tok101 : TOk Tryz.prog 101 ⟨.arr 14 100, 280, 1344, none⟩ := ⟨⟨_, Tryz.underlying101, rfl⟩, Tryz.sizeOf101, fun w => ⟨_, Tryz.typeInfo101 w, rfl⟩, fun z hz w => by cases hz⟩
theorem tok102 : TOk Tryz.prog 102 ⟨.struct [(3, 0), (101, 1)], 281, 1352, some (([(.int .i64 0)] ++ repO 14 [(.int .u64 0), (.int .u64 0), (.int .i32 0), (.int .i32 0), (.int .i32 0), (.int .i32 0), (.int .u8 0), (.int .u8 0), (.int .u8 0), (.int .i32 0), (.int .i32 0), (.int .i32 0), (.int .i32 0), (.int .u8 0), (.int .u8 0), (.int .u8 0), (.slice none 0 0), (.int .u16 0), (.int .u16 0), (.bool false)]))⟩ := ⟨⟨_, Tryz.underlying102, ⟨_, rfl, rfl⟩⟩, Tryz.sizeOf102, fun w => ⟨_, Tryz.typeInfo102 w, rfl⟩, fun z hz w => by cases hz; exact ⟨_, Tryz.zeroValue102 w, by kernel_rfl⟩⟩
theorem tok103 : TOk Tryz.prog 103 ⟨.struct [(3, 0), (101, 1)], 281, 1352, some (([(.int .i64 0)] ++ repO 14 [(.int .u64 0), (.int .u64 0), (.int .i32 0), (.int .i32 0), (.int .i32 0), (.int .i32 0), (.int .u8 0), (.int .u8 0), (.int .u8 0), (.int .i32 0), (.int .i32 0), (.int .i32 0), (.int .i32 0), (.int .u8 0), (.int .u8 0), (.int .u8 0), (.slice none 0 0), (.int .u16 0), (.int .u16 0), (.bool false)]))⟩ := ⟨⟨_, Tryz.underlying103, ⟨_, rfl, rfl⟩⟩, Tryz.sizeOf103, fun w => ⟨_, Tryz.typeInfo103 w, rfl⟩, fun z hz w => by cases hz; exact ⟨_, Tryz.zeroValue103 w, by kernel_rfl⟩⟩
theorem tok104 : TOk Tryz.prog 104 ⟨.ptr 100, 1, 8, some [(.pointer none)]⟩ := ⟨⟨_, Tryz.underlying104, rfl⟩, Tryz.sizeOf104, fun w => ⟨_, Tryz.typeInfo104 w, rfl⟩, fun z hz w => by cases hz; exact ⟨_, Tryz.zeroValue104 w, rfl⟩⟩
theorem tok107 : TOk Tryz.prog 107 ⟨.struct [(22, 0), (22, 1), (62, 2)], 3, 40, some [(.int .u64 0), (.int .u64 0), (.slice none 0 0)]⟩ := ⟨⟨_, Tryz.underlying107, ⟨_, rfl, rfl⟩⟩, Tryz.sizeOf107, fun w => ⟨_, Tryz.typeInfo107 w, rfl⟩, fun z hz w => by cases hz; exact ⟨_, Tryz.zeroValue107 w, rfl⟩⟩
theorem tok108 : TOk Tryz.prog 108 ⟨.struct [(22, 0), (22, 1), (62, 2)], 3, 40, some [(.int .u64 0), (.int .u64 0), (.slice none 0 0)]⟩ := ⟨⟨_, Tryz.underlying108, ⟨_, rfl, rfl⟩⟩, Tryz.sizeOf108, fun w => ⟨_, Tryz.typeInfo108 w, rfl⟩, fun z hz w => by cases hz; exact ⟨_, Tryz.zeroValue108 w, rfl⟩⟩
theorem tok113 : TOk Tryz.prog 113 ⟨.ptr 24, 1, 8, some [(.pointer none)]⟩ := ⟨⟨_, Tryz.underlying113, rfl⟩, Tryz.sizeOf113, fun w => ⟨_, Tryz.typeInfo113 w, rfl⟩, fun z hz w => by cases hz; exact ⟨_, Tryz.zeroValue113 w, rfl⟩⟩
theorem tok117 : TOk Tryz.prog 117 ⟨.struct [(21, 0), (21, 1), (21, 2), (21, 3)], 4, 16, some [(.int .i32 0), (.int .i32 0), (.int .i32 0), (.int .i32 0)]⟩ := ⟨⟨_, Tryz.underlying117, ⟨_, rfl, rfl⟩⟩, Tryz.sizeOf117, fun w => ⟨_, Tryz.typeInfo117 w, rfl⟩, fun z hz w => by cases hz; exact ⟨_, Tryz.zeroValue117 w, rfl⟩⟩
theorem tok118 : TOk Tryz.prog 118 ⟨.struct [(21, 0), (21, 1), (21, 2), (21, 3)], 4, 16, some [(.int .i32 0), (.int .i32 0), (.int .i32 0), (.int .i32 0)]⟩ := ⟨⟨_, Tryz.underlying118, ⟨_, rfl, rfl⟩⟩, Tryz.sizeOf118, fun w => ⟨_, Tryz.typeInfo118 w, rfl⟩, fun z hz w => by cases hz; exact ⟨_, Tryz.zeroValue118 w, rfl⟩⟩
theorem tok121 : TOk Tryz.prog 121 ⟨.ptr 30, 1, 8, some [(.pointer none)]⟩ := ⟨⟨_, Tryz.underlying121, rfl⟩, Tryz.sizeOf121, fun w => ⟨_, Tryz.typeInfo121 w, rfl⟩, fun z hz w => by cases hz; exact ⟨_, Tryz.zeroValue121 w, rfl⟩⟩
theorem tok124 : TOk Tryz.prog 124 ⟨.slice 100, 1, 24, some [(.slice none 0 0)]⟩ := ⟨⟨_, Tryz.underlying124, rfl⟩, Tryz.sizeOf124, fun w => ⟨_, Tryz.typeInfo124 w, rfl⟩, fun z hz w => by cases hz; exact ⟨_, Tryz.zeroValue124 w, rfl⟩⟩
theorem tok136 : TOk Tryz.prog 136 ⟨.struct [(2, 0), (2, 1)], 2, 16, some [(.int .i64 0), (.int .i64 0)]⟩ := ⟨⟨_, Tryz.underlying136, ⟨_, rfl, rfl⟩⟩, Tryz.sizeOf136, fun w => ⟨_, Tryz.typeInfo136 w, rfl⟩, fun z hz w => by cases hz; exact ⟨_, Tryz.zeroValue136 w, rfl⟩⟩
theorem tok137 : TOk Tryz.prog 137 ⟨.struct [(2, 0), (2, 1)], 2, 16, some [(.int .i64 0), (.int .i64 0)]⟩ := ⟨⟨_, Tryz.underlying137, ⟨_, rfl, rfl⟩⟩, Tryz.sizeOf137, fun w => ⟨_, Tryz.typeInfo137 w, rfl⟩, fun z hz w => by cases hz; exact ⟨_, Tryz.zeroValue137 w, rfl⟩⟩
theorem tok138 : TOk Tryz.prog 138 ⟨.struct [(22, 0)], 1, 8, some [(.int .u64 0)]⟩ := ⟨⟨_, Tryz.underlying138, ⟨_, rfl, rfl⟩⟩, Tryz.sizeOf138, fun w => ⟨_, Tryz.typeInfo138 w, rfl⟩, fun z hz w => by cases hz; exact ⟨_, Tryz.zeroValue138 w, rfl⟩⟩
theorem tok139 : TOk Tryz.prog 139 ⟨.struct [(22, 0)], 1, 8, some [(.int .u64 0)]⟩ := ⟨⟨_, Tryz.underlying139, ⟨_, rfl, rfl⟩⟩, Tryz.sizeOf139, fun w => ⟨_, Tryz.typeInfo139 w, rfl⟩, fun z hz w => by cases hz; exact ⟨_, Tryz.zeroValue139 w, rfl⟩⟩
theorem tok150 : TOk Tryz.prog 150 ⟨.int .u64, 1, 8, some [(.int .u64 0)]⟩ := ⟨⟨_, Tryz.underlying150, rfl⟩, Tryz.sizeOf150, fun w => ⟨_, Tryz.typeInfo150 w, rfl⟩, fun z hz w => by cases hz; exact ⟨_, Tryz.zeroValue150 w, rfl⟩⟩
theorem tok167 : TOk Tryz.prog 167 ⟨.int .u32, 1, 4, some [(.int .u32 0)]⟩ := ⟨⟨_, Tryz.underlying167, rfl⟩, Tryz.sizeOf167, fun w => ⟨_, Tryz.typeInfo167 w, rfl⟩, fun z hz w => by cases hz; exact ⟨_, Tryz.zeroValue167 w, rfl⟩⟩
theorem tok171 : TOk Tryz.prog 171 ⟨.ptr 5, 1, 8, some [(.pointer none)]⟩ := ⟨⟨_, Tryz.underlying171, rfl⟩, Tryz.sizeOf171, fun w => ⟨_, Tryz.typeInfo171 w, rfl⟩, fun z hz w => by cases hz; exact ⟨_, Tryz.zeroValue171 w, rfl⟩⟩
theorem ctt_ok : CTabOk Tryz.prog TT := by
  intro x hx
  simp only [TT, List.mem_cons, List.not_mem_nil, or_false] at hx
  rcases hx with rfl | rfl | rfl | rfl | rfl | rfl | rfl | rfl | rfl | rfl | rfl | rfl | rfl | rfl | rfl | rfl | rfl | rfl | rfl | rfl | rfl | rfl | rfl | rfl | rfl | rfl | rfl | rfl | rfl | rfl | rfl | rfl | rfl | rfl | rfl | rfl | rfl | rfl | rfl | rfl | rfl | rfl | rfl | rfl | rfl | rfl | rfl | rfl | rfl | rfl | rfl | rfl | rfl | rfl | rfl | rfl | rfl | rfl | rfl | rfl | rfl | rfl | rfl | rfl
  · exact ⟨by kernel_rfl, by kernel_rfl⟩
  · exact ⟨by kernel_rfl, by kernel_rfl⟩
  · exact ⟨by kernel_rfl, by kernel_rfl⟩
  · exact ⟨by kernel_rfl, by kernel_rfl⟩
  · exact ⟨by kernel_rfl, by kernel_rfl⟩
  · exact ⟨by kernel_rfl, by kernel_rfl⟩
  · exact ⟨by kernel_rfl, by kernel_rfl⟩
  · exact ⟨by kernel_rfl, by kernel_rfl⟩
  · exact ⟨by kernel_rfl, by kernel_rfl⟩
  · exact ⟨by kernel_rfl, by kernel_rfl⟩
  · exact ⟨by kernel_rfl, by kernel_rfl⟩
  · exact ⟨by kernel_rfl, by kernel_rfl⟩
  · exact ⟨by kernel_rfl, by kernel_rfl⟩
  · exact ⟨by kernel_rfl, by kernel_rfl⟩
  · exact ⟨by kernel_rfl, by kernel_rfl⟩
  · exact ⟨by kernel_rfl, by kernel_rfl⟩
  · exact ⟨by kernel_rfl, by kernel_rfl⟩
  · exact ⟨by kernel_rfl, by kernel_rfl⟩
  · exact ⟨by kernel_rfl, by kernel_rfl⟩
  · exact ⟨by kernel_rfl, by kernel_rfl⟩
  · exact ⟨by kernel_rfl, by kernel_rfl⟩
  · exact ⟨by kernel_rfl, by kernel_rfl⟩
  · exact ⟨by kernel_rfl, by kernel_rfl⟩
  · exact ⟨by kernel_rfl, by kernel_rfl⟩
  · exact ⟨by kernel_rfl, by kernel_rfl⟩
  · exact ⟨by kernel_rfl, by kernel_rfl⟩
  · exact ⟨by kernel_rfl, by kernel_rfl⟩
  · exact ⟨by kernel_rfl, by kernel_rfl⟩
  · exact ⟨by kernel_rfl, by kernel_rfl⟩
  · exact ⟨by kernel_rfl, by kernel_rfl⟩
  · exact ⟨by kernel_rfl, by kernel_rfl⟩
  · exact ⟨by kernel_rfl, by kernel_rfl⟩
  · exact ⟨by kernel_rfl, by kernel_rfl⟩
  · exact ⟨by kernel_rfl, by kernel_rfl⟩
  · exact ⟨by kernel_rfl, by kernel_rfl⟩
  · exact ⟨by kernel_rfl, by kernel_rfl⟩
  · exact ⟨by kernel_rfl, by kernel_rfl⟩
  · exact ⟨by kernel_rfl, by kernel_rfl⟩
  · exact ⟨by kernel_rfl, by kernel_rfl⟩
  · exact ⟨by kernel_rfl, by kernel_rfl⟩
  · exact ⟨by kernel_rfl, by kernel_rfl⟩
  · exact ⟨by kernel_rfl, by kernel_rfl⟩
  · exact ⟨by kernel_rfl, by kernel_rfl⟩
  · exact ⟨by kernel_rfl, by kernel_rfl⟩
  · exact ⟨by kernel_rfl, by kernel_rfl⟩
  · exact ⟨by kernel_rfl, by kernel_rfl⟩
  · exact ⟨by kernel_rfl, by kernel_rfl⟩
  · exact ⟨by kernel_rfl, by kernel_rfl⟩
  · exact ⟨by kernel_rfl, by kernel_rfl⟩
  · exact ⟨by kernel_rfl, by kernel_rfl⟩
  · exact ⟨by kernel_rfl, by kernel_rfl⟩
  · exact ⟨by kernel_rfl, by kernel_rfl⟩
  · exact ⟨by kernel_rfl, by kernel_rfl⟩
  · exact ⟨by kernel_rfl, by kernel_rfl⟩
  · exact ⟨by kernel_rfl, by kernel_rfl⟩
  · exact ⟨by kernel_rfl, by kernel_rfl⟩
  · exact ⟨by kernel_rfl, by kernel_rfl⟩
  · exact ⟨by kernel_rfl, by kernel_rfl⟩
  · exact ⟨by kernel_rfl, by kernel_rfl⟩
  · exact ⟨by kernel_rfl, by kernel_rfl⟩
  · exact ⟨by kernel_rfl, by kernel_rfl⟩
  · exact ⟨by kernel_rfl, by kernel_rfl⟩
  · exact ⟨by kernel_rfl, by kernel_rfl⟩
  · exact ⟨by kernel_rfl, by kernel_rfl⟩
theorem tt_closed : structsIn TT TT = true := by kernel_rfl
theorem tt_ok : TabOk Tryz.prog TT := by
  intro x hx
  simp only [TT, List.mem_cons, List.not_mem_nil, or_false] at hx
  rcases hx with rfl | rfl | rfl | rfl | rfl | rfl | rfl | rfl | rfl | rfl | rfl | rfl | rfl | rfl | rfl | rfl | rfl | rfl | rfl | rfl | rfl | rfl | rfl | rfl | rfl | rfl | rfl | rfl | rfl | rfl | rfl | rfl | rfl | rfl | rfl | rfl | rfl | rfl | rfl | rfl | rfl | rfl | rfl | rfl | rfl | rfl | rfl | rfl | rfl | rfl | rfl | rfl | rfl | rfl | rfl | rfl | rfl | rfl | rfl | rfl | rfl | rfl | rfl | rfl
  · exact tok2
  · exact tok3
  · exact tok4
  · exact tok5
  · exact tok9
  · exact tok12
  · exact tok21
  · exact tok22
  · exact tok23
  · exact tok24
  · exact tok25
  · exact tok26
  · exact tok27
  · exact tok28
  · exact tok29
  · exact tok30
  · exact tok31
  · exact tok32
  · exact tok33
  · exact tok35
  · exact tok38
  · exact tok40
  · exact tok41
  · exact tok42
  · exact tok43
  · exact tok48
  · exact tok49
  · exact tok58
  · exact tok60
  · exact tok62
  · exact tok63
  · exact tok64
  · exact tok67
  · exact tok69
  · exact tok70
  · exact tok84
  · exact tok85
  · exact tok86
  · exact tok88
  · exact tok90
  · exact tok92
  · exact tok93
  · exact tok97
  · exact tok98
  · exact tok99
  · exact tok100
  · exact tok101
  · exact tok102
  · exact tok103
  · exact tok104
  · exact tok107
  · exact tok108
  · exact tok113
  · exact tok117
  · exact tok118
  · exact tok121
  · exact tok124
  · exact tok136
  · exact tok137
  · exact tok138
  · exact tok139
  · exact tok150
  · exact tok167
  · exact tok171
theorem tt_eq : eqOkB Tryz.prog TT = true := by kernel_rfl
theorem tt_one : oneB TT = true := by kernel_rfl


theorem sV {w0 : World} {A : List Nat} {n : Nat} {E : List (Nat × Value)} {L : List Blk} {op : Op} {ty : TypeId} {v : Value} (h : stepV TT E op = some v) : Val Tryz.prog w0 A n E L op ty v := stepV_ok tt_ok h
theorem wP {ops : Array Oper} {Q : Exit → Act → World → Prop} {w0 : World} {A : List Nat} {n : Nat} {rest : List Oper} {E : List (Nat × Value)} {L : List Blk} {d : Nat} {op : Op} {ty : TypeId} {pos : String} {aft : Array Edge} {v : Value} (h : stepV TT E op = some v) (hd : Nat.blt d n = true) (k : WL Tryz.prog ops Q w0 A n rest ((d, v) :: E) L) :
    WL Tryz.prog ops Q w0 A n (⟨some d, op, ty, pos, aft, none⟩ :: rest) E L := wl_pure tt_ok h hd k
theorem qP {ops : Array Oper} {Q : Exit → Act → World → Prop} {w0 : World} {A : List Nat} {n : Nat} {rest : List Oper} {E : List (Nat × Value)} {L : List Blk} {d : Nat} {op : Op} {ty : TypeId} {pos : String} {aft : Array Edge} {v : Value} (h : stepV TT E op = some v) (hd : Nat.blt d n = true) (k : WQ Tryz.prog ops Q w0 A n rest ((d, v) :: E) L) :
    WQ Tryz.prog ops Q w0 A n (⟨some d, op, ty, pos, aft, none⟩ :: rest) E L := wq_pure tt_ok h hd k

end Go.Proofs.YtkekgagekgadmaaGreatDoor
