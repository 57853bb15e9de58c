/- The program's types in a table of the engine's kind, each row proved against the program. -/
import Derived.Test.YtkdbpenjkcjimaaGreatDoorProg
import Derived.Test.YtkdbpenjkcjimaaGreatDoorEng5
import Derived.KernelRfl
namespace Go.Proofs.YtkdbpenjkcjimaaGreatDoor
open Go.Proofs.YtkdbpenjkcjimaaGreatDoor.Eng Go.RowKit

def TT : List (Nat × TI) :=
  [(2, ⟨.int .i64, 1, 8, some [(.int .i64 0)]⟩),
   (3, ⟨.int .i64, 1, 8, some [(.int .i64 0)]⟩),
   (4, ⟨.bool, 1, 1, some [(.bool false)]⟩),
   (5, ⟨.int .u8, 1, 1, some [(.int .u8 0)]⟩),
   (9, ⟨.str, 1, 16, some [(.string ByteArray.empty)]⟩),
   (12, ⟨.int .u64, 1, 8, some [(.int .u64 0)]⟩),
   (21, ⟨.int .i32, 1, 4, some [(.int .i32 0)]⟩),
   (22, ⟨.int .u64, 1, 8, some [(.int .u64 0)]⟩),
   (23, ⟨.slice 52, 1, 24, some [(.slice none 0 0)]⟩),
   (24, ⟨.struct [(22, 0), (5, 1), (5, 2), (5, 3), (5, 4), (5, 5), (5, 6), (23, 7), (23, 8)], 9, 64, some [(.int .u64 0), (.int .u8 0), (.int .u8 0), (.int .u8 0), (.int .u8 0), (.int .u8 0), (.int .u8 0), (.slice none 0 0), (.slice none 0 0)]⟩),
   (25, ⟨.struct [(22, 0), (5, 1), (5, 2), (5, 3), (5, 4), (5, 5), (5, 6), (23, 7), (23, 8)], 9, 64, some [(.int .u64 0), (.int .u8 0), (.int .u8 0), (.int .u8 0), (.int .u8 0), (.int .u8 0), (.int .u8 0), (.slice none 0 0), (.slice none 0 0)]⟩),
   (26, ⟨.slice 54, 1, 24, some [(.slice none 0 0)]⟩),
   (27, ⟨.struct [(5, 0), (22, 1), (26, 2), (23, 3)], 4, 64, some [(.int .u8 0), (.int .u64 0), (.slice none 0 0), (.slice none 0 0)]⟩),
   (28, ⟨.struct [(5, 0), (22, 1), (26, 2), (23, 3)], 4, 64, some [(.int .u8 0), (.int .u64 0), (.slice none 0 0), (.slice none 0 0)]⟩),
   (30, ⟨.ptr 97, 1, 8, some [(.pointer none)]⟩),
   (31, ⟨.ptr 105, 1, 8, some [(.pointer none)]⟩),
   (34, ⟨.ptr 88, 1, 8, some [(.pointer none)]⟩),
   (35, ⟨.ptr 77, 1, 8, some [(.pointer none)]⟩),
   (41, ⟨.int .i64, 1, 8, some [(.int .i64 0)]⟩),
   (52, ⟨.int .u8, 1, 1, some [(.int .u8 0)]⟩),
   (53, ⟨.arr 2 52, 2, 2, some [(.int .u8 0), (.int .u8 0)]⟩),
   (54, ⟨.arr 2 52, 2, 2, some [(.int .u8 0), (.int .u8 0)]⟩),
   (57, ⟨.struct [(21, 0), (21, 1), (21, 2), (21, 3), (5, 4), (5, 5), (5, 6)], 7, 20, some [(.int .i32 0), (.int .i32 0), (.int .i32 0), (.int .i32 0), (.int .u8 0), (.int .u8 0), (.int .u8 0)]⟩),
   (58, ⟨.struct [(21, 0), (21, 1), (21, 2), (21, 3), (5, 4), (5, 5), (5, 6)], 7, 20, some [(.int .i32 0), (.int .i32 0), (.int .i32 0), (.int .i32 0), (.int .u8 0), (.int .u8 0), (.int .u8 0)]⟩),
   (59, ⟨.arr 2 58, 14, 40, some [(.int .i32 0), (.int .i32 0), (.int .i32 0), (.int .i32 0), (.int .u8 0), (.int .u8 0), (.int .u8 0), (.int .i32 0), (.int .i32 0), (.int .i32 0), (.int .i32 0), (.int .u8 0), (.int .u8 0), (.int .u8 0)]⟩),
   (60, ⟨.slice 119, 1, 24, some [(.slice none 0 0)]⟩),
   (61, ⟨.int .u16, 1, 2, some [(.int .u16 0)]⟩),
   (62, ⟨.arr 2 61, 2, 4, some [(.int .u16 0), (.int .u16 0)]⟩),
   (63, ⟨.struct [(22, 0), (22, 1), (59, 2), (60, 16), (62, 17)], 19, 88, some [(.int .u64 0), (.int .u64 0), (.int .i32 0), (.int .i32 0), (.int .i32 0), (.int .i32 0), (.int .u8 0), (.int .u8 0), (.int .u8 0), (.int .i32 0), (.int .i32 0), (.int .i32 0), (.int .i32 0), (.int .u8 0), (.int .u8 0), (.int .u8 0), (.slice none 0 0), (.int .u16 0), (.int .u16 0)]⟩),
   (64, ⟨.struct [(22, 0), (22, 1), (59, 2), (60, 16), (62, 17)], 19, 88, some [(.int .u64 0), (.int .u64 0), (.int .i32 0), (.int .i32 0), (.int .i32 0), (.int .i32 0), (.int .u8 0), (.int .u8 0), (.int .u8 0), (.int .i32 0), (.int .i32 0), (.int .i32 0), (.int .i32 0), (.int .u8 0), (.int .u8 0), (.int .u8 0), (.slice none 0 0), (.int .u16 0), (.int .u16 0)]⟩),
   (76, ⟨.struct [(22, 0), (3, 1), (26, 2)], 3, 40, some [(.int .u64 0), (.int .i64 0), (.slice none 0 0)]⟩),
   (77, ⟨.struct [(22, 0), (3, 1), (26, 2)], 3, 40, some [(.int .u64 0), (.int .i64 0), (.slice none 0 0)]⟩),
   (86, ⟨.ptr 117, 1, 8, some [(.pointer none)]⟩),
   (87, ⟨.struct [(5, 0), (3, 1), (64, 2), (23, 21), (86, 22)], 23, 136, some [(.int .u8 0), (.int .i64 0), (.int .u64 0), (.int .u64 0), (.int .i32 0), (.int .i32 0), (.int .i32 0), (.int .i32 0), (.int .u8 0), (.int .u8 0), (.int .u8 0), (.int .i32 0), (.int .i32 0), (.int .i32 0), (.int .i32 0), (.int .u8 0), (.int .u8 0), (.int .u8 0), (.slice none 0 0), (.int .u16 0), (.int .u16 0), (.slice none 0 0), (.pointer none)]⟩),
   (88, ⟨.struct [(5, 0), (3, 1), (64, 2), (23, 21), (86, 22)], 23, 136, some [(.int .u8 0), (.int .i64 0), (.int .u64 0), (.int .u64 0), (.int .i32 0), (.int .i32 0), (.int .i32 0), (.int .i32 0), (.int .u8 0), (.int .u8 0), (.int .u8 0), (.int .i32 0), (.int .i32 0), (.int .i32 0), (.int .i32 0), (.int .u8 0), (.int .u8 0), (.int .u8 0), (.slice none 0 0), (.int .u16 0), (.int .u16 0), (.slice none 0 0), (.pointer none)]⟩),
   (94, ⟨.ptr 124, 1, 8, some [(.pointer none)]⟩),
   (95, ⟨.ptr 140, 1, 8, some [(.pointer none)]⟩),
   (96, ⟨.struct [(5, 0), (3, 1), (64, 2), (23, 21), (94, 22), (95, 23)], 24, 144, some [(.int .u8 0), (.int .i64 0), (.int .u64 0), (.int .u64 0), (.int .i32 0), (.int .i32 0), (.int .i32 0), (.int .i32 0), (.int .u8 0), (.int .u8 0), (.int .u8 0), (.int .i32 0), (.int .i32 0), (.int .i32 0), (.int .i32 0), (.int .u8 0), (.int .u8 0), (.int .u8 0), (.slice none 0 0), (.int .u16 0), (.int .u16 0), (.slice none 0 0), (.pointer none), (.pointer none)]⟩),
   (97, ⟨.struct [(5, 0), (3, 1), (64, 2), (23, 21), (94, 22), (95, 23)], 24, 144, some [(.int .u8 0), (.int .i64 0), (.int .u64 0), (.int .u64 0), (.int .i32 0), (.int .i32 0), (.int .i32 0), (.int .i32 0), (.int .u8 0), (.int .u8 0), (.int .u8 0), (.int .i32 0), (.int .i32 0), (.int .i32 0), (.int .i32 0), (.int .u8 0), (.int .u8 0), (.int .u8 0), (.slice none 0 0), (.int .u16 0), (.int .u16 0), (.slice none 0 0), (.pointer none), (.pointer none)]⟩),
   (103, ⟨.arr 256 54, 512, 512, none⟩),
   (104, ⟨.struct [(22, 0), (22, 1), (22, 2), (103, 3)], 515, 536, some (([(.int .u64 0), (.int .u64 0), (.int .u64 0)] ++ flat (e2 .u8) (Arr.rep 256 ((0 : Int), (0 : Int))).1))⟩),
   (105, ⟨.struct [(22, 0), (22, 1), (22, 2), (103, 3)], 515, 536, some (([(.int .u64 0), (.int .u64 0), (.int .u64 0)] ++ flat (e2 .u8) (Arr.rep 256 ((0 : Int), (0 : Int))).1))⟩),
   (116, ⟨.struct [(22, 0), (22, 1), (23, 2)], 3, 40, some [(.int .u64 0), (.int .u64 0), (.slice none 0 0)]⟩),
   (117, ⟨.struct [(22, 0), (22, 1), (23, 2)], 3, 40, some [(.int .u64 0), (.int .u64 0), (.slice none 0 0)]⟩),
   (118, ⟨.struct [(21, 0), (21, 1), (21, 2), (21, 3), (5, 4), (5, 5)], 6, 20, some [(.int .i32 0), (.int .i32 0), (.int .i32 0), (.int .i32 0), (.int .u8 0), (.int .u8 0)]⟩),
   (119, ⟨.struct [(21, 0), (21, 1), (21, 2), (21, 3), (5, 4), (5, 5)], 6, 20, some [(.int .i32 0), (.int .i32 0), (.int .i32 0), (.int .i32 0), (.int .u8 0), (.int .u8 0)]⟩),
   (123, ⟨.struct [(22, 0), (23, 1), (52, 2)], 3, 40, some [(.int .u64 0), (.slice none 0 0), (.int .u8 0)]⟩),
   (124, ⟨.struct [(22, 0), (23, 1), (52, 2)], 3, 40, some [(.int .u64 0), (.slice none 0 0), (.int .u8 0)]⟩),
   (125, ⟨.arr 2 21, 2, 8, some [(.int .i32 0), (.int .i32 0)]⟩),
   (126, ⟨.arr 7 125, 14, 56, some [(.int .i32 0), (.int .i32 0), (.int .i32 0), (.int .i32 0), (.int .i32 0), (.int .i32 0), (.int .i32 0), (.int .i32 0), (.int .i32 0), (.int .i32 0), (.int .i32 0), (.int .i32 0), (.int .i32 0), (.int .i32 0)]⟩),
   (127, ⟨.arr 6 125, 12, 48, some [(.int .i32 0), (.int .i32 0), (.int .i32 0), (.int .i32 0), (.int .i32 0), (.int .i32 0), (.int .i32 0), (.int .i32 0), (.int .i32 0), (.int .i32 0), (.int .i32 0), (.int .i32 0)]⟩),
   (129, ⟨.slice 21, 1, 24, some [(.slice none 0 0)]⟩),
   (131, ⟨.slice 125, 1, 24, some [(.slice none 0 0)]⟩),
   (136, ⟨.struct [(64, 0), (4, 19)], 20, 96, some [(.int .u64 0), (.int .u64 0), (.int .i32 0), (.int .i32 0), (.int .i32 0), (.int .i32 0), (.int .u8 0), (.int .u8 0), (.int .u8 0), (.int .i32 0), (.int .i32 0), (.int .i32 0), (.int .i32 0), (.int .u8 0), (.int .u8 0), (.int .u8 0), (.slice none 0 0), (.int .u16 0), (.int .u16 0), (.bool false)]⟩),
   (137, ⟨.struct [(64, 0), (4, 19)], 20, 96, some [(.int .u64 0), (.int .u64 0), (.int .i32 0), (.int .i32 0), (.int .i32 0), (.int .i32 0), (.int .u8 0), (.int .u8 0), (.int .u8 0), (.int .i32 0), (.int .i32 0), (.int .i32 0), (.int .i32 0), (.int .u8 0), (.int .u8 0), (.int .u8 0), (.slice none 0 0), (.int .u16 0), (.int .u16 0), (.bool false)]⟩),
   (138, ⟨.arr 14 137, 280, 1344, none⟩),
   (139, ⟨.struct [(3, 0), (138, 1)], 281, 1352, some (([(.int .i64 0)] ++ repO 14 [(.int .u64 0), (.int .u64 0), (.int .i32 0), (.int .i32 0), (.int .i32 0), (.int .i32 0), (.int .u8 0), (.int .u8 0), (.int .u8 0), (.int .i32 0), (.int .i32 0), (.int .i32 0), (.int .i32 0), (.int .u8 0), (.int .u8 0), (.int .u8 0), (.slice none 0 0), (.int .u16 0), (.int .u16 0), (.bool false)]))⟩),
   (140, ⟨.struct [(3, 0), (138, 1)], 281, 1352, some (([(.int .i64 0)] ++ repO 14 [(.int .u64 0), (.int .u64 0), (.int .i32 0), (.int .i32 0), (.int .i32 0), (.int .i32 0), (.int .u8 0), (.int .u8 0), (.int .u8 0), (.int .i32 0), (.int .i32 0), (.int .i32 0), (.int .i32 0), (.int .u8 0), (.int .u8 0), (.int .u8 0), (.slice none 0 0), (.int .u16 0), (.int .u16 0), (.bool false)]))⟩),
   (141, ⟨.ptr 137, 1, 8, some [(.pointer none)]⟩),
   (144, ⟨.ptr 58, 1, 8, some [(.pointer none)]⟩),
   (148, ⟨.struct [(21, 0), (21, 1), (21, 2), (21, 3)], 4, 16, some [(.int .i32 0), (.int .i32 0), (.int .i32 0), (.int .i32 0)]⟩),
   (149, ⟨.struct [(21, 0), (21, 1), (21, 2), (21, 3)], 4, 16, some [(.int .i32 0), (.int .i32 0), (.int .i32 0), (.int .i32 0)]⟩),
   (152, ⟨.ptr 64, 1, 8, some [(.pointer none)]⟩),
   (156, ⟨.slice 137, 1, 24, some [(.slice none 0 0)]⟩),
   (167, ⟨.struct [(2, 0), (2, 1)], 2, 16, some [(.int .i64 0), (.int .i64 0)]⟩),
   (168, ⟨.struct [(2, 0), (2, 1)], 2, 16, some [(.int .i64 0), (.int .i64 0)]⟩),
   (169, ⟨.struct [(22, 0)], 1, 8, some [(.int .u64 0)]⟩),
   (170, ⟨.struct [(22, 0)], 1, 8, some [(.int .u64 0)]⟩),
   (182, ⟨.int .u64, 1, 8, some [(.int .u64 0)]⟩),
   (199, ⟨.int .u32, 1, 4, some [(.int .u32 0)]⟩),
   (203, ⟨.ptr 5, 1, 8, some [(.pointer none)]⟩)]

theorem tok2 : TOk Tryz.prog 2 ⟨.int .i64, 1, 8, some [(.int .i64 0)]⟩ := ⟨⟨_, Tryz.underlying2, rfl⟩, Tryz.sizeOf2, fun w => ⟨_, Tryz.typeInfo2 w, rfl⟩, fun z hz w => by cases hz; exact ⟨_, Tryz.zeroValue2 w, rfl⟩⟩
theorem tok3 : TOk Tryz.prog 3 ⟨.int .i64, 1, 8, some [(.int .i64 0)]⟩ := ⟨⟨_, Tryz.underlying3, rfl⟩, Tryz.sizeOf3, fun w => ⟨_, Tryz.typeInfo3 w, rfl⟩, fun z hz w => by cases hz; exact ⟨_, Tryz.zeroValue3 w, rfl⟩⟩
theorem tok4 : TOk Tryz.prog 4 ⟨.bool, 1, 1, some [(.bool false)]⟩ := ⟨⟨_, Tryz.underlying4, rfl⟩, Tryz.sizeOf4, fun w => ⟨_, Tryz.typeInfo4 w, rfl⟩, fun z hz w => by cases hz; exact ⟨_, Tryz.zeroValue4 w, rfl⟩⟩
theorem tok5 : TOk Tryz.prog 5 ⟨.int .u8, 1, 1, some [(.int .u8 0)]⟩ := ⟨⟨_, Tryz.underlying5, rfl⟩, Tryz.sizeOf5, fun w => ⟨_, Tryz.typeInfo5 w, rfl⟩, fun z hz w => by cases hz; exact ⟨_, Tryz.zeroValue5 w, rfl⟩⟩
theorem tok9 : TOk Tryz.prog 9 ⟨.str, 1, 16, some [(.string ByteArray.empty)]⟩ := ⟨⟨_, Tryz.underlying9, rfl⟩, Tryz.sizeOf9, fun w => ⟨_, Tryz.typeInfo9 w, rfl⟩, fun z hz w => by cases hz; exact ⟨_, Tryz.zeroValue9 w, rfl⟩⟩
theorem tok12 : TOk Tryz.prog 12 ⟨.int .u64, 1, 8, some [(.int .u64 0)]⟩ := ⟨⟨_, Tryz.underlying12, rfl⟩, Tryz.sizeOf12, fun w => ⟨_, Tryz.typeInfo12 w, rfl⟩, fun z hz w => by cases hz; exact ⟨_, Tryz.zeroValue12 w, rfl⟩⟩
theorem tok21 : TOk Tryz.prog 21 ⟨.int .i32, 1, 4, some [(.int .i32 0)]⟩ := ⟨⟨_, Tryz.underlying21, rfl⟩, Tryz.sizeOf21, fun w => ⟨_, Tryz.typeInfo21 w, rfl⟩, fun z hz w => by cases hz; exact ⟨_, Tryz.zeroValue21 w, rfl⟩⟩
theorem tok22 : TOk Tryz.prog 22 ⟨.int .u64, 1, 8, some [(.int .u64 0)]⟩ := ⟨⟨_, Tryz.underlying22, rfl⟩, Tryz.sizeOf22, fun w => ⟨_, Tryz.typeInfo22 w, rfl⟩, fun z hz w => by cases hz; exact ⟨_, Tryz.zeroValue22 w, rfl⟩⟩
theorem tok23 : TOk Tryz.prog 23 ⟨.slice 52, 1, 24, some [(.slice none 0 0)]⟩ := ⟨⟨_, Tryz.underlying23, rfl⟩, Tryz.sizeOf23, fun w => ⟨_, Tryz.typeInfo23 w, rfl⟩, fun z hz w => by cases hz; exact ⟨_, Tryz.zeroValue23 w, rfl⟩⟩
theorem tok24 : TOk Tryz.prog 24 ⟨.struct [(22, 0), (5, 1), (5, 2), (5, 3), (5, 4), (5, 5), (5, 6), (23, 7), (23, 8)], 9, 64, some [(.int .u64 0), (.int .u8 0), (.int .u8 0), (.int .u8 0), (.int .u8 0), (.int .u8 0), (.int .u8 0), (.slice none 0 0), (.slice none 0 0)]⟩ := ⟨⟨_, Tryz.underlying24, ⟨_, rfl, rfl⟩⟩, Tryz.sizeOf24, fun w => ⟨_, Tryz.typeInfo24 w, rfl⟩, fun z hz w => by cases hz; exact ⟨_, Tryz.zeroValue24 w, rfl⟩⟩
theorem tok25 : TOk Tryz.prog 25 ⟨.struct [(22, 0), (5, 1), (5, 2), (5, 3), (5, 4), (5, 5), (5, 6), (23, 7), (23, 8)], 9, 64, some [(.int .u64 0), (.int .u8 0), (.int .u8 0), (.int .u8 0), (.int .u8 0), (.int .u8 0), (.int .u8 0), (.slice none 0 0), (.slice none 0 0)]⟩ := ⟨⟨_, Tryz.underlying25, ⟨_, rfl, rfl⟩⟩, Tryz.sizeOf25, fun w => ⟨_, Tryz.typeInfo25 w, rfl⟩, fun z hz w => by cases hz; exact ⟨_, Tryz.zeroValue25 w, rfl⟩⟩
theorem tok26 : TOk Tryz.prog 26 ⟨.slice 54, 1, 24, some [(.slice none 0 0)]⟩ := ⟨⟨_, Tryz.underlying26, rfl⟩, Tryz.sizeOf26, fun w => ⟨_, Tryz.typeInfo26 w, rfl⟩, fun z hz w => by cases hz; exact ⟨_, Tryz.zeroValue26 w, rfl⟩⟩
theorem tok27 : TOk Tryz.prog 27 ⟨.struct [(5, 0), (22, 1), (26, 2), (23, 3)], 4, 64, some [(.int .u8 0), (.int .u64 0), (.slice none 0 0), (.slice none 0 0)]⟩ := ⟨⟨_, Tryz.underlying27, ⟨_, rfl, rfl⟩⟩, Tryz.sizeOf27, fun w => ⟨_, Tryz.typeInfo27 w, rfl⟩, fun z hz w => by cases hz; exact ⟨_, Tryz.zeroValue27 w, rfl⟩⟩
theorem tok28 : TOk Tryz.prog 28 ⟨.struct [(5, 0), (22, 1), (26, 2), (23, 3)], 4, 64, some [(.int .u8 0), (.int .u64 0), (.slice none 0 0), (.slice none 0 0)]⟩ := ⟨⟨_, Tryz.underlying28, ⟨_, rfl, rfl⟩⟩, Tryz.sizeOf28, fun w => ⟨_, Tryz.typeInfo28 w, rfl⟩, fun z hz w => by cases hz; exact ⟨_, Tryz.zeroValue28 w, rfl⟩⟩
theorem tok30 : TOk Tryz.prog 30 ⟨.ptr 97, 1, 8, some [(.pointer none)]⟩ := ⟨⟨_, Tryz.underlying30, rfl⟩, Tryz.sizeOf30, fun w => ⟨_, Tryz.typeInfo30 w, rfl⟩, fun z hz w => by cases hz; exact ⟨_, Tryz.zeroValue30 w, rfl⟩⟩
theorem tok31 : TOk Tryz.prog 31 ⟨.ptr 105, 1, 8, some [(.pointer none)]⟩ := ⟨⟨_, Tryz.underlying31, rfl⟩, Tryz.sizeOf31, fun w => ⟨_, Tryz.typeInfo31 w, rfl⟩, fun z hz w => by cases hz; exact ⟨_, Tryz.zeroValue31 w, rfl⟩⟩
theorem tok34 : TOk Tryz.prog 34 ⟨.ptr 88, 1, 8, some [(.pointer none)]⟩ := ⟨⟨_, Tryz.underlying34, rfl⟩, Tryz.sizeOf34, fun w => ⟨_, Tryz.typeInfo34 w, rfl⟩, fun z hz w => by cases hz; exact ⟨_, Tryz.zeroValue34 w, rfl⟩⟩
theorem tok35 : TOk Tryz.prog 35 ⟨.ptr 77, 1, 8, some [(.pointer none)]⟩ := ⟨⟨_, Tryz.underlying35, rfl⟩, Tryz.sizeOf35, fun w => ⟨_, Tryz.typeInfo35 w, rfl⟩, fun z hz w => by cases hz; exact ⟨_, Tryz.zeroValue35 w, rfl⟩⟩
theorem tok41 : TOk Tryz.prog 41 ⟨.int .i64, 1, 8, some [(.int .i64 0)]⟩ := ⟨⟨_, Tryz.underlying41, rfl⟩, Tryz.sizeOf41, fun w => ⟨_, Tryz.typeInfo41 w, rfl⟩, fun z hz w => by cases hz; exact ⟨_, Tryz.zeroValue41 w, rfl⟩⟩
theorem tok52 : TOk Tryz.prog 52 ⟨.int .u8, 1, 1, some [(.int .u8 0)]⟩ := ⟨⟨_, Tryz.underlying52, rfl⟩, Tryz.sizeOf52, fun w => ⟨_, Tryz.typeInfo52 w, rfl⟩, fun z hz w => by cases hz; exact ⟨_, Tryz.zeroValue52 w, rfl⟩⟩
theorem tok53 : TOk Tryz.prog 53 ⟨.arr 2 52, 2, 2, some [(.int .u8 0), (.int .u8 0)]⟩ := ⟨⟨_, Tryz.underlying53, rfl⟩, Tryz.sizeOf53, fun w => ⟨_, Tryz.typeInfo53 w, rfl⟩, fun z hz w => by cases hz; exact ⟨_, Tryz.zeroValue53 w, rfl⟩⟩
theorem tok54 : TOk Tryz.prog 54 ⟨.arr 2 52, 2, 2, some [(.int .u8 0), (.int .u8 0)]⟩ := ⟨⟨_, Tryz.underlying54, rfl⟩, Tryz.sizeOf54, fun w => ⟨_, Tryz.typeInfo54 w, rfl⟩, fun z hz w => by cases hz; exact ⟨_, Tryz.zeroValue54 w, rfl⟩⟩
theorem tok57 : TOk Tryz.prog 57 ⟨.struct [(21, 0), (21, 1), (21, 2), (21, 3), (5, 4), (5, 5), (5, 6)], 7, 20, some [(.int .i32 0), (.int .i32 0), (.int .i32 0), (.int .i32 0), (.int .u8 0), (.int .u8 0), (.int .u8 0)]⟩ := ⟨⟨_, Tryz.underlying57, ⟨_, rfl, rfl⟩⟩, Tryz.sizeOf57, fun w => ⟨_, Tryz.typeInfo57 w, rfl⟩, fun z hz w => by cases hz; exact ⟨_, Tryz.zeroValue57 w, rfl⟩⟩
theorem tok58 : TOk Tryz.prog 58 ⟨.struct [(21, 0), (21, 1), (21, 2), (21, 3), (5, 4), (5, 5), (5, 6)], 7, 20, some [(.int .i32 0), (.int .i32 0), (.int .i32 0), (.int .i32 0), (.int .u8 0), (.int .u8 0), (.int .u8 0)]⟩ := ⟨⟨_, Tryz.underlying58, ⟨_, rfl, rfl⟩⟩, Tryz.sizeOf58, fun w => ⟨_, Tryz.typeInfo58 w, rfl⟩, fun z hz w => by cases hz; exact ⟨_, Tryz.zeroValue58 w, rfl⟩⟩
theorem tok59 : TOk Tryz.prog 59 ⟨.arr 2 58, 14, 40, some [(.int .i32 0), (.int .i32 0), (.int .i32 0), (.int .i32 0), (.int .u8 0), (.int .u8 0), (.int .u8 0), (.int .i32 0), (.int .i32 0), (.int .i32 0), (.int .i32 0), (.int .u8 0), (.int .u8 0), (.int .u8 0)]⟩ := ⟨⟨_, Tryz.underlying59, rfl⟩, Tryz.sizeOf59, fun w => ⟨_, Tryz.typeInfo59 w, rfl⟩, fun z hz w => by cases hz; exact ⟨_, Tryz.zeroValue59 w, rfl⟩⟩
theorem tok60 : TOk Tryz.prog 60 ⟨.slice 119, 1, 24, some [(.slice none 0 0)]⟩ := ⟨⟨_, Tryz.underlying60, rfl⟩, Tryz.sizeOf60, fun w => ⟨_, Tryz.typeInfo60 w, rfl⟩, fun z hz w => by cases hz; exact ⟨_, Tryz.zeroValue60 w, rfl⟩⟩
theorem tok61 : TOk Tryz.prog 61 ⟨.int .u16, 1, 2, some [(.int .u16 0)]⟩ := ⟨⟨_, Tryz.underlying61, rfl⟩, Tryz.sizeOf61, fun w => ⟨_, Tryz.typeInfo61 w, rfl⟩, fun z hz w => by cases hz; exact ⟨_, Tryz.zeroValue61 w, rfl⟩⟩
theorem tok62 : TOk Tryz.prog 62 ⟨.arr 2 61, 2, 4, some [(.int .u16 0), (.int .u16 0)]⟩ := ⟨⟨_, Tryz.underlying62, rfl⟩, Tryz.sizeOf62, fun w => ⟨_, Tryz.typeInfo62 w, rfl⟩, fun z hz w => by cases hz; exact ⟨_, Tryz.zeroValue62 w, rfl⟩⟩
theorem tok63 : TOk Tryz.prog 63 ⟨.struct [(22, 0), (22, 1), (59, 2), (60, 16), (62, 17)], 19, 88, some [(.int .u64 0), (.int .u64 0), (.int .i32 0), (.int .i32 0), (.int .i32 0), (.int .i32 0), (.int .u8 0), (.int .u8 0), (.int .u8 0), (.int .i32 0), (.int .i32 0), (.int .i32 0), (.int .i32 0), (.int .u8 0), (.int .u8 0), (.int .u8 0), (.slice none 0 0), (.int .u16 0), (.int .u16 0)]⟩ := ⟨⟨_, Tryz.underlying63, ⟨_, rfl, rfl⟩⟩, Tryz.sizeOf63, fun w => ⟨_, Tryz.typeInfo63 w, rfl⟩, fun z hz w => by cases hz; exact ⟨_, Tryz.zeroValue63 w, rfl⟩⟩
theorem tok64 : TOk Tryz.prog 64 ⟨.struct [(22, 0), (22, 1), (59, 2), (60, 16), (62, 17)], 19, 88, some [(.int .u64 0), (.int .u64 0), (.int .i32 0), (.int .i32 0), (.int .i32 0), (.int .i32 0), (.int .u8 0), (.int .u8 0), (.int .u8 0), (.int .i32 0), (.int .i32 0), (.int .i32 0), (.int .i32 0), (.int .u8 0), (.int .u8 0), (.int .u8 0), (.slice none 0 0), (.int .u16 0), (.int .u16 0)]⟩ := ⟨⟨_, Tryz.underlying64, ⟨_, rfl, rfl⟩⟩, Tryz.sizeOf64, fun w => ⟨_, Tryz.typeInfo64 w, rfl⟩, fun z hz w => by cases hz; exact ⟨_, Tryz.zeroValue64 w, rfl⟩⟩
theorem tok76 : TOk Tryz.prog 76 ⟨.struct [(22, 0), (3, 1), (26, 2)], 3, 40, some [(.int .u64 0), (.int .i64 0), (.slice none 0 0)]⟩ := ⟨⟨_, Tryz.underlying76, ⟨_, rfl, rfl⟩⟩, Tryz.sizeOf76, fun w => ⟨_, Tryz.typeInfo76 w, rfl⟩, fun z hz w => by cases hz; exact ⟨_, Tryz.zeroValue76 w, rfl⟩⟩
theorem tok77 : TOk Tryz.prog 77 ⟨.struct [(22, 0), (3, 1), (26, 2)], 3, 40, some [(.int .u64 0), (.int .i64 0), (.slice none 0 0)]⟩ := ⟨⟨_, Tryz.underlying77, ⟨_, rfl, rfl⟩⟩, Tryz.sizeOf77, fun w => ⟨_, Tryz.typeInfo77 w, rfl⟩, fun z hz w => by cases hz; exact ⟨_, Tryz.zeroValue77 w, rfl⟩⟩
theorem tok86 : TOk Tryz.prog 86 ⟨.ptr 117, 1, 8, some [(.pointer none)]⟩ := ⟨⟨_, Tryz.underlying86, rfl⟩, Tryz.sizeOf86, fun w => ⟨_, Tryz.typeInfo86 w, rfl⟩, fun z hz w => by cases hz; exact ⟨_, Tryz.zeroValue86 w, rfl⟩⟩
theorem tok87 : TOk Tryz.prog 87 ⟨.struct [(5, 0), (3, 1), (64, 2), (23, 21), (86, 22)], 23, 136, some [(.int .u8 0), (.int .i64 0), (.int .u64 0), (.int .u64 0), (.int .i32 0), (.int .i32 0), (.int .i32 0), (.int .i32 0), (.int .u8 0), (.int .u8 0), (.int .u8 0), (.int .i32 0), (.int .i32 0), (.int .i32 0), (.int .i32 0), (.int .u8 0), (.int .u8 0), (.int .u8 0), (.slice none 0 0), (.int .u16 0), (.int .u16 0), (.slice none 0 0), (.pointer none)]⟩ := ⟨⟨_, Tryz.underlying87, ⟨_, rfl, rfl⟩⟩, Tryz.sizeOf87, fun w => ⟨_, Tryz.typeInfo87 w, rfl⟩, fun z hz w => by cases hz; exact ⟨_, Tryz.zeroValue87 w, rfl⟩⟩
theorem tok88 : TOk Tryz.prog 88 ⟨.struct [(5, 0), (3, 1), (64, 2), (23, 21), (86, 22)], 23, 136, some [(.int .u8 0), (.int .i64 0), (.int .u64 0), (.int .u64 0), (.int .i32 0), (.int .i32 0), (.int .i32 0), (.int .i32 0), (.int .u8 0), (.int .u8 0), (.int .u8 0), (.int .i32 0), (.int .i32 0), (.int .i32 0), (.int .i32 0), (.int .u8 0), (.int .u8 0), (.int .u8 0), (.slice none 0 0), (.int .u16 0), (.int .u16 0), (.slice none 0 0), (.pointer none)]⟩ := ⟨⟨_, Tryz.underlying88, ⟨_, rfl, rfl⟩⟩, Tryz.sizeOf88, fun w => ⟨_, Tryz.typeInfo88 w, rfl⟩, fun z hz w => by cases hz; exact ⟨_, Tryz.zeroValue88 w, rfl⟩⟩
theorem tok94 : TOk Tryz.prog 94 ⟨.ptr 124, 1, 8, some [(.pointer none)]⟩ := ⟨⟨_, Tryz.underlying94, rfl⟩, Tryz.sizeOf94, fun w => ⟨_, Tryz.typeInfo94 w, rfl⟩, fun z hz w => by cases hz; exact ⟨_, Tryz.zeroValue94 w, rfl⟩⟩
theorem tok95 : TOk Tryz.prog 95 ⟨.ptr 140, 1, 8, some [(.pointer none)]⟩ := ⟨⟨_, Tryz.underlying95, rfl⟩, Tryz.sizeOf95, fun w => ⟨_, Tryz.typeInfo95 w, rfl⟩, fun z hz w => by cases hz; exact ⟨_, Tryz.zeroValue95 w, rfl⟩⟩
theorem tok96 : TOk Tryz.prog 96 ⟨.struct [(5, 0), (3, 1), (64, 2), (23, 21), (94, 22), (95, 23)], 24, 144, some [(.int .u8 0), (.int .i64 0), (.int .u64 0), (.int .u64 0), (.int .i32 0), (.int .i32 0), (.int .i32 0), (.int .i32 0), (.int .u8 0), (.int .u8 0), (.int .u8 0), (.int .i32 0), (.int .i32 0), (.int .i32 0), (.int .i32 0), (.int .u8 0), (.int .u8 0), (.int .u8 0), (.slice none 0 0), (.int .u16 0), (.int .u16 0), (.slice none 0 0), (.pointer none), (.pointer none)]⟩ := ⟨⟨_, Tryz.underlying96, ⟨_, rfl, rfl⟩⟩, Tryz.sizeOf96, fun w => ⟨_, Tryz.typeInfo96 w, rfl⟩, fun z hz w => by cases hz; exact ⟨_, Tryz.zeroValue96 w, rfl⟩⟩
theorem tok97 : TOk Tryz.prog 97 ⟨.struct [(5, 0), (3, 1), (64, 2), (23, 21), (94, 22), (95, 23)], 24, 144, some [(.int .u8 0), (.int .i64 0), (.int .u64 0), (.int .u64 0), (.int .i32 0), (.int .i32 0), (.int .i32 0), (.int .i32 0), (.int .u8 0), (.int .u8 0), (.int .u8 0), (.int .i32 0), (.int .i32 0), (.int .i32 0), (.int .i32 0), (.int .u8 0), (.int .u8 0), (.int .u8 0), (.slice none 0 0), (.int .u16 0), (.int .u16 0), (.slice none 0 0), (.pointer none), (.pointer none)]⟩ := ⟨⟨_, Tryz.underlying97, ⟨_, rfl, rfl⟩⟩, Tryz.sizeOf97, fun w => ⟨_, Tryz.typeInfo97 w, rfl⟩, fun z hz w => by cases hz; exact ⟨_, Tryz.zeroValue97 w, rfl⟩⟩
theorem tok103 : TOk Tryz.prog 103 ⟨.arr 256 54, 512, 512, none⟩ := ⟨⟨_, Tryz.underlying103, rfl⟩, Tryz.sizeOf103, fun w => ⟨_, Tryz.typeInfo103 w, rfl⟩, fun z hz w => by cases hz⟩
theorem tok104 : TOk Tryz.prog 104 ⟨.struct [(22, 0), (22, 1), (22, 2), (103, 3)], 515, 536, some (([(.int .u64 0), (.int .u64 0), (.int .u64 0)] ++ flat (e2 .u8) (Arr.rep 256 ((0 : Int), (0 : Int))).1))⟩ := ⟨⟨_, Tryz.underlying104, ⟨_, rfl, rfl⟩⟩, Tryz.sizeOf104, fun w => ⟨_, Tryz.typeInfo104 w, rfl⟩, fun z hz w => by cases hz; exact ⟨_, Tryz.zeroValue104 w, by kernel_rfl⟩⟩
theorem tok105 : TOk Tryz.prog 105 ⟨.struct [(22, 0), (22, 1), (22, 2), (103, 3)], 515, 536, some (([(.int .u64 0), (.int .u64 0), (.int .u64 0)] ++ flat (e2 .u8) (Arr.rep 256 ((0 : Int), (0 : Int))).1))⟩ := ⟨⟨_, Tryz.underlying105, ⟨_, rfl, rfl⟩⟩, Tryz.sizeOf105, fun w => ⟨_, Tryz.typeInfo105 w, rfl⟩, fun z hz w => by cases hz; exact ⟨_, Tryz.zeroValue105 w, by kernel_rfl⟩⟩
theorem tok116 : TOk Tryz.prog 116 ⟨.struct [(22, 0), (22, 1), (23, 2)], 3, 40, some [(.int .u64 0), (.int .u64 0), (.slice none 0 0)]⟩ := ⟨⟨_, Tryz.underlying116, ⟨_, rfl, rfl⟩⟩, Tryz.sizeOf116, fun w => ⟨_, Tryz.typeInfo116 w, rfl⟩, fun z hz w => by cases hz; exact ⟨_, Tryz.zeroValue116 w, rfl⟩⟩
theorem tok117 : TOk Tryz.prog 117 ⟨.struct [(22, 0), (22, 1), (23, 2)], 3, 40, some [(.int .u64 0), (.int .u64 0), (.slice none 0 0)]⟩ := ⟨⟨_, Tryz.underlying117, ⟨_, rfl, rfl⟩⟩, Tryz.sizeOf117, fun w => ⟨_, Tryz.typeInfo117 w, rfl⟩, fun z hz w => by cases hz; exact ⟨_, Tryz.zeroValue117 w, rfl⟩⟩
theorem tok118 : TOk Tryz.prog 118 ⟨.struct [(21, 0), (21, 1), (21, 2), (21, 3), (5, 4), (5, 5)], 6, 20, some [(.int .i32 0), (.int .i32 0), (.int .i32 0), (.int .i32 0), (.int .u8 0), (.int .u8 0)]⟩ := ⟨⟨_, Tryz.underlying118, ⟨_, rfl, rfl⟩⟩, Tryz.sizeOf118, fun w => ⟨_, Tryz.typeInfo118 w, rfl⟩, fun z hz w => by cases hz; exact ⟨_, Tryz.zeroValue118 w, rfl⟩⟩
theorem tok119 : TOk Tryz.prog 119 ⟨.struct [(21, 0), (21, 1), (21, 2), (21, 3), (5, 4), (5, 5)], 6, 20, some [(.int .i32 0), (.int .i32 0), (.int .i32 0), (.int .i32 0), (.int .u8 0), (.int .u8 0)]⟩ := ⟨⟨_, Tryz.underlying119, ⟨_, rfl, rfl⟩⟩, Tryz.sizeOf119, fun w => ⟨_, Tryz.typeInfo119 w, rfl⟩, fun z hz w => by cases hz; exact ⟨_, Tryz.zeroValue119 w, rfl⟩⟩
theorem tok123 : TOk Tryz.prog 123 ⟨.struct [(22, 0), (23, 1), (52, 2)], 3, 40, some [(.int .u64 0), (.slice none 0 0), (.int .u8 0)]⟩ := ⟨⟨_, Tryz.underlying123, ⟨_, rfl, rfl⟩⟩, Tryz.sizeOf123, fun w => ⟨_, Tryz.typeInfo123 w, rfl⟩, fun z hz w => by cases hz; exact ⟨_, Tryz.zeroValue123 w, rfl⟩⟩
theorem tok124 : TOk Tryz.prog 124 ⟨.struct [(22, 0), (23, 1), (52, 2)], 3, 40, some [(.int .u64 0), (.slice none 0 0), (.int .u8 0)]⟩ := ⟨⟨_, Tryz.underlying124, ⟨_, rfl, rfl⟩⟩, Tryz.sizeOf124, fun w => ⟨_, Tryz.typeInfo124 w, rfl⟩, fun z hz w => by cases hz; exact ⟨_, Tryz.zeroValue124 w, rfl⟩⟩
theorem tok125 : TOk Tryz.prog 125 ⟨.arr 2 21, 2, 8, some [(.int .i32 0), (.int .i32 0)]⟩ := ⟨⟨_, Tryz.underlying125, rfl⟩, Tryz.sizeOf125, fun w => ⟨_, Tryz.typeInfo125 w, rfl⟩, fun z hz w => by cases hz; exact ⟨_, Tryz.zeroValue125 w, rfl⟩⟩
theorem tok126 : TOk Tryz.prog 126 ⟨.arr 7 125, 14, 56, some [(.int .i32 0), (.int .i32 0), (.int .i32 0), (.int .i32 0), (.int .i32 0), (.int .i32 0), (.int .i32 0), (.int .i32 0), (.int .i32 0), (.int .i32 0), (.int .i32 0), (.int .i32 0), (.int .i32 0), (.int .i32 0)]⟩ := ⟨⟨_, Tryz.underlying126, rfl⟩, Tryz.sizeOf126, fun w => ⟨_, Tryz.typeInfo126 w, rfl⟩, fun z hz w => by cases hz; exact ⟨_, Tryz.zeroValue126 w, rfl⟩⟩
theorem tok127 : TOk Tryz.prog 127 ⟨.arr 6 125, 12, 48, some [(.int .i32 0), (.int .i32 0), (.int .i32 0), (.int .i32 0), (.int .i32 0), (.int .i32 0), (.int .i32 0), (.int .i32 0), (.int .i32 0), (.int .i32 0), (.int .i32 0), (.int .i32 0)]⟩ := ⟨⟨_, Tryz.underlying127, rfl⟩, Tryz.sizeOf127, fun w => ⟨_, Tryz.typeInfo127 w, rfl⟩, fun z hz w => by cases hz; exact ⟨_, Tryz.zeroValue127 w, rfl⟩⟩
theorem tok129 : TOk Tryz.prog 129 ⟨.slice 21, 1, 24, some [(.slice none 0 0)]⟩ := ⟨⟨_, Tryz.underlying129, rfl⟩, Tryz.sizeOf129, fun w => ⟨_, Tryz.typeInfo129 w, rfl⟩, fun z hz w => by cases hz; exact ⟨_, Tryz.zeroValue129 w, rfl⟩⟩
theorem tok131 : TOk Tryz.prog 131 ⟨.slice 125, 1, 24, some [(.slice none 0 0)]⟩ := ⟨⟨_, Tryz.underlying131, rfl⟩, Tryz.sizeOf131, fun w => ⟨_, Tryz.typeInfo131 w, rfl⟩, fun z hz w => by cases hz; exact ⟨_, Tryz.zeroValue131 w, rfl⟩⟩
theorem tok136 : TOk Tryz.prog 136 ⟨.struct [(64, 0), (4, 19)], 20, 96, some [(.int .u64 0), (.int .u64 0), (.int .i32 0), (.int .i32 0), (.int .i32 0), (.int .i32 0), (.int .u8 0), (.int .u8 0), (.int .u8 0), (.int .i32 0), (.int .i32 0), (.int .i32 0), (.int .i32 0), (.int .u8 0), (.int .u8 0), (.int .u8 0), (.slice none 0 0), (.int .u16 0), (.int .u16 0), (.bool false)]⟩ := ⟨⟨_, Tryz.underlying136, ⟨_, rfl, rfl⟩⟩, Tryz.sizeOf136, fun w => ⟨_, Tryz.typeInfo136 w, rfl⟩, fun z hz w => by cases hz; exact ⟨_, Tryz.zeroValue136 w, rfl⟩⟩
theorem tok137 : TOk Tryz.prog 137 ⟨.struct [(64, 0), (4, 19)], 20, 96, some [(.int .u64 0), (.int .u64 0), (.int .i32 0), (.int .i32 0), (.int .i32 0), (.int .i32 0), (.int .u8 0), (.int .u8 0), (.int .u8 0), (.int .i32 0), (.int .i32 0), (.int .i32 0), (.int .i32 0), (.int .u8 0), (.int .u8 0), (.int .u8 0), (.slice none 0 0), (.int .u16 0), (.int .u16 0), (.bool false)]⟩ := ⟨⟨_, Tryz.underlying137, ⟨_, rfl, rfl⟩⟩, Tryz.sizeOf137, fun w => ⟨_, Tryz.typeInfo137 w, rfl⟩, fun z hz w => by cases hz; exact ⟨_, Tryz.zeroValue137 w, rfl⟩⟩
theorem tok138 : TOk Tryz.prog 138 ⟨.arr 14 137, 280, 1344, none⟩ := ⟨⟨_, Tryz.underlying138, rfl⟩, Tryz.sizeOf138, fun w => ⟨_, Tryz.typeInfo138 w, rfl⟩, fun z hz w => by cases hz⟩
theorem tok139 : TOk Tryz.prog 139 ⟨.struct [(3, 0), (138, 1)], 281, 1352, some (([(.int .i64 0)] ++ repO 14 [(.int .u64 0), (.int .u64 0), (.int .i32 0), (.int .i32 0), (.int .i32 0), (.int .i32 0), (.int .u8 0), (.int .u8 0), (.int .u8 0), (.int .i32 0), (.int .i32 0), (.int .i32 0), (.int .i32 0), (.int .u8 0), (.int .u8 0), (.int .u8 0), (.slice none 0 0), (.int .u16 0), (.int .u16 0), (.bool false)]))⟩ := ⟨⟨_, Tryz.underlying139, ⟨_, rfl, rfl⟩⟩, Tryz.sizeOf139, fun w => ⟨_, Tryz.typeInfo139 w, rfl⟩, fun z hz w => by cases hz; exact ⟨_, Tryz.zeroValue139 w, by kernel_rfl⟩⟩
theorem tok140 : TOk Tryz.prog 140 ⟨.struct [(3, 0), (138, 1)], 281, 1352, some (([(.int .i64 0)] ++ repO 14 [(.int .u64 0), (.int .u64 0), (.int .i32 0), (.int .i32 0), (.int .i32 0), (.int .i32 0), (.int .u8 0), (.int .u8 0), (.int .u8 0), (.int .i32 0), (.int .i32 0), (.int .i32 0), (.int .i32 0), (.int .u8 0), (.int .u8 0), (.int .u8 0), (.slice none 0 0), (.int .u16 0), (.int .u16 0), (.bool false)]))⟩ := ⟨⟨_, Tryz.underlying140, ⟨_, rfl, rfl⟩⟩, Tryz.sizeOf140, fun w => ⟨_, Tryz.typeInfo140 w, rfl⟩, fun z hz w => by cases hz; exact ⟨_, Tryz.zeroValue140 w, by kernel_rfl⟩⟩
theorem tok141 : TOk Tryz.prog 141 ⟨.ptr 137, 1, 8, some [(.pointer none)]⟩ := ⟨⟨_, Tryz.underlying141, rfl⟩, Tryz.sizeOf141, fun w => ⟨_, Tryz.typeInfo141 w, rfl⟩, fun z hz w => by cases hz; exact ⟨_, Tryz.zeroValue141 w, rfl⟩⟩
theorem tok144 : TOk Tryz.prog 144 ⟨.ptr 58, 1, 8, some [(.pointer none)]⟩ := ⟨⟨_, Tryz.underlying144, rfl⟩, Tryz.sizeOf144, fun w => ⟨_, Tryz.typeInfo144 w, rfl⟩, fun z hz w => by cases hz; exact ⟨_, Tryz.zeroValue144 w, rfl⟩⟩
theorem tok148 : TOk Tryz.prog 148 ⟨.struct [(21, 0), (21, 1), (21, 2), (21, 3)], 4, 16, some [(.int .i32 0), (.int .i32 0), (.int .i32 0), (.int .i32 0)]⟩ := ⟨⟨_, Tryz.underlying148, ⟨_, rfl, rfl⟩⟩, Tryz.sizeOf148, fun w => ⟨_, Tryz.typeInfo148 w, rfl⟩, fun z hz w => by cases hz; exact ⟨_, Tryz.zeroValue148 w, rfl⟩⟩
theorem tok149 : TOk Tryz.prog 149 ⟨.struct [(21, 0), (21, 1), (21, 2), (21, 3)], 4, 16, some [(.int .i32 0), (.int .i32 0), (.int .i32 0), (.int .i32 0)]⟩ := ⟨⟨_, Tryz.underlying149, ⟨_, rfl, rfl⟩⟩, Tryz.sizeOf149, fun w => ⟨_, Tryz.typeInfo149 w, rfl⟩, fun z hz w => by cases hz; exact ⟨_, Tryz.zeroValue149 w, rfl⟩⟩
theorem tok152 : TOk Tryz.prog 152 ⟨.ptr 64, 1, 8, some [(.pointer none)]⟩ := ⟨⟨_, Tryz.underlying152, rfl⟩, Tryz.sizeOf152, fun w => ⟨_, Tryz.typeInfo152 w, rfl⟩, fun z hz w => by cases hz; exact ⟨_, Tryz.zeroValue152 w, rfl⟩⟩
theorem tok156 : TOk Tryz.prog 156 ⟨.slice 137, 1, 24, some [(.slice none 0 0)]⟩ := ⟨⟨_, Tryz.underlying156, rfl⟩, Tryz.sizeOf156, fun w => ⟨_, Tryz.typeInfo156 w, rfl⟩, fun z hz w => by cases hz; exact ⟨_, Tryz.zeroValue156 w, rfl⟩⟩
theorem tok167 : TOk Tryz.prog 167 ⟨.struct [(2, 0), (2, 1)], 2, 16, some [(.int .i64 0), (.int .i64 0)]⟩ := ⟨⟨_, Tryz.underlying167, ⟨_, rfl, rfl⟩⟩, Tryz.sizeOf167, fun w => ⟨_, Tryz.typeInfo167 w, rfl⟩, fun z hz w => by cases hz; exact ⟨_, Tryz.zeroValue167 w, rfl⟩⟩
theorem tok168 : TOk Tryz.prog 168 ⟨.struct [(2, 0), (2, 1)], 2, 16, some [(.int .i64 0), (.int .i64 0)]⟩ := ⟨⟨_, Tryz.underlying168, ⟨_, rfl, rfl⟩⟩, Tryz.sizeOf168, fun w => ⟨_, Tryz.typeInfo168 w, rfl⟩, fun z hz w => by cases hz; exact ⟨_, Tryz.zeroValue168 w, rfl⟩⟩
theorem tok169 : TOk Tryz.prog 169 ⟨.struct [(22, 0)], 1, 8, some [(.int .u64 0)]⟩ := ⟨⟨_, Tryz.underlying169, ⟨_, rfl, rfl⟩⟩, Tryz.sizeOf169, fun w => ⟨_, Tryz.typeInfo169 w, rfl⟩, fun z hz w => by cases hz; exact ⟨_, Tryz.zeroValue169 w, rfl⟩⟩
theorem tok170 : TOk Tryz.prog 170 ⟨.struct [(22, 0)], 1, 8, some [(.int .u64 0)]⟩ := ⟨⟨_, Tryz.underlying170, ⟨_, rfl, rfl⟩⟩, Tryz.sizeOf170, fun w => ⟨_, Tryz.typeInfo170 w, rfl⟩, fun z hz w => by cases hz; exact ⟨_, Tryz.zeroValue170 w, rfl⟩⟩
theorem tok182 : TOk Tryz.prog 182 ⟨.int .u64, 1, 8, some [(.int .u64 0)]⟩ := ⟨⟨_, Tryz.underlying182, rfl⟩, Tryz.sizeOf182, fun w => ⟨_, Tryz.typeInfo182 w, rfl⟩, fun z hz w => by cases hz; exact ⟨_, Tryz.zeroValue182 w, rfl⟩⟩
theorem tok199 : TOk Tryz.prog 199 ⟨.int .u32, 1, 4, some [(.int .u32 0)]⟩ := ⟨⟨_, Tryz.underlying199, rfl⟩, Tryz.sizeOf199, fun w => ⟨_, Tryz.typeInfo199 w, rfl⟩, fun z hz w => by cases hz; exact ⟨_, Tryz.zeroValue199 w, rfl⟩⟩
theorem tok203 : TOk Tryz.prog 203 ⟨.ptr 5, 1, 8, some [(.pointer none)]⟩ := ⟨⟨_, Tryz.underlying203, rfl⟩, Tryz.sizeOf203, fun w => ⟨_, Tryz.typeInfo203 w, rfl⟩, fun z hz w => by cases hz; exact ⟨_, Tryz.zeroValue203 w, rfl⟩⟩
theorem ctt_ok : CTabOk Tryz.prog TT := by
  intro x hx
  simp only [TT, List.mem_cons, List.not_mem_nil, or_false] at hx
  rcases hx with rfl | rfl | rfl | rfl | rfl | rfl | rfl | rfl | rfl | rfl | rfl | rfl | rfl | rfl | rfl | rfl | rfl | rfl | rfl | rfl | rfl | rfl | rfl | rfl | rfl | rfl | rfl | rfl | rfl | rfl | rfl | rfl | rfl | rfl | rfl | rfl | rfl | rfl | rfl | rfl | rfl | rfl | rfl | rfl | rfl | rfl | rfl | rfl | rfl | rfl | rfl | rfl | rfl | rfl | rfl | rfl | rfl | rfl | rfl | rfl | rfl | rfl | rfl | rfl | rfl | rfl | rfl | rfl | rfl | rfl | rfl
  · exact ⟨by kernel_rfl, by kernel_rfl⟩
  · exact ⟨by kernel_rfl, by kernel_rfl⟩
  · exact ⟨by kernel_rfl, by kernel_rfl⟩
  · exact ⟨by kernel_rfl, by kernel_rfl⟩
  · exact ⟨by kernel_rfl, by kernel_rfl⟩
  · exact ⟨by kernel_rfl, by kernel_rfl⟩
  · exact ⟨by kernel_rfl, by kernel_rfl⟩
  · exact ⟨by kernel_rfl, by kernel_rfl⟩
  · exact ⟨by kernel_rfl, by kernel_rfl⟩
  · exact ⟨by kernel_rfl, by kernel_rfl⟩
  · exact ⟨by kernel_rfl, by kernel_rfl⟩
  · exact ⟨by kernel_rfl, by kernel_rfl⟩
  · exact ⟨by kernel_rfl, by kernel_rfl⟩
  · exact ⟨by kernel_rfl, by kernel_rfl⟩
  · exact ⟨by kernel_rfl, by kernel_rfl⟩
  · exact ⟨by kernel_rfl, by kernel_rfl⟩
  · exact ⟨by kernel_rfl, by kernel_rfl⟩
  · exact ⟨by kernel_rfl, by kernel_rfl⟩
  · exact ⟨by kernel_rfl, by kernel_rfl⟩
  · exact ⟨by kernel_rfl, by kernel_rfl⟩
  · exact ⟨by kernel_rfl, by kernel_rfl⟩
  · exact ⟨by kernel_rfl, by kernel_rfl⟩
  · exact ⟨by kernel_rfl, by kernel_rfl⟩
  · exact ⟨by kernel_rfl, by kernel_rfl⟩
  · exact ⟨by kernel_rfl, by kernel_rfl⟩
  · exact ⟨by kernel_rfl, by kernel_rfl⟩
  · exact ⟨by kernel_rfl, by kernel_rfl⟩
  · exact ⟨by kernel_rfl, by kernel_rfl⟩
  · exact ⟨by kernel_rfl, by kernel_rfl⟩
  · exact ⟨by kernel_rfl, by kernel_rfl⟩
  · exact ⟨by kernel_rfl, by kernel_rfl⟩
  · exact ⟨by kernel_rfl, by kernel_rfl⟩
  · exact ⟨by kernel_rfl, by kernel_rfl⟩
  · exact ⟨by kernel_rfl, by kernel_rfl⟩
  · exact ⟨by kernel_rfl, by kernel_rfl⟩
  · exact ⟨by kernel_rfl, by kernel_rfl⟩
  · exact ⟨by kernel_rfl, by kernel_rfl⟩
  · exact ⟨by kernel_rfl, by kernel_rfl⟩
  · exact ⟨by kernel_rfl, by kernel_rfl⟩
  · exact ⟨by kernel_rfl, by kernel_rfl⟩
  · exact ⟨by kernel_rfl, by kernel_rfl⟩
  · exact ⟨by kernel_rfl, by kernel_rfl⟩
  · exact ⟨by kernel_rfl, by kernel_rfl⟩
  · exact ⟨by kernel_rfl, by kernel_rfl⟩
  · exact ⟨by kernel_rfl, by kernel_rfl⟩
  · exact ⟨by kernel_rfl, by kernel_rfl⟩
  · exact ⟨by kernel_rfl, by kernel_rfl⟩
  · exact ⟨by kernel_rfl, by kernel_rfl⟩
  · exact ⟨by kernel_rfl, by kernel_rfl⟩
  · exact ⟨by kernel_rfl, by kernel_rfl⟩
  · exact ⟨by kernel_rfl, by kernel_rfl⟩
  · exact ⟨by kernel_rfl, by kernel_rfl⟩
  · exact ⟨by kernel_rfl, by kernel_rfl⟩
  · exact ⟨by kernel_rfl, by kernel_rfl⟩
  · exact ⟨by kernel_rfl, by kernel_rfl⟩
  · exact ⟨by kernel_rfl, by kernel_rfl⟩
  · exact ⟨by kernel_rfl, by kernel_rfl⟩
  · exact ⟨by kernel_rfl, by kernel_rfl⟩
  · exact ⟨by kernel_rfl, by kernel_rfl⟩
  · exact ⟨by kernel_rfl, by kernel_rfl⟩
  · exact ⟨by kernel_rfl, by kernel_rfl⟩
  · exact ⟨by kernel_rfl, by kernel_rfl⟩
  · exact ⟨by kernel_rfl, by kernel_rfl⟩
  · exact ⟨by kernel_rfl, by kernel_rfl⟩
  · exact ⟨by kernel_rfl, by kernel_rfl⟩
  · exact ⟨by kernel_rfl, by kernel_rfl⟩
  · exact ⟨by kernel_rfl, by kernel_rfl⟩
  · exact ⟨by kernel_rfl, by kernel_rfl⟩
  · exact ⟨by kernel_rfl, by kernel_rfl⟩
  · exact ⟨by kernel_rfl, by kernel_rfl⟩
  · exact ⟨by kernel_rfl, by kernel_rfl⟩
theorem tt_closed : structsIn TT TT = true := by kernel_rfl
theorem tt_ok : TabOk Tryz.prog TT := by
  intro x hx
  simp only [TT, List.mem_cons, List.not_mem_nil, or_false] at hx
  rcases hx with rfl | rfl | rfl | rfl | rfl | rfl | rfl | rfl | rfl | rfl | rfl | rfl | rfl | rfl | rfl | rfl | rfl | rfl | rfl | rfl | rfl | rfl | rfl | rfl | rfl | rfl | rfl | rfl | rfl | rfl | rfl | rfl | rfl | rfl | rfl | rfl | rfl | rfl | rfl | rfl | rfl | rfl | rfl | rfl | rfl | rfl | rfl | rfl | rfl | rfl | rfl | rfl | rfl | rfl | rfl | rfl | rfl | rfl | rfl | rfl | rfl | rfl | rfl | rfl | rfl | rfl | rfl | rfl | rfl | rfl | rfl
  · exact tok2
  · exact tok3
  · exact tok4
  · exact tok5
  · exact tok9
  · exact tok12
  · exact tok21
  · exact tok22
  · exact tok23
  · exact tok24
  · exact tok25
  · exact tok26
  · exact tok27
  · exact tok28
  · exact tok30
  · exact tok31
  · exact tok34
  · exact tok35
  · exact tok41
  · exact tok52
  · exact tok53
  · exact tok54
  · exact tok57
  · exact tok58
  · exact tok59
  · exact tok60
  · exact tok61
  · exact tok62
  · exact tok63
  · exact tok64
  · exact tok76
  · exact tok77
  · exact tok86
  · exact tok87
  · exact tok88
  · exact tok94
  · exact tok95
  · exact tok96
  · exact tok97
  · exact tok103
  · exact tok104
  · exact tok105
  · exact tok116
  · exact tok117
  · exact tok118
  · exact tok119
  · exact tok123
  · exact tok124
  · exact tok125
  · exact tok126
  · exact tok127
  · exact tok129
  · exact tok131
  · exact tok136
  · exact tok137
  · exact tok138
  · exact tok139
  · exact tok140
  · exact tok141
  · exact tok144
  · exact tok148
  · exact tok149
  · exact tok152
  · exact tok156
  · exact tok167
  · exact tok168
  · exact tok169
  · exact tok170
  · exact tok182
  · exact tok199
  · exact tok203
theorem tt_eq : eqOkB Tryz.prog TT = true := by kernel_rfl
theorem tt_one : oneB TT = true := by kernel_rfl


theorem sV {w0 : World} {A : List Nat} {n : Nat} {E : List (Nat × Value)} {L : List Blk} {op : Op} {ty : TypeId} {v : Value} (h : stepV TT E op = some v) : Val Tryz.prog w0 A n E L op ty v := stepV_ok tt_ok h
theorem wP {ops : Array Oper} {Q : Exit → Act → World → Prop} {w0 : World} {A : List Nat} {n : Nat} {rest : List Oper} {E : List (Nat × Value)} {L : List Blk} {d : Nat} {op : Op} {ty : TypeId} {pos : String} {aft : Array Edge} {v : Value} (h : stepV TT E op = some v) (hd : Nat.blt d n = true) (k : WL Tryz.prog ops Q w0 A n rest ((d, v) :: E) L) :
    WL Tryz.prog ops Q w0 A n (⟨some d, op, ty, pos, aft, none⟩ :: rest) E L := wl_pure tt_ok h hd k
theorem qP {ops : Array Oper} {Q : Exit → Act → World → Prop} {w0 : World} {A : List Nat} {n : Nat} {rest : List Oper} {E : List (Nat × Value)} {L : List Blk} {d : Nat} {op : Op} {ty : TypeId} {pos : String} {aft : Array Edge} {v : Value} (h : stepV TT E op = some v) (hd : Nat.blt d n = true) (k : WQ Tryz.prog ops Q w0 A n rest ((d, v) :: E) L) :
    WQ Tryz.prog ops Q w0 A n (⟨some d, op, ty, pos, aft, none⟩ :: rest) E L := wq_pure tt_ok h hd k
theorem wM {ops : Array Oper} {Q : Exit → Act → World → Prop} {w0 : World} {A : List Nat} {n : Nat} {E E' : List (Nat × Value)} {L : List Blk} {l l' : List Oper} (k : Nat) (h : pureS TT n ops k l E = some (l', E')) (K : WL Tryz.prog ops Q w0 A n l' E' L) : WL Tryz.prog ops Q w0 A n l E L := wl_many tt_ok k h K
theorem qM {ops : Array Oper} {Q : Exit → Act → World → Prop} {w0 : World} {A : List Nat} {n : Nat} {E E' : List (Nat × Value)} {L : List Blk} {l l' : List Oper} (k : Nat) (h : pureS TT n ops k l E = some (l', E')) (K : WQ Tryz.prog ops Q w0 A n l' E' L) : WQ Tryz.prog ops Q w0 A n l E L := wq_many tt_ok k h K
theorem kM {ops : Array Oper} {Q : Exit → Act → World → Prop} {w0 : World} {A : List Nat} {n : Nat} {E E' : List (Nat × Value)} {L : List Blk} {Ls : List Blk} {eff late wt dn dn' todo todo' : List Nat} (hL : ∃ R, L.Perm (Ls ++ R)) (k : Nat) (h : pureK TT n ops eff k todo dn E = some (todo', dn', E')) (K : WK2 Tryz.prog ops Q w0 A n Ls eff late wt dn' todo' E' L) : WK2 Tryz.prog ops Q w0 A n Ls eff late wt dn todo E L := k_many tt_ok hL k h K

theorem pE {w0 : World} {n t : Nat} {E : List (Nat × Value)} {L : List Blk} {fn : Func} {v : Value} (hr : fn.results = [ResultVar.tmp t].toArray) (h : lookO E t = some v) : WX (bodyPost Tryz.prog fn (fun e w' => e = .returned v ∧ Inv w0 [] w' [])) w0 [] n .ret E L := wx_pf tt_ok (.inl rfl) hr (Res.tmp h Res.nil) rfl
theorem wE {w0 : World} {A : List Nat} {n : Nat} {E : List (Nat × Value)} {L : List Blk} {fn : Func} {rs : List ResultVar} {vs : List Value} {S : Value → (List Blk → List Blk) → Prop} {D : List Blk → List Blk} (hr : fn.results = rs.toArray) (h : Res TT E L rs vs) (hS : S (resV vs) D) (hL : ∃ R, L.Perm (D [] ++ R)) (hD : ∀ F, D [] ++ F = D F := by intro F; simp) :
    WX (bodyPost Tryz.prog fn (fun e w' => ∃ v L', e = .returned v ∧ Inv w0 A w' L' ∧ ∃ D, S v D ∧ L' = D [] ∧ ∀ F, D [] ++ F = D F)) w0 A n .ret E L := wx_spD tt_ok (.inl rfl) hr h hS hD hL
theorem rs1 {E : List (Nat × Value)} {L : List Blk} {t : Nat} {v : Value} (h : lookO E t = some v) : Res TT E L [.tmp t] [v] := Res.tmp h Res.nil
theorem rs2 {E : List (Nat × Value)} {L : List Blk} {t u : Nat} {v x : Value} (h : lookO E t = some v) (h' : lookO E u = some x) : Res TT E L [.tmp t, .tmp u] [v, x] := Res.tmp h (rs1 h')
theorem wLd {ops : Array Oper} {rest : List Oper} {Q : Exit → Act → World → Prop} {w0 : World} {A : List Nat} {n : Nat} {E : List (Nat × Value)} {L : List Blk} {t : TypeId} {x : Operand} {b o d : Nat} {c : List Value} {t' : TypeId} {fz : Nat × Nat} {ty : TypeId} {v : Value} {pos : String} {aft : Array Edge} (hx : evO E x = some (.pointer (some ⟨b, o, none⟩))) (hm : (⟨b, c, t', fz⟩ : Blk) ∈ L) (hp : partV TT t c o = some v) (hd : Nat.blt d n = true) (k : WL Tryz.prog ops Q w0 A n rest ((d, v) :: E) L) : WL Tryz.prog ops Q w0 A n (⟨some d, .load t x, ty, pos, aft, none⟩ :: rest) E L := wl_val (val_load tt_ok hx hm hp) hd k
theorem qLd {ops : Array Oper} {rest : List Oper} {Q : Exit → Act → World → Prop} {w0 : World} {A : List Nat} {n : Nat} {E : List (Nat × Value)} {L : List Blk} {t : TypeId} {x : Operand} {b o d : Nat} {c : List Value} {t' : TypeId} {fz : Nat × Nat} {ty : TypeId} {v : Value} {pos : String} {aft : Array Edge} (hx : evO E x = some (.pointer (some ⟨b, o, none⟩))) (hm : (⟨b, c, t', fz⟩ : Blk) ∈ L) (hp : partV TT t c o = some v) (hd : Nat.blt d n = true) (k : WQ Tryz.prog ops Q w0 A n rest ((d, v) :: E) L) : WQ Tryz.prog ops Q w0 A n (⟨some d, .load t x, ty, pos, aft, none⟩ :: rest) E L := wq_val (val_load tt_ok hx hm hp) hd k
theorem lSt {ops : Array Oper} {rest : List Oper} {Q : Exit → Act → World → Prop} {w0 : World} {A : List Nat} {n : Nat} {E : List (Nat × Value)} {L : List Blk} {t : TypeId} {x y : Operand} {b o : Nat} {c c' us : List Value} {t' : TypeId} {ty : TypeId} {v : Value} {i : TI} {pos : String} {aft : Array Edge} {L' : List Blk} (hu : Upd L ⟨b, c, t', (0, 0)⟩ ⟨b, c', t', (0, 0)⟩ L') (k : WL Tryz.prog ops Q w0 A n rest E L')
    (hx : evO E x = some (.pointer (some ⟨b, o, none⟩)) := by exact rfl) (hy : evO E y = some v := by exact rfl) (hl : lookT TT t = some i := by exact rfl) (hv : normO (cellsL v) = some us := by exact rfl) (hlen : Nat.beq us.length i.size = true := by exact rfl) (h1 : allOne us = true := by exact rfl) (hs : setO c o us = some c' := by exact rfl) : WL Tryz.prog ops Q w0 A n (⟨none, .store t x y, ty, pos, aft, none⟩ :: rest) E L := wl_store tt_ok hx hu hy hl hv hlen h1 hs k

end Go.Proofs.YtkdbpenjkcjimaaGreatDoor
